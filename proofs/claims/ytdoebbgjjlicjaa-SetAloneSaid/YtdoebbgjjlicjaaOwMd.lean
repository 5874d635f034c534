import Derived.Test.YtdoebbgjjlicjaaOwMc
/-
  What is proved here: pointers as bytes and back, rows of pointers (ptr), in plain words.
-/
namespace Go.Ow
set_option linter.unusedVariables false
set_option linter.unusedSimpArgs false

def ptrB (p : Ptr) : List UInt8 := leB p.At.toNat 1 ++ leB p.Birth.toNat 3 ++ leB p.Iv.toNat 4 ++ leB p.Tag.toNat 4 ++ leB p.Sum.toNat 4
theorem ptrB_length (p : Ptr) : (ptrB p).length = 16 := by simp only [ptrB, List.length_append, leB_length]
theorem write_step (p : Ptr) (i n k : Nat) (r : List UInt8) (hs : (A5.mk (1 : Int) 3 4 4 4).l[i]? = some (k : Int)) (hn : (A5.mk p.At (p.Birth.toNat : Int) (p.Iv.toNat : Int) (p.Tag.toNat : Int) (p.Sum.toNat : Int)).l[i]? = some (n : Int))
    (hi : i < 5) (hr : r.length ≤ 100) (h1 : 1 ≤ k) (h4 : k ≤ 4) (hlt : n < 256 ^ k) : ptr_Write_l1 p (A5.mk 1 3 4 4 4) (r, i) = some (.inl (r ++ leB n k, i + 1)) := by
  unfold ptr_Write_l1
  dsimp only
  rw [decide_eq_true (show (i : Int) < 5 by omega)]
  simp only [cond_true]
  rw [idx_eq (y := (k : Int)) ⟨by omega, hs⟩, idx_eq (y := (n : Int)) ⟨by omega, hn⟩, code_Put_eq h1 h4 hlt]
  simp only [Option.bind_some]
  rw [app_eq (by simp only [leB_length, LIM]; omega)]
theorem ptr_Write_eq {p : Ptr} (h : okR p) : ptr_Write p = some (ptrB p, 0) := by
  obtain ⟨h1, h2, h3, h4⟩ := h
  have hb : p.Birth.toNat < 256 ^ 3 := by
    have := UInt32.le_iff_toNat_le.1 h4
    have e : (16777215 : UInt32).toNat = 16777215 := rfl
    rw [e] at this
    have e3 : (256 : Nat) ^ 3 = 16777216 := by decide
    omega
  have e4 : (256 : Nat) ^ 4 = 4294967296 := by decide
  have hloop : loop (ptr_Write_l1 p (A5.mk 1 3 4 4 4)) (([] : List UInt8), 0) = some (ptrB p) :=
    run5 (write_step p 0 p.At.toNat 1 [] rfl (by show some p.At = some _; rw [Int.toNat_of_nonneg (by omega)]) (by omega) (by simp) (by omega) (by omega) (by omega))
      (write_step p 1 p.Birth.toNat 3 _ rfl rfl (by omega) (by simp [leB_length]) (by omega) (by omega) hb)
      (write_step p 2 p.Iv.toNat 4 _ rfl rfl (by omega) (by simp [leB_length]) (by omega) (by omega) (by have := u32_lt p.Iv; omega))
      (write_step p 3 p.Tag.toNat 4 _ rfl rfl (by omega) (by simp [leB_length]) (by omega) (by omega) (by have := u32_lt p.Tag; omega))
      (write_step p 4 p.Sum.toNat 4 _ rfl rfl (by omega) (by simp [leB_length]) (by omega) (by omega) (by have := u32_lt p.Sum; omega))
      (by unfold ptr_Write_l1; rfl)
  unfold ptr_Write
  rw [ptr_Check_eq', if_pos (.inr ⟨h1, h2, h3, h4⟩)]
  simp only [Option.bind_some, decide_true, Bool.not_true, cond_false, ptr_sizes]
  rw [hloop]
  rfl

def at5 (b : List UInt8) : Ptr := ⟨(numB ((b.drop 0).take 1) : Int), u32i (numB ((b.drop 1).take 3) : Int), u32i (numB ((b.drop 4).take 4) : Int), u32i (numB ((b.drop 8).take 4) : Int), u32i (numB ((b.drop 12).take 4) : Int)⟩
theorem ptr_Read_eq {b : List UInt8} (h : b.length = 16) : ptr_Read b = some (if isNone (at5 b) ∨ okR (at5 b) then (at5 b, 0) else (⟨0, 0, 0, 0, 0⟩, 8)) := by
  have g : ∀ (a k : Nat), 1 ≤ k → k ≤ 4 → a + k ≤ 16 → code_Get b (a : Int) (k : Int) = some ((numB ((b.drop a).take k) : Int), 0) := fun a k h1 h4 h5 => code_Get_eq h1 h4 (by omega) (by omega)
  have hloop : loop (ptr_Read_l1 b (A5.mk 1 3 4 4 4)) (0, 0, 0, 0, 0, 0, 0) = some ((numB ((b.drop 0).take 1) : Int), (numB ((b.drop 1).take 3) : Int), (numB ((b.drop 4).take 4) : Int), (numB ((b.drop 8).take 4) : Int), (numB ((b.drop 12).take 4) : Int)) := by
    have g0 := g 0 1 (by omega) (by omega) (by omega)
    have g1 := g 1 3 (by omega) (by omega) (by omega)
    have g2 := g 4 4 (by omega) (by omega) (by omega)
    have g3 := g 8 4 (by omega) (by omega) (by omega)
    have g4 := g 12 4 (by omega) (by omega) (by omega)
    generalize (numB ((b.drop 0).take 1) : Int) = n0 at g0 ⊢
    generalize (numB ((b.drop 1).take 3) : Int) = n1 at g1 ⊢
    generalize (numB ((b.drop 4).take 4) : Int) = n2 at g2 ⊢
    generalize (numB ((b.drop 8).take 4) : Int) = n3 at g3 ⊢
    generalize (numB ((b.drop 12).take 4) : Int) = n4 at g4 ⊢
    refine run5 (s1 := (n0, 0, 0, 0, 0, 1, 1)) (s2 := (n0, n1, 0, 0, 0, 4, 2)) (s3 := (n0, n1, n2, 0, 0, 8, 3)) (s4 := (n0, n1, n2, n3, 0, 12, 4)) (s5 := (n0, n1, n2, n3, n4, 16, 5)) ?_ ?_ ?_ ?_ ?_ ?_
    · unfold ptr_Read_l1
      show Option.bind (code_Get b 0 1) _ = _
      rw [show code_Get b 0 1 = some (n0, 0) from g0]; rfl
    · unfold ptr_Read_l1
      show Option.bind (code_Get b 1 3) _ = _
      rw [show code_Get b 1 3 = some (n1, 0) from g1]; rfl
    · unfold ptr_Read_l1
      show Option.bind (code_Get b 4 4) _ = _
      rw [show code_Get b 4 4 = some (n2, 0) from g2]; rfl
    · unfold ptr_Read_l1
      show Option.bind (code_Get b 8 4) _ = _
      rw [show code_Get b 8 4 = some (n3, 0) from g3]; rfl
    · unfold ptr_Read_l1
      show Option.bind (code_Get b 12 4) _ = _
      rw [show code_Get b 12 4 = some (n4, 0) from g4]; rfl
    · unfold ptr_Read_l1; rfl
  unfold ptr_Read
  rw [decide_eq_true (show (b.length : Int) = 16 by omega)]
  simp only [Bool.not_true, cond_false, ptr_sizes, Option.bind_some]
  rw [hloop]
  simp only [Option.bind_some]
  rw [show (Ptr.mk (numB ((b.drop 0).take 1) : Int) (u32i (numB ((b.drop 1).take 3) : Int)) (u32i (numB ((b.drop 4).take 4) : Int)) (u32i (numB ((b.drop 8).take 4) : Int)) (u32i (numB ((b.drop 12).take 4) : Int))) = at5 b from rfl, ptr_Check_eq']
  by_cases c : isNone (at5 b) ∨ okR (at5 b)
  · rw [if_pos c, if_pos c]; rfl
  · rw [if_neg c, if_neg c]; rfl
theorem drop_app {α : Type} (a b : List α) {n : Nat} (h : a.length = n) : (a ++ b).drop n = b := by subst h; exact List.drop_left
theorem take_app {α : Type} (a b : List α) {n : Nat} (h : a.length = n) : (a ++ b).take n = a := by subst h; exact List.take_left
theorem u32i_num {a : UInt32} {k : Nat} (h : a.toNat < 256 ^ k) : u32i (numB (leB a.toNat k) : Int) = a := by
  rw [numB_leB h]
  unfold u32i
  apply UInt32.toNat_inj.1
  rw [UInt32.toNat_ofNat']
  have := u32_lt a
  omega
theorem at5_ptrB {p : Ptr} (h : okR p) : at5 (ptrB p) = p := by
  obtain ⟨h1, h2, h3, h4⟩ := h
  have hb : p.Birth.toNat < 256 ^ 3 := by
    have := UInt32.le_iff_toNat_le.1 h4
    have e : (16777215 : UInt32).toNat = 16777215 := rfl
    rw [e] at this
    have e3 : (256 : Nat) ^ 3 = 16777216 := by decide
    omega
  have e4 : (256 : Nat) ^ 4 = 4294967296 := by decide
  have q0 : ptrB p = leB p.At.toNat 1 ++ (leB p.Birth.toNat 3 ++ (leB p.Iv.toNat 4 ++ (leB p.Tag.toNat 4 ++ leB p.Sum.toNat 4))) := by simp only [ptrB, List.append_assoc]
  have q1 : (ptrB p).drop 1 = leB p.Birth.toNat 3 ++ (leB p.Iv.toNat 4 ++ (leB p.Tag.toNat 4 ++ leB p.Sum.toNat 4)) := by rw [q0]; exact drop_app _ _ (leB_length _ _)
  have q2 : (ptrB p).drop 4 = leB p.Iv.toNat 4 ++ (leB p.Tag.toNat 4 ++ leB p.Sum.toNat 4) := by rw [show 4 = 1 + 3 from rfl, ← List.drop_drop, q1]; exact drop_app _ _ (leB_length _ _)
  have q3 : (ptrB p).drop 8 = leB p.Tag.toNat 4 ++ leB p.Sum.toNat 4 := by rw [show 8 = 4 + 4 from rfl, ← List.drop_drop, q2]; exact drop_app _ _ (leB_length _ _)
  have q4 : (ptrB p).drop 12 = leB p.Sum.toNat 4 := by rw [show 12 = 8 + 4 from rfl, ← List.drop_drop, q3]; exact drop_app _ _ (leB_length _ _)
  unfold at5
  rw [List.drop_zero, q1, q2, q3, q4, take_app _ _ (leB_length _ 3), take_app _ _ (leB_length _ 4), take_app _ _ (leB_length _ 4), List.take_of_length_le (l := leB p.Sum.toNat 4) (by rw [leB_length]; omega), q0, take_app _ _ (leB_length _ 1)]
  rw [u32i_num hb, u32i_num (by have := u32_lt p.Iv; omega), u32i_num (by have := u32_lt p.Tag; omega), u32i_num (by have := u32_lt p.Sum; omega), numB_leB (by omega), Int.toNat_of_nonneg (by omega)]

def okP (p : Ptr) : Prop := isNone p ∨ okR p
instance (p : Ptr) : Decidable (okP p) := by unfold okP; infer_instance
theorem isNone.eq {p : Ptr} (h : isNone p) : p = noP := by
  obtain ⟨a, b, c, d, e⟩ := p
  obtain ⟨h1, h2, h3, h4, h5⟩ := h
  simp only at h1 h2 h3 h4 h5
  subst h1; subst h2; subst h3; subst h4; subst h5; rfl
theorem ptrB_no : ptrB noP = List.replicate 16 0 := by decide +kernel
theorem write_no : ptr_Write noP = some (ptrB noP, 0) := by decide +kernel
theorem ptr_Write_ok {p : Ptr} (h : okP p) : ptr_Write p = some (ptrB p, 0) := by
  rcases h with h | h
  · rw [h.eq]; exact write_no
  · exact ptr_Write_eq h
theorem ptr_Write_bad {p : Ptr} (h : ¬ okP p) : ptr_Write p = some ([], 8) := by
  unfold ptr_Write
  rw [ptr_Check_eq', if_neg (show ¬ (isNone p ∨ okR p) from h)]; rfl
theorem Ptr.ext_iff' {a b : Ptr} : a = b ↔ (a.At = b.At ∧ a.Birth = b.Birth ∧ a.Iv = b.Iv ∧ a.Tag = b.Tag ∧ a.Sum = b.Sum) := by
  constructor
  · intro h; subst h; exact ⟨rfl, rfl, rfl, rfl, rfl⟩
  · intro h
    obtain ⟨a1, a2, a3, a4, a5⟩ := a
    obtain ⟨b1, b2, b3, b4, b5⟩ := b
    simp only at h
    obtain ⟨rfl, rfl, rfl, rfl, rfl⟩ := h
    rfl
instance : DecidableEq Ptr := fun a b => decidable_of_iff _ Ptr.ext_iff'.symm
theorem ptr_dec (a b : Ptr) : (decide (a.At = b.At) && (decide (a.Birth = b.Birth) && (decide (a.Iv = b.Iv) && (decide (a.Tag = b.Tag) && (decide (a.Sum = b.Sum) && true))))) = decide (a = b) := by
  rw [Bool.eq_iff_iff]
  simp only [Bool.and_eq_true, decide_eq_true_eq, and_true]
  exact Ptr.ext_iff'.symm
theorem at5_no : at5 (ptrB noP) = noP := by decide +kernel
theorem at5_ptrB' {p : Ptr} (h : okP p) : at5 (ptrB p) = p := by
  rcases h with h | h
  · rw [h.eq]; exact at5_no
  · exact at5_ptrB h

/-! ### Rows -/
def rowF (y : Ptr) (r : List UInt8) : Option (List UInt8 ⊕ (List UInt8 ⊕ Int)) := Option.bind (ptr_Write y) fun x => cond (!decide (x.2 = 0)) (some (.inr (.inr x.2))) (appN 256 r x.1 fun q => some (.inl q))
theorem flat_len (l : List Ptr) : ((l.map ptrB).flatten).length = 16 * l.length := by
  induction l with
  | nil => rfl
  | cons p r ih => rw [List.map_cons, List.flatten_cons, List.length_append, ih, ptrB_length, List.length_cons]; omega
theorem row_fold : ∀ (l : List Ptr) (r : List UInt8), r.length + 16 * l.length ≤ 256 →
    forL rowF l r = some (if ∀ p ∈ l, okP p then .inl (r ++ (l.map ptrB).flatten) else .inr (.inr 8))
  | [], r, _ => by simp [forL]
  | p :: l, r, h => by
    rw [List.length_cons] at h
    by_cases hp : okP p
    · rw [forL_cons (s' := r ++ ptrB p) (by unfold rowF; rw [ptr_Write_ok hp, Option.bind_some, zdec, cond_false, appN_eq (by rw [ptrB_length]; omega)]), row_fold l _ (by rw [List.length_append, ptrB_length]; omega)]
      by_cases hl : ∀ q ∈ l, okP q
      · rw [if_pos hl, if_pos (fun q hq => by rcases List.mem_cons.1 hq with rfl | h; exact hp; exact hl q h)]
        simp
      · rw [if_neg hl, if_neg (fun h => hl (fun q hq => h q (by simp [hq])))]
    · rw [forL_stop (e := .inr 8) (by unfold rowF; rw [ptr_Write_bad hp]; rfl), if_neg (fun h => hp (h p (by simp)))]
def rowB (l : List Ptr) : List UInt8 := (l.map ptrB).flatten ++ List.replicate (256 - 16 * l.length) 0
theorem rowB_length {l : List Ptr} (h : l.length ≤ 16) : (rowB l).length = 256 := by rw [rowB, List.length_append, flat_len, List.length_replicate]; omega
theorem ptr_Row_eq {l : List Ptr} (h : l.length ≤ 16) : ptr_Row l = some (if ∀ p ∈ l, okP p then (rowB l, 0) else ([], 8)) := by
  unfold ptr_Row
  rw [decide_eq_false (by omega), cond_false]
  rw [loop_each' l (fun i r => (r, i)) rowF (fun r => .inl r) (fun i hi r => by
    unfold ptr_Row_l1
    dsimp only
    rw [decide_eq_true (by omega), cond_true, idx_nat _ hi]
    unfold rowF
    cases ptr_Write l[i] with
    | none => rfl
    | some x =>
      rw [Option.bind_some, Option.bind_some]
      cases hb : (!decide (x.2 = 0)) with
      | true => rfl
      | false =>
        rw [cond_false, cond_false]
        unfold appN
        split <;> rfl) (fun r => by
    unfold ptr_Row_l1
    dsimp only
    rw [decide_eq_false (by omega)]; rfl) (lt_fuel h (by decide)) [], row_fold l [] (by simp; omega)]
  by_cases hl : ∀ q ∈ l, okP q
  · rw [if_pos hl, if_pos hl, Option.bind_some]
    show Option.bind (some (Sum.inl _)) _ = _
    rw [Option.bind_some, Sum.elim_inl, List.nil_append, extO_eq (by rw [flat_len]; omega)]
    unfold rowB
    rw [flat_len]; rfl
  · rw [if_neg hl, if_neg hl]; rfl

def rowsF (y : List UInt8) (s : List Ptr) : Option (List Ptr ⊕ Int) := some (if okP (at5 y) then .inl (s ++ [at5 y]) else .inr 8)
theorem rows_r1 {y : List UInt8} (h : y.length = 16) {s : List Ptr} (hs : s.length ≤ 100) : ptr_Rows_r1 y s = rowsF y s := by
  unfold ptr_Rows_r1 rowsF
  rw [ptr_Read_eq h, Option.bind_some]
  by_cases c : okP (at5 y)
  · rw [if_pos (show isNone (at5 y) ∨ okR (at5 y) from c), if_pos c, zdec, cond_false, app_eq (lim_le (by simp; omega))]
  · rw [if_neg (show ¬ (isNone (at5 y) ∨ okR (at5 y)) from c), if_neg c]; rfl
theorem rows_fold : ∀ (ys : List (List UInt8)) (s : List Ptr), (∀ y ∈ ys, y.length = 16) → s.length + ys.length ≤ 100 →
    forL ptr_Rows_r1 ys s = some (if ∀ y ∈ ys, okP (at5 y) then .inl (s ++ ys.map at5) else .inr 8)
  | [], s, _, _ => by simp [forL]
  | y :: ys, s, hy, hs => by
    rw [List.length_cons] at hs
    have h1 := rows_r1 (hy y (by simp)) (s := s) (by omega)
    by_cases c : okP (at5 y)
    · rw [forL_cons (s' := s ++ [at5 y]) (by rw [h1]; unfold rowsF; rw [if_pos c]), rows_fold ys _ (fun z hz => hy z (by simp [hz])) (by simp; omega)]
      by_cases hl : ∀ q ∈ ys, okP (at5 q)
      · rw [if_pos hl, if_pos (fun q hq => by rcases List.mem_cons.1 hq with rfl | h; exact c; exact hl q h)]; simp
      · rw [if_neg hl, if_neg (fun h => hl (fun q hq => h q (by simp [hq])))]
    · rw [forL_stop (e := 8) (by rw [h1]; unfold rowsF; rw [if_neg c]), if_neg (fun h => c (h y (by simp)))]
def ptrsOf (b : List UInt8) : List Ptr := (chunks 16 b.length b).map at5
def rowsB (b : List UInt8) : List Ptr × Int := if ∀ p ∈ ptrsOf b, okP p then (ptrsOf b, 0) else ([], 8)
theorem chunks_count : ∀ (f : Nat) (b : List UInt8) (n : Nat), b.length ≤ f → b.length = 16 * n → (chunks 16 f b).length = n
  | 0, b, n, h, e => by simp [chunks]; omega
  | f + 1, b, n, h, e => by
    by_cases hb : b = []
    · subst hb; rw [chunks_nil]; simp at e ⊢; omega
    · have := List.length_pos_iff.2 hb
      obtain ⟨n, rfl⟩ : ∃ m, n = m + 1 := ⟨n - 1, by omega⟩
      rw [chunks_step hb, List.length_cons, chunks_count f (b.drop 16) n (by rw [List.length_drop]; omega) (by rw [List.length_drop]; omega)]
theorem ptrsOf_length {b : List UInt8} (h : b.length = 256) : (ptrsOf b).length = 16 := by unfold ptrsOf; rw [List.length_map, chunks_count _ b 16 (Nat.le_refl _) (by omega)]
theorem ptr_Rows_eq {b : List UInt8} (h : b.length = 256) : ptr_Rows b = some (rowsB b) := by
  unfold ptr_Rows
  rw [decide_eq_true (show (b.length : Int) = 256 by omega)]
  rw [show (!true) = false from rfl, cond_false]
  unfold slices_Chunk_byte
  rw [if_pos ⟨by omega, by omega, lim_le (by omega)⟩, Option.bind_some, show (16 : Int).toNat = 16 from rfl, rows_fold _ [] (chunks_len (by omega) _ _ (Nat.le_refl _) (by omega)) (by rw [chunks_count _ b 16 (Nat.le_refl _) (by omega)]; simp)]
  unfold rowsB ptrsOf
  by_cases hl : ∀ y ∈ chunks 16 b.length b, okP (at5 y)
  · rw [if_pos hl, if_pos (fun p hp => by obtain ⟨y, hy, rfl⟩ := List.mem_map.1 hp; exact hl y hy)]; rfl
  · rw [if_neg hl, if_neg (fun h => hl (fun y hy => h _ (List.mem_map_of_mem hy)))]; rfl
theorem chunks_row : ∀ (l : List Ptr) (k f : Nat), 16 * l.length + 16 * k ≤ f → chunks 16 f ((l.map ptrB).flatten ++ List.replicate (16 * k) 0) = l.map ptrB ++ List.replicate k (ptrB noP)
  | [], 0, f, _ => by simp [chunks_nil]
  | [], k + 1, 0, h => by omega
  | [], k + 1, f + 1, h => by
    have e : List.replicate (16 * (k + 1)) (0 : UInt8) = List.replicate 16 0 ++ List.replicate (16 * k) 0 := by rw [List.replicate_append_replicate]; congr 1; omega
    have ih := chunks_row [] k f (by simp at h ⊢; omega)
    simp only [List.map_nil, List.flatten_nil, List.nil_append] at ih ⊢
    rw [e, chunks_step (by simp), take_app _ _ (by simp), drop_app _ _ (by simp), ih, ptrB_no]; rfl
  | p :: l, k, 0, h => by simp at h
  | p :: l, k, f + 1, h => by
    have ih := chunks_row l k f (by simp at h; omega)
    rw [List.map_cons, List.flatten_cons, List.append_assoc]
    have hne : ptrB p ++ ((l.map ptrB).flatten ++ List.replicate (16 * k) 0) ≠ [] := by
      intro e
      have := congrArg List.length e
      rw [List.length_append, ptrB_length] at this
      simp at this
    rw [chunks_step hne, take_app _ _ (ptrB_length p), drop_app _ _ (ptrB_length p), ih]; rfl
theorem ptrsOf_row {l : List Ptr} (h : l.length ≤ 16) (hp : ∀ p ∈ l, okP p) : ptrsOf (rowB l) = l ++ List.replicate (16 - l.length) noP := by
  unfold ptrsOf
  rw [rowB_length h]
  unfold rowB
  rw [show 256 - 16 * l.length = 16 * (16 - l.length) by omega, chunks_row l _ _ (by omega), List.map_append, List.map_map, List.map_replicate, at5_no]
  congr 1
  conv => rhs; rw [← List.map_id l]
  exact List.map_congr_left (fun p hq => at5_ptrB' (hp p hq))
theorem okP_no : okP noP := .inl noP_none
theorem rowsB_row {l : List Ptr} (h : l.length ≤ 16) (hp : ∀ p ∈ l, okP p) : rowsB (rowB l) = (l ++ List.replicate (16 - l.length) noP, 0) := by
  unfold rowsB
  rw [ptrsOf_row h hp, if_pos]
  intro p hq
  rcases List.mem_append.1 hq with h | h
  · exact hp p h
  · rw [(List.mem_replicate.1 h).2]; exact okP_no
end Go.Ow

/-
  What is proved here: objects as blocks and back (obj), the pointers and objects below a root (set), in plain words.
-/
namespace Go.Ow
set_option linter.unusedVariables false
set_option linter.unusedSimpArgs false

/-! ### May an object be? -/
def okO (o : Object) : Prop := ((1 : Int) ≤ (o.Kind.toNat : Int) ∧ (o.Kind.toNat : Int) ≤ 7) ∧ (0 ≤ o.Links ∧ o.Links ≤ 255) ∧ (0 ≤ o.Size ∧ o.Size ≤ 3840) ∧ o.Data.length = 15 ∧ ∀ p ∈ o.Data, okP p
instance (o : Object) : Decidable (okO o) := by unfold okO; infer_instance
theorem within_eq (n a b : Int) : obj_Check_1 n a b = some (decide (a ≤ n ∧ n ≤ b)) := by
  unfold obj_Check_1
  by_cases h : a ≤ n
  · rw [decide_eq_true h, cond_true, Option.bind_some]; simp [h]
  · rw [decide_eq_false h, cond_false, Option.bind_some]; simp [h]
theorem wrong_eq (p : Ptr) : obj_Check_2 p = some (!decide (okP p)) := by
  unfold obj_Check_2
  rw [ptr_Check_eq', Option.bind_some]
  by_cases h : okP p
  · rw [if_pos (show isNone p ∨ okR p from h), decide_eq_true h]; rfl
  · rw [if_neg (show ¬ (isNone p ∨ okR p) from h), decide_eq_false h]; rfl
theorem index_run (l : List Ptr) : ∀ (k i n : Nat), i + k = l.length → k < n →
    ∃ o, run (slices_IndexFunc_Ptr_l1 l) n i = some o ∧ (if ∀ p ∈ l.drop i, okP p then o = .inl () else ∃ j : Nat, o = .inr (j : Int))
  | 0, i, n, hi, hn => by
    obtain ⟨n, rfl⟩ : ∃ m, n = m + 1 := ⟨n - 1, by omega⟩
    refine ⟨.inl (), run_en (by unfold slices_IndexFunc_Ptr_l1; rw [decide_eq_false (by omega)]; rfl), ?_⟩
    rw [List.drop_eq_nil_of_le (by omega), if_pos (by simp)]
  | k + 1, i, n, hi, hn => by
    obtain ⟨n, rfl⟩ : ∃ m, n = m + 1 := ⟨n - 1, by omega⟩
    have hlt : i < l.length := by omega
    rw [List.drop_eq_getElem_cons hlt]
    by_cases c : okP l[i]
    · obtain ⟨o, h1, h2⟩ := index_run l k (i + 1) n (by omega) (by omega)
      refine ⟨o, ?_, ?_⟩
      · rw [run_st (s' := i + 1) (by unfold slices_IndexFunc_Ptr_l1; rw [decide_eq_true (by omega), cond_true, idx_nat _ hlt, wrong_eq, Option.bind_some, decide_eq_true c]; rfl)]; exact h1
      · by_cases hd : ∀ p ∈ l.drop (i + 1), okP p
        · rw [if_pos hd] at h2; rw [if_pos (fun p hp => by rcases List.mem_cons.1 hp with rfl | h; exact c; exact hd p h)]; exact h2
        · rw [if_neg hd] at h2; rw [if_neg (fun h => hd (fun p hp => h p (List.mem_cons_of_mem _ hp)))]; exact h2
    · refine ⟨.inr (i : Int), run_en (by unfold slices_IndexFunc_Ptr_l1; rw [decide_eq_true (by omega), cond_true, idx_nat _ hlt, wrong_eq, Option.bind_some, decide_eq_false c]; rfl), ?_⟩
      rw [if_neg (fun h => c (h _ List.mem_cons_self))]; exact ⟨i, rfl⟩
theorem contains_eq {l : List Ptr} (h : l.length ≤ 1000) : slices_ContainsFunc_Ptr l = some (!decide (∀ p ∈ l, okP p)) := by
  obtain ⟨o, h1, h2⟩ := index_run l l.length 0 1001 (by omega) (by omega)
  have hl : loop (slices_IndexFunc_Ptr_l1 l) 0 = some o := loop_of (by decide) h1
  unfold slices_ContainsFunc_Ptr slices_IndexFunc_Ptr
  rw [hl, Option.bind_some]
  rw [List.drop_zero] at h2
  by_cases hd : ∀ p ∈ l, okP p
  · rw [if_pos hd] at h2; subst h2; rw [decide_eq_true hd]; rfl
  · rw [if_neg hd] at h2; obtain ⟨j, rfl⟩ := h2; rw [decide_eq_false hd]
    rw [Sum.elim_inr, Option.bind_some, decide_eq_true (by omega)]; rfl
theorem obj_Check_eq (o : Object) : obj_Check o = some (if okO o then 0 else 8) := by
  unfold obj_Check
  rw [within_eq, Option.bind_some]
  by_cases h1 : (1 : Int) ≤ (o.Kind.toNat : Int) ∧ (o.Kind.toNat : Int) ≤ 7
  · rw [decide_eq_true h1, Bool.not_true, cond_false, within_eq, Option.bind_some]
    by_cases h2 : 0 ≤ o.Links ∧ o.Links ≤ 255
    · rw [decide_eq_true h2, Bool.not_true, cond_false, within_eq, Option.bind_some]
      by_cases h3 : 0 ≤ o.Size ∧ o.Size ≤ 3840
      · rw [decide_eq_true h3, Bool.not_true, cond_false]
        by_cases h4 : o.Data.length = 15
        · rw [decide_eq_true (show (o.Data.length : Int) = 15 by omega), Bool.not_true, cond_false, contains_eq (by omega), Option.bind_some]
          by_cases h5 : ∀ p ∈ o.Data, okP p
          · rw [decide_eq_true h5, if_pos ⟨h1, h2, h3, h4, h5⟩]; rfl
          · rw [decide_eq_false h5, if_neg (fun h => h5 h.2.2.2.2)]; rfl
        · rw [decide_eq_false (show ¬ (o.Data.length : Int) = 15 by omega), if_neg (fun h => h4 h.2.2.2.1)]; rfl
      · rw [decide_eq_false h3, if_neg (fun h => h3 h.2.2.1)]; rfl
    · rw [decide_eq_false h2, if_neg (fun h => h2 h.2.1)]; rfl
  · rw [decide_eq_false h1, if_neg (fun h => h1 h.1)]; rfl

/-! ### As a block -/
def objB (o : Object) : List UInt8 := ([o.Kind, u8i o.Links] ++ leB o.Size.toNat 2) ++ List.replicate 12 0 ++ (rowB o.Data).take 240
theorem objB_length {o : Object} (h : o.Data.length ≤ 16) : (objB o).length = 256 := by
  unfold objB
  rw [List.length_append, List.length_append, List.length_append, leB_length, List.length_replicate, List.length_take, rowB_length h]; rfl
def zero16 : List UInt8 := [(0 : UInt8), (0 : UInt8), (0 : UInt8), (0 : UInt8), (0 : UInt8), (0 : UInt8), (0 : UInt8), (0 : UInt8), (0 : UInt8), (0 : UInt8), (0 : UInt8), (0 : UInt8), (0 : UInt8), (0 : UInt8), (0 : UInt8), (0 : UInt8)]
theorem cpy16 {β : Type} (q : List UInt8) (h : q.length = 4) (k : List UInt8 → Option β) : cpyO zero16 0 (zero16.length : Int) q k = k (q ++ List.replicate 12 0) := by
  rw [cpyO_eq ⟨by omega, by decide, Int.le_refl _⟩]
  congr 1
  match q, h with
  | [a, b, c, d], _ => rfl
theorem obj_Write_eq {o : Object} (h : okO o) : obj_Write o = some (objB o, 0) := by
  unfold obj_Write
  rw [obj_Check_eq, if_pos h, Option.bind_some, zdec, cond_false]
  obtain ⟨h1, h2, h3, h4, h5⟩ := h
  obtain ⟨n, hn⟩ := Int.eq_ofNat_of_zero_le h3.1
  have hn2 : n < 256 ^ 2 := by
    have : (256 : Nat) ^ 2 = 65536 := rfl
    omega
  have hs : code_Put o.Size 2 = some (leB o.Size.toNat 2, 0) := by
    rw [hn]; exact code_Put_eq (k := 2) (by omega) (by omega) hn2
  rw [hs, Option.bind_some, app_eq (lim_le (by rw [leB_length]; simp))]
  show cpyO zero16 0 (zero16.length : Int) ([o.Kind, u8i o.Links] ++ leB o.Size.toNat 2) _ = _
  rw [cpy16 _ (by rw [List.length_append, leB_length]; rfl), ptr_Row_eq (by omega), if_pos h5, Option.bind_some, zdec, cond_false]
  have hr := rowB_length (l := o.Data) (by omega)
  rw [slc_eq (by omega) (by omega) (by rw [hr]; omega)]
  have hcut : cut (rowB o.Data) 0 240 = (rowB o.Data).take 240 := rfl
  have hl : ((rowB o.Data).take 240).length = 240 := by rw [List.length_take, hr]; rfl
  have hne : (rowB o.Data).take 240 ≠ [] := fun e => by rw [e] at hl; cases hl
  rw [hcut, chk_eq hne, app_eq (lim_le (by rw [hl]; simp [leB_length]))]
  rfl
theorem A16.first_eq {α : Type} (d : α) {l : List α} (h : 16 ≤ l.length) : ∃ m : A16 α, m.l = l.take 16 ∧ ∀ {β : Type} (k : A16 α → Option β), A16.first d l k = k m := by
  refine ⟨A16.of d (l.take 16), A16.of_l d _ (by rw [List.length_take]; omega), fun k => ?_⟩
  unfold A16.first; rw [if_pos h]
def noO : Object := ⟨0, 0, 0, []⟩
def objOf (b : List UInt8) : Object := ⟨b.getD 0 0, ((b.getD 1 0).toNat : Int), (numB ((b.drop 2).take 2) : Int), (ptrsOf (b.drop 16 ++ List.replicate 16 0)).take 15⟩
def readO (b : List UInt8) : Object × Int :=
  if (rowsB (b.drop 16 ++ List.replicate 16 0)).2 = 0 ∧ (b.take 16).drop 4 = List.replicate 12 0 ∧ okO (objOf b) then (objOf b, 0) else (noO, 8)
theorem rowsB_ok {b : List UInt8} (h : (rowsB b).2 = 0) : rowsB b = (ptrsOf b, 0) ∧ ∀ p ∈ ptrsOf b, okP p := by
  unfold rowsB at h ⊢
  by_cases c : ∀ p ∈ ptrsOf b, okP p
  · rw [if_pos c]; exact ⟨rfl, c⟩
  · rw [if_neg c] at h; cases h
theorem rowsB_err {b : List UInt8} (h : (rowsB b).2 ≠ 0) : rowsB b = ([], 8) := by
  unfold rowsB at h ⊢
  by_cases c : ∀ p ∈ ptrsOf b, okP p
  · rw [if_pos c] at h; exact absurd rfl h
  · rw [if_neg c]
theorem obj_Read_eq {b : List UInt8} (h : b.length = 256) : obj_Read b = some (readO b) := by
  unfold obj_Read
  rw [decide_eq_true (show (b.length : Int) = 256 by omega), Bool.not_true, cond_false]
  obtain ⟨m, hm, e⟩ := A16.first_eq (0 : UInt8) (l := b) (by omega)
  rw [e]
  have hdl : (b.drop 16).length = 240 := by rw [List.length_drop, h]
  have hcut : cut b 16 (b.length : Int) = b.drop 16 := by
    unfold cut
    rw [h]; exact List.take_of_length_le (by rw [List.length_drop, h]; decide)
  rw [slc_eq (by omega) (by omega) (Int.le_refl _), hcut, app_eq (lim_le (by rw [hdl]; simp)), ptr_Rows_eq (by rw [List.length_append, hdl]; rfl), Option.bind_some]
  have h12 : ([m.e4, m.e5, m.e6, m.e7, m.e8, m.e9, m.e10, m.e11, m.e12, m.e13, m.e14, m.e15] : List UInt8) = (b.take 16).drop 4 := by rw [← hm]; rfl
  have h0 : m.e0 = b.getD 0 0 := by
    have : (m.l).getD 0 0 = (b.take 16).getD 0 0 := by rw [hm]
    rw [show m.e0 = (m.l).getD 0 0 from rfl, this]; simp [List.getD_eq_getElem?_getD, List.getElem?_take]
  have h1 : m.e1 = b.getD 1 0 := by
    have : (m.l).getD 1 0 = (b.take 16).getD 1 0 := by rw [hm]
    rw [show m.e1 = (m.l).getD 1 0 from rfl, this]; simp [List.getD_eq_getElem?_getD, List.getElem?_take]
  unfold readO
  by_cases c1 : (rowsB (b.drop 16 ++ List.replicate 16 0)).2 = 0
  · obtain ⟨c2, c3⟩ := rowsB_ok c1
    rw [c2] at c1 ⊢
    rw [zdec, cond_false, h12]
    by_cases c4 : (b.take 16).drop 4 = List.replicate 12 (0 : UInt8)
    · rw [decide_eq_true (show (b.take 16).drop 4 = [(0 : UInt8), (0 : UInt8), (0 : UInt8), (0 : UInt8), (0 : UInt8), (0 : UInt8), (0 : UInt8), (0 : UInt8), (0 : UInt8), (0 : UInt8), (0 : UInt8), (0 : UInt8)] from c4), Bool.not_true, cond_false]
      have hg := code_Get_eq (b := b) (at' := 2) (k := 2) (by omega) (by omega) (by omega) (by omega)
      rw [show code_Get b 2 2 = some ((numB ((b.drop 2).take 2) : Int), 0) from hg, Option.bind_some]
      have hpl := ptrsOf_length (b := b.drop 16 ++ List.replicate 16 0) (by rw [List.length_append, hdl]; rfl)
      rw [slc_eq (by omega) (by omega) (by show (15 : Int) ≤ ((ptrsOf _).length : Int); rw [hpl]; omega)]
      have ho : (Object.mk m.e0 (m.e1.toNat : Int) (numB ((b.drop 2).take 2) : Int) (cut (ptrsOf (b.drop 16 ++ List.replicate 16 0)) 0 15)) = objOf b := by rw [h0, h1]; rfl
      rw [show (Object.mk m.e0 (m.e1.toNat : Int) ((numB ((b.drop 2).take 2) : Int), (0 : Int)).1 (cut (ptrsOf (b.drop 16 ++ List.replicate 16 0), (0 : Int)).1 0 15)) = objOf b from ho, obj_Check_eq, Option.bind_some]
      by_cases c5 : okO (objOf b)
      · rw [if_pos c5, if_pos ⟨rfl, c4, c5⟩, zdec, cond_false]
      · rw [if_neg c5, if_neg (fun h => c5 h.2.2)]; rfl
    · rw [decide_eq_false (show ¬ (b.take 16).drop 4 = [(0 : UInt8), (0 : UInt8), (0 : UInt8), (0 : UInt8), (0 : UInt8), (0 : UInt8), (0 : UInt8), (0 : UInt8), (0 : UInt8), (0 : UInt8), (0 : UInt8), (0 : UInt8)] from c4), if_neg (fun h => c4 h.2.1)]; rfl
  · rw [if_neg (fun h => c1 h.1), ndec c1]; rfl
theorem readO_ok {b : List UInt8} (h : (readO b).2 = 0) : okO (readO b).1 := by
  unfold readO at h ⊢
  split
  · rename_i c; exact c.2.2
  · rename_i c; rw [if_neg c] at h; cases h
theorem readO_cases (b : List UInt8) : (readO b).2 = 0 ∨ (readO b) = (noO, 8) := by
  unfold readO
  split
  · exact .inl rfl
  · exact .inr rfl
theorem u8i_toNat {n : Int} (h : 0 ≤ n ∧ n ≤ 255) : ((u8i n).toNat : Int) = n := by
  obtain ⟨k, rfl⟩ := Int.eq_ofNat_of_zero_le h.1
  rw [u8i_nat]
  simp only [UInt8.toNat_ofNat']
  omega
theorem readO_objB {o : Object} (h : okO o) : readO (objB o) = (o, 0) := by
  obtain ⟨h1, h2, h3, h4, h5⟩ := h
  have hw : objB o = [o.Kind, u8i o.Links] ++ (leB o.Size.toNat 2 ++ (List.replicate 12 0 ++ (rowB o.Data).take 240)) := by simp [objB]
  have d4 : (objB o).drop 4 = List.replicate 12 0 ++ (rowB o.Data).take 240 := by
    unfold objB
    rw [List.append_assoc]; exact drop_app _ _ (by rw [List.length_append, leB_length]; rfl)
  have d16 : (objB o).drop 16 = (rowB o.Data).take 240 := by
    rw [show 16 = 4 + 12 from rfl, ← List.drop_drop, d4]; exact drop_app _ _ (by simp)
  have hrow : (rowB o.Data).take 240 ++ List.replicate 16 0 = rowB o.Data := by
    unfold rowB
    rw [take_app _ _ (by rw [flat_len, h4]), h4]
  have hrs := rowsB_row (l := o.Data) (by omega) h5
  have hps := ptrsOf_row (l := o.Data) (by omega) h5
  have ho : objOf (objB o) = o := by
    obtain ⟨K, L, S, D⟩ := o
    unfold objOf
    rw [d16, hrow, hps]
    have e1 : (objB ⟨K, L, S, D⟩).getD 0 0 = K := rfl
    have e2 : (objB ⟨K, L, S, D⟩).getD 1 0 = u8i L := rfl
    have e3 : ((objB ⟨K, L, S, D⟩).drop 2).take 2 = leB S.toNat 2 := by
      rw [hw]
      show List.take 2 (leB S.toNat 2 ++ (List.replicate 12 0 ++ (rowB D).take 240)) = _
      exact take_app _ _ (leB_length _ _)
    have hS : S.toNat < 256 ^ 2 := by
      have h3' : 0 ≤ S ∧ S ≤ 3840 := h3
      have : (256 : Nat) ^ 2 = 65536 := rfl
      omega
    rw [e1, e2, e3, u8i_toNat h2, numB_leB hS, Int.toNat_of_nonneg h3.1]
    congr 1
    exact take_app D _ h4
  unfold readO
  rw [ho, if_pos]
  refine ⟨?_, ?_, h1, h2, h3, h4, h5⟩
  · rw [d16, hrow, hrs]
  · have : ((objB o).take 16).drop 4 = ((objB o).drop 4).take 12 := by rw [List.drop_take]
    rw [this, d4, take_app _ _ (by simp)]

/-! ### Below a root -/
def ptrsS (s : Store) (root : Ptr) : List Ptr × Int :=
  if OKSt s ∧ okP root then (if isNone root then (List.replicate 16 noP, 0) else if (lookS s root).2 = 0 then rowsB (lookS s root).1 else ([], (lookS s root).2)) else ([], 8)
def oneS (s : Store) (p : Ptr) : Object × Int := if (lookS s p).2 = 0 then readO (lookS s p).1 else (noO, (lookS s p).2)
theorem look_len {s : Store} {p : Ptr} (h : (lookS s p).2 = 0) : (lookS s p).1.length = 256 := by
  obtain ⟨h1, h2, h3, h4, h5⟩ := lookS_ok h
  rw [h4]; exact seen_mem h1.1 (by obtain ⟨a, b, _⟩ := h3; omega)
theorem set_one_eq {s : Store} (hs : Sized s.Disk) (p : Ptr) : set_one s p = some (oneS s p) := by
  unfold set_one oneS
  rw [store_Look_eq hs, Option.bind_some]
  by_cases h : (lookS s p).2 = 0
  · rw [if_pos h, h, zdec, cond_false, obj_Read_eq (look_len h), Option.bind_some]
    rcases readO_cases (lookS s p).1 with e | e
    · rw [e, zdec, cond_false]; exact congrArg some (Prod.ext rfl e.symm)
    · rw [e, ndec (by decide), cond_true]; rfl
  · rw [if_neg h, ndec h, cond_true]; rfl
theorem set_Ptrs_eq {s : Store} (hs : Sized s.Disk) (root : Ptr) : set_Ptrs s root = some (ptrsS s root) := by
  unfold set_Ptrs ptrsS
  rw [store_Check_eq hs, Option.bind_some]
  by_cases h1 : OKSt s
  · rw [if_pos h1, zdec, cond_false, ptr_Check_eq', Option.bind_some]
    by_cases h2 : okP root
    · rw [if_pos (show isNone root ∨ okR root from h2), zdec, cond_false, if_pos ⟨h1, h2⟩, none_dec]
      by_cases h3 : isNone root
      · rw [decide_eq_true h3, cond_true, if_pos h3]; exact mks_eq (n := 16) (by decide)
      · rw [decide_eq_false h3, cond_false, if_neg h3, store_Look_eq hs, Option.bind_some]
        by_cases h4 : (lookS s root).2 = 0
        · rw [if_pos h4, h4, zdec, cond_false, ptr_Rows_eq (look_len h4), Option.bind_some]
          by_cases h5 : (rowsB (lookS s root).1).2 = 0
          · rw [h5, zdec, cond_false]; exact congrArg some (Prod.ext rfl h5.symm)
          · rw [ndec h5, cond_true, rowsB_err h5]
        · rw [if_neg h4, ndec h4, cond_true]
    · rw [if_neg (show ¬ (isNone root ∨ okR root) from h2), if_neg (fun h => h2 h.2)]; rfl
  · rw [if_neg h1, if_neg (fun h => h1 h.1)]; rfl
theorem ptrsS_ok {s : Store} {root : Ptr} (h : (ptrsS s root).2 = 0) : OKSt s ∧ okP root ∧ (ptrsS s root).1.length = 16 ∧ ∀ p ∈ (ptrsS s root).1, okP p := by
  unfold ptrsS at h ⊢
  by_cases h1 : OKSt s ∧ okP root
  · rw [if_pos h1] at h ⊢
    refine ⟨h1.1, h1.2, ?_⟩
    by_cases h3 : isNone root
    · rw [if_pos h3] at h ⊢
      exact ⟨List.length_replicate, fun p hp => by rw [(List.mem_replicate.1 hp).2]; exact okP_no⟩
    · rw [if_neg h3] at h ⊢
      by_cases h4 : (lookS s root).2 = 0
      · rw [if_pos h4] at h ⊢
        obtain ⟨e, hp⟩ := rowsB_ok h
        rw [e]; exact ⟨ptrsOf_length (look_len h4), hp⟩
      · rw [if_neg h4] at h; exact absurd h h4
  · rw [if_neg h1] at h; cases h
theorem oneS_ok {s : Store} {p : Ptr} (h : (oneS s p).2 = 0) : okO (oneS s p).1 ∧ (lookS s p).2 = 0 := by
  unfold oneS at h ⊢
  by_cases h1 : (lookS s p).2 = 0
  · rw [if_pos h1] at h ⊢; exact ⟨readO_ok h, h1⟩
  · rw [if_neg h1] at h; exact absurd h h1
def objectS (s : Store) (root : Ptr) (n : Int) : Object × Int :=
  if OKSt s ∧ okP root then (if n < 0 ∨ 16 ≤ n then (noO, 2) else if (ptrsS s root).2 = 0 then oneS s ((ptrsS s root).1.getD n.toNat noP) else (noO, (ptrsS s root).2)) else (noO, 8)
theorem set_Object_eq {s : Store} (hs : Sized s.Disk) (root : Ptr) (n : Int) : set_Object s root n = some (objectS s root n) := by
  unfold set_Object objectS
  rw [store_Check_eq hs, Option.bind_some]
  by_cases h1 : OKSt s
  · rw [if_pos h1, zdec, cond_false, ptr_Check_eq', Option.bind_some]
    by_cases h2 : okP root
    · rw [if_pos (show isNone root ∨ okR root from h2), zdec, cond_false, if_pos ⟨h1, h2⟩]
      by_cases h3 : n < 0
      · rw [decide_eq_true h3, cond_true, if_pos (.inl h3)]; rfl
      · rw [decide_eq_false h3, cond_false]
        by_cases h4 : 16 ≤ n
        · rw [decide_eq_true h4, cond_true, if_pos (.inr h4)]; rfl
        · rw [decide_eq_false h4, cond_false, if_neg (fun h => h.elim h3 h4), set_Ptrs_eq hs, Option.bind_some]
          by_cases h5 : (ptrsS s root).2 = 0
          · obtain ⟨-, -, hl, -⟩ := ptrsS_ok h5
            rw [if_pos h5, h5, zdec, cond_false]
            obtain ⟨k, rfl⟩ := Int.eq_ofNat_of_zero_le (show 0 ≤ n by omega)
            have hk : k < (ptrsS s root).1.length := by omega
            rw [idx_nat _ hk, set_one_eq hs, Option.bind_some, Int.toNat_natCast, List.getD_eq_getElem?_getD, List.getElem?_eq_getElem hk]; rfl
          · rw [if_neg h5, ndec h5, cond_true]; rfl
    · rw [if_neg (show ¬ (isNone root ∨ okR root) from h2), if_neg (fun h => h2 h.2)]; rfl
  · rw [if_neg h1, if_neg (fun h => h1 h.1)]; rfl
end Go.Ow

/-
  What is proved here: what is told below a root (set.Walk), in plain words.
-/
namespace Go.Ow
set_option linter.unusedVariables false
set_option linter.unusedSimpArgs false

def youngs (a : UInt32) (l : List Ptr) : List Ptr := l.filter fun q => decide (a < q.Birth)
def walkL (s : Store) (a : UInt32) : List Ptr → List Ptr × Int
  | [] => ([], 0)
  | p :: r => if p.Birth ≤ a then walkL s a r else if (oneS s p).2 = 0 then (p :: youngs a (oneS s p).1.Data ++ (walkL s a r).1, (walkL s a r).2) else ([], (oneS s p).2)
def walkS (s : Store) (root : Ptr) (a : UInt32) : List Ptr × Int :=
  if OKSt s ∧ okP root then (if root.Birth ≤ a then ([], 0) else if (ptrsS s root).2 = 0 then (if (walkL s a (ptrsS s root).1).2 = 0 then (root :: (walkL s a (ptrsS s root).1).1, 0) else ([], (walkL s a (ptrsS s root).1).2)) else ([], (ptrsS s root).2)) else ([], 8)
theorem r1_eq (y : Ptr) {s : List Ptr} (h : s.length ≤ 900000) : slices_AppendSeq_Ptr_r1 y s = some (.inl (s ++ [y])) := by
  unfold slices_AppendSeq_Ptr_r1; rw [app_eq (lim_le (by simp; omega))]
def dataF (a : UInt32) (y : Ptr) (r : List Ptr) : Option (List Ptr ⊕ (List Ptr ⊕ Unit)) := if a < y.Birth then Option.bind (slices_AppendSeq_Ptr_r1 y r) (fun o => some (match o with | .inl s => .inl s | .inr t => .inr (.inr t))) else some (.inl r)
theorem data_fold (a : UInt32) : ∀ (l r : List Ptr), r.length + l.length ≤ 900000 → forL (dataF a) l r = some (.inl (r ++ youngs a l))
  | [], r, _ => by simp [forL, youngs]
  | y :: l, r, h => by
    rw [List.length_cons] at h
    by_cases c : a < y.Birth
    · rw [forL_cons (s' := r ++ [y]) (by unfold dataF; rw [if_pos c, r1_eq y (by omega)]; rfl), data_fold a l _ (by simp; omega)]
      simp [youngs, c]
    · rw [forL_cons (s' := r) (by unfold dataF; rw [if_neg c]), data_fold a l r (by omega)]
      simp [youngs, c]
theorem data_loop (a : UInt32) (x : Object × Int) (r : List Ptr) (h : r.length + x.1.Data.length ≤ 900000) (h2 : x.1.Data.length ≤ 1000) : loop (set_young_1_l1 slices_AppendSeq_Ptr_r1 a x) (r, 0) = some (.inl (r ++ youngs a x.1.Data)) := by
  rw [loop_each' (τ := List Ptr ⊕ Unit) x.1.Data (fun i r => (r, i)) (dataF a) (fun r => .inl r) (fun i hi r => by
    unfold set_young_1_l1
    dsimp only
    rw [decide_eq_true (by omega), cond_true, idx_nat _ hi]
    unfold dataF
    by_cases c : a < (x.1.Data[i]).Birth
    · rw [decide_eq_true c, cond_true, if_pos c]
      cases slices_AppendSeq_Ptr_r1 x.1.Data[i] r with
      | none => rfl
      | some o => cases o <;> rfl
    · rw [decide_eq_false c, cond_false, if_neg c]; rfl) (fun r => by
    unfold set_young_1_l1
    dsimp only
    rw [decide_eq_false (by omega)]; rfl) (lt_fuel h2 (by decide)) r, data_fold a _ _ h]
  rfl
def objF (s : Store) (a : UInt32) (y : Ptr) (r : List Ptr × Int) : Option ((List Ptr × Int) ⊕ ((List Ptr × Int) ⊕ ((List Ptr ⊕ Unit) × Int))) :=
  if y.Birth ≤ a then some (.inl r) else Option.bind (set_one s y) fun x => cond (!decide (x.2 = 0)) (some (.inr (.inr (.inl r.1, x.2)))) (Option.bind (slices_AppendSeq_Ptr_r1 y r.1) fun out => Sum.elim (fun q => Option.bind (loop (set_young_1_l1 slices_AppendSeq_Ptr_r1 a x) (q, 0)) (fun t => Sum.elim (fun ta => some (.inl (ta, x.2))) (fun tb => some (.inr (.inr (.inr tb, x.2)))) t)) (fun t => some (.inr (.inr (.inr t, x.2)))) out)
theorem obj_fold {s : Store} (hs : Sized s.Disk) (a : UInt32) : ∀ (l r : List Ptr), r.length + 16 * l.length ≤ 800000 →
    ∃ r', forL (objF s a) l (r, 0) = some (if (walkL s a l).2 = 0 then .inl (r ++ (walkL s a l).1, 0) else .inr (.inr (.inl r', (walkL s a l).2)))
  | [], r, _ => ⟨[], by simp [forL, walkL]⟩
  | y :: l, r, h => by
    rw [List.length_cons] at h
    by_cases c : y.Birth ≤ a
    · obtain ⟨r', e⟩ := obj_fold hs a l r (by omega)
      refine ⟨r', ?_⟩
      rw [forL_cons (s' := (r, 0)) (by unfold objF; rw [if_pos c]), e]
      have : walkL s a (y :: l) = walkL s a l := by unfold walkL; rw [if_pos c]; cases l <;> rfl
      rw [this]
    · by_cases c1 : (oneS s y).2 = 0
      · have ho := (oneS_ok c1).1
        have hl : (oneS s y).1.Data.length = 15 := ho.2.2.2.1
        obtain ⟨r', e⟩ := obj_fold hs a l (r ++ [y] ++ youngs a (oneS s y).1.Data) (by
          have : (youngs a (oneS s y).1.Data).length ≤ 15 := by rw [← hl]; exact List.length_filter_le _ _
          simp only [List.length_append, List.length_cons, List.length_nil]; omega)
        refine ⟨r', ?_⟩
        rw [forL_cons (s' := (r ++ [y] ++ youngs a (oneS s y).1.Data, 0)) (by
          unfold objF
          rw [if_neg c, set_one_eq hs, Option.bind_some, c1, zdec, cond_false, r1_eq y (s := r) (by omega), Option.bind_some, Sum.elim_inl, data_loop a _ _ (by simp only [List.length_append, List.length_cons, List.length_nil]; omega) (by omega)]; rfl), e]
        have : walkL s a (y :: l) = (y :: youngs a (oneS s y).1.Data ++ (walkL s a l).1, (walkL s a l).2) := by conv => lhs; unfold walkL; rw [if_neg c, if_pos c1]
        rw [this]; simp
      · refine ⟨r, ?_⟩
        have : walkL s a (y :: l) = ([], (oneS s y).2) := by conv => lhs; unfold walkL; rw [if_neg c, if_neg c1]
        rw [forL_stop (e := .inr (.inl r, (oneS s y).2)) (by unfold objF; rw [if_neg c, set_one_eq hs, Option.bind_some, ndec c1, cond_true]), this, if_neg c1]
theorem obj_loop {s : Store} (hs : Sized s.Disk) (a : UInt32) (l : List Ptr × Int) (r : List Ptr) (hl : l.1.length ≤ 1000) (h : r.length + 16 * l.1.length ≤ 800000) :
    ∃ r', loop (set_young_1_l2 slices_AppendSeq_Ptr_r1 a s l) (r, 0, 0) = some (if (walkL s a l.1).2 = 0 then .inl (r ++ (walkL s a l.1).1, 0) else .inr (.inl r', (walkL s a l.1).2)) := by
  obtain ⟨r', e⟩ := obj_fold hs a l.1 r h
  refine ⟨r', ?_⟩
  have := loop_each' l.1 (fun i (r : List Ptr × Int) => (r.1, r.2, i)) (body := set_young_1_l2 slices_AppendSeq_Ptr_r1 a s l) (objF s a) (fun r => .inl r) (fun i hi r => by
    unfold set_young_1_l2
    dsimp only
    rw [decide_eq_true (by omega), cond_true, idx_nat _ hi]
    unfold objF
    by_cases c : (l.1[i]).Birth ≤ a
    · rw [decide_eq_true c, cond_true, if_pos c]; rfl
    · rw [decide_eq_false c, cond_false, if_neg c]
      cases set_one s l.1[i] with
      | none => rfl
      | some x =>
        rw [Option.bind_some, Option.bind_some]
        cases (!decide (x.2 = 0)) with
        | true => rfl
        | false =>
          rw [cond_false, cond_false]
          cases slices_AppendSeq_Ptr_r1 l.1[i] r.1 with
          | none => rfl
          | some o =>
            rw [Option.bind_some, Option.bind_some]
            cases o with
            | inr t => rfl
            | inl q =>
              rw [Sum.elim_inl, Sum.elim_inl]
              cases loop (set_young_1_l1 slices_AppendSeq_Ptr_r1 a x) (q, 0) with
              | none => rfl
              | some t => cases t <;> rfl) (fun r => by
    unfold set_young_1_l2
    dsimp only
    rw [decide_eq_false (by omega)]; rfl) (lt_fuel hl (by decide)) (r, 0)
  rw [show loop (set_young_1_l2 slices_AppendSeq_Ptr_r1 a s l) (r, 0, 0) = _ from this, e]
  by_cases c : (walkL s a l.1).2 = 0
  · rw [if_pos c, if_pos c]; rfl
  · rw [if_neg c, if_neg c]; rfl
theorem walk_core {s : Store} (hs : Sized s.Disk) (root : Ptr) (a : UInt32) (h : OKSt s ∧ okP root) : ∃ r', set_young_1 slices_AppendSeq_Ptr_r1 [] root a s 0 = some (if (walkS s root a).2 = 0 then (.inl (walkS s root a).1, 0) else (.inl r', (walkS s root a).2)) := by
  unfold set_young_1 walkS
  rw [if_pos h]
  by_cases c : root.Birth ≤ a
  · exact ⟨[], by rw [decide_eq_true c, cond_true, if_pos c]; rfl⟩
  rw [decide_eq_false c, cond_false, if_neg c, set_Ptrs_eq hs, Option.bind_some]
  by_cases c1 : (ptrsS s root).2 = 0
  · obtain ⟨-, -, hl, -⟩ := ptrsS_ok c1
    obtain ⟨r', e⟩ := obj_loop hs a (ptrsS s root) [root] (by omega) (by simp; omega)
    rw [c1, zdec, cond_false, r1_eq root (by simp), Option.bind_some, Sum.elim_inl, List.nil_append, e, if_pos rfl]
    refine ⟨r', ?_⟩
    by_cases c2 : (walkL s a (ptrsS s root).1).2 = 0
    · rw [if_pos c2, if_pos c2, Option.bind_some, Sum.elim_inl]; rfl
    · rw [if_neg c2, if_neg c2, Option.bind_some, Sum.elim_inr, if_neg c2]
  · rw [ndec c1, cond_true, if_neg c1]
    exact ⟨[], by rw [if_neg c1]⟩
theorem set_Walk_eq {s : Store} (hs : Sized s.Disk) (root : Ptr) (a : UInt32) : set_Walk s root a = some (walkS s root a) := by
  unfold set_Walk
  rw [store_Check_eq hs, Option.bind_some]
  by_cases h1 : OKSt s
  · rw [if_pos h1, zdec, cond_false, ptr_Check_eq', Option.bind_some]
    by_cases h2 : okP root
    · rw [if_pos (show isNone root ∨ okR root from h2), zdec, cond_false]
      obtain ⟨r', e⟩ := walk_core hs root a ⟨h1, h2⟩
      have e2 : slices_Collect_Ptr root a s 0 = some (if (walkS s root a).2 = 0 then ((walkS s root a).1, root, a, s, 0) else (r', root, a, s, (walkS s root a).2)) := by
        unfold slices_Collect_Ptr slices_AppendSeq_Ptr
        rw [e]
        by_cases c : (walkS s root a).2 = 0
        · rw [if_pos c, if_pos c]; rfl
        · rw [if_neg c, if_neg c]; rfl
      show Option.bind (slices_Collect_Ptr root a s 0) _ = _
      rw [e2]
      by_cases c : (walkS s root a).2 = 0
      · rw [if_pos c, Option.bind_some, zdec, cond_false]; exact congrArg some (Prod.ext rfl c.symm)
      · rw [if_neg c, Option.bind_some, ndec c, cond_true]
        unfold walkS at c ⊢
        rw [if_pos ⟨h1, h2⟩] at c ⊢
        by_cases d1 : root.Birth ≤ a
        · rw [if_pos d1] at c; exact absurd rfl c
        rw [if_neg d1] at c ⊢
        by_cases d2 : (ptrsS s root).2 = 0
        · rw [if_pos d2] at c ⊢
          by_cases d3 : (walkL s a (ptrsS s root).1).2 = 0
          · rw [if_pos d3] at c; exact absurd rfl c
          · rw [if_neg d3]
        · rw [if_neg d2]
    · rw [if_neg (show ¬ (isNone root ∨ okR root) from h2)]
      unfold walkS; rw [if_neg (fun h => h2 h.2)]; rfl
  · rw [if_neg h1]
    unfold walkS; rw [if_neg (fun h => h1 h.1)]; rfl
theorem walkS_bad {s : Store} {root : Ptr} {a : UInt32} (h : (walkS s root a).2 ≠ 0) : (walkS s root a).1 = [] := by
  unfold walkS at h ⊢
  split
  · rename_i c0
    rw [if_pos c0] at h
    split
    · rfl
    · rename_i c1
      rw [if_neg c1] at h
      split
      · rename_i c2
        rw [if_pos c2] at h
        split
        · rename_i c3; rw [if_pos c3] at h; exact absurd rfl h
        · rfl
      · rfl
  · rfl
/-- where all is told -/
theorem walkS_ok {s : Store} {root : Ptr} {a : UInt32} (h : (walkS s root a).2 = 0) : OKSt s ∧ okP root ∧ ((root.Birth ≤ a ∧ (walkS s root a).1 = []) ∨
    (¬ root.Birth ≤ a ∧ (ptrsS s root).2 = 0 ∧ (walkL s a (ptrsS s root).1).2 = 0 ∧ (walkS s root a).1 = root :: (walkL s a (ptrsS s root).1).1)) := by
  unfold walkS at h ⊢
  by_cases c0 : OKSt s ∧ okP root
  · rw [if_pos c0] at h ⊢
    refine ⟨c0.1, c0.2, ?_⟩
    by_cases c1 : root.Birth ≤ a
    · rw [if_pos c1]; exact .inl ⟨c1, rfl⟩
    · rw [if_neg c1] at h ⊢
      by_cases c2 : (ptrsS s root).2 = 0
      · rw [if_pos c2] at h ⊢
        by_cases c3 : (walkL s a (ptrsS s root).1).2 = 0
        · rw [if_pos c3]; exact .inr ⟨c1, c2, c3, rfl⟩
        · rw [if_neg c3] at h; exact absurd h c3
      · rw [if_neg c2] at h; exact absurd h c2
  · rw [if_neg c0] at h; cases h
theorem walkL_eq {s : Store} {a : UInt32} : ∀ {l : List Ptr}, (∀ p ∈ l, ¬ p.Birth ≤ a → (oneS s p).2 = 0) → walkL s a l = ((l.filter fun p => !decide (p.Birth ≤ a)).flatMap (fun p => p :: youngs a (oneS s p).1.Data), 0)
  | [], _ => rfl
  | y :: l, h => by
    have ih := walkL_eq (s := s) (a := a) (l := l) (fun p hp => h p (by simp [hp]))
    by_cases c : y.Birth ≤ a
    · have e : walkL s a (y :: l) = walkL s a l := by conv => lhs; unfold walkL; rw [if_pos c]
      rw [e, ih]; simp [c]
    · have e : walkL s a (y :: l) = (y :: youngs a (oneS s y).1.Data ++ (walkL s a l).1, (walkL s a l).2) := by conv => lhs; unfold walkL; rw [if_neg c, if_pos (h y (by simp) c)]
      rw [e, ih]; simp [c]
end Go.Ow

/-
  What is proved here: the chapter's dataset is made, and told; the law SetNames, in plain words.
-/
namespace Go.Ow
set_option linter.unusedVariables false
set_option linter.unusedSimpArgs false

theorem lay_ok {s : Store} {birth : UInt32} {b : List UInt8} {j : Nat} (h : OKSt s) (hb : birthOk birth) (hl : b.length = 256) (hf : freeFrom s.Space 0 = some j) (hw : s.Disk.Waits.length ≠ 4096) :
    ∃ t q, store_Lay s birth b = some (t, q, 0) ∧ PutAt s ⟨0, birth, 0, 0, 0⟩ b t q j := by
  rw [lay_raw]
  rcases raw_cases h.sized birth 0 0 b with ⟨e, -, -, hh⟩ | ⟨t, q, j', h1, h2, h3⟩
  · rcases hh h hb hl with h' | h'
    · rw [hf] at h'; cases h'
    · exact absurd h' hw
  · have : j' = j := by have := h3.free; rw [hf] at this; exact (Option.some.inj this).symm
    subst this
    exact ⟨t, q, h1, h3⟩
theorem PutAt.space {s : Store} {p : Ptr} {b : List UInt8} {t : Store} {q : Ptr} {j : Nat} (h : PutAt s p b t q j) : t.Space = s.Space.set j 1 := by rw [h.out]
theorem PutAt.waits {s : Store} {p : Ptr} {b : List UInt8} {t : Store} {q : Ptr} {j : Nat} (h : PutAt s p b t q j) : t.Disk.Waits.length = s.Disk.Waits.length + 1 := by rw [h.out]; simp
theorem PutAt.at_ {s : Store} {p : Ptr} {b : List UInt8} {t : Store} {q : Ptr} {j : Nat} (h : PutAt s p b t q j) : q.At.toNat = j := by rw [h.ptr]; simp
def dataM (p q : Ptr) : List Ptr := [p, noP, noP, noP, q, noP, noP, noP, noP, noP, noP, noP, noP, noP, noP]
structure Made (s : Store) (root at' p q : Ptr) : Prop where
  ok : OKSt s
  hr : okR root
  ha : okR at'
  hp : okR p
  hq : okR q
  rb : root.Birth = 5
  ab : at'.Birth = 5
  pb : p.Birth = 3
  qb : q.Birth = 5
  lr : lookS s root = (rowB [noP, noP, at'], 0)
  la : lookS s at' = (objB ⟨1, 0, 0, dataM p q⟩, 0)
theorem space1 : freeFrom (newT.set 12 1) 0 = some 13 := by decide +kernel
theorem space2 : freeFrom ((newT.set 12 1).set 13 1) 0 = some 14 := by decide +kernel
theorem space3 : freeFrom (((newT.set 12 1).set 13 1).set 14 1) 0 = some 15 := by decide +kernel
theorem okO_data {p q : Ptr} (hp : okR p) (hq : okR q) : okO ⟨1, 0, 0, dataM p q⟩ := by
  refine ⟨⟨by show (1 : Int) ≤ ((1 : UInt8).toNat : Int); decide, by show ((1 : UInt8).toNat : Int) ≤ 7; decide⟩, ⟨Int.le_refl _, by show (0 : Int) ≤ 255; decide⟩, ⟨Int.le_refl _, by show (0 : Int) ≤ 3840; decide⟩, rfl, fun x hx => ?_⟩
  have : x = p ∨ x = q ∨ x = noP := by simp [dataM] at hx; rcases hx with h | h | h | h <;> simp [h]
  rcases this with rfl | rfl | rfl
  · exact .inr hp
  · exact .inr hq
  · exact okP_no
theorem made_eq : ∃ s root at' p q, law15_made = some (s, root, true) ∧ Made s root at' p q := by
  obtain ⟨s1, p, e1, h1⟩ := lay_ok (birth := 3) (b := zeroBl) newS_ok (by decide) zero_length newT_free (by decide)
  have f1 : freeFrom s1.Space 0 = some 13 := by rw [h1.space]; exact space1
  obtain ⟨s2, q, e2, h2⟩ := lay_ok (s := s1) (birth := 5) (b := zeroBl) h1.okt (by decide) zero_length f1 (by rw [h1.waits]; decide)
  have f2 : freeFrom s2.Space 0 = some 14 := by rw [h2.space, h1.space]; exact space2
  have hp := (h1.okR (by decide)).1
  have hq := (h2.okR (by decide)).1
  have ho := okO_data hp hq
  obtain ⟨s3, at', e3, h3⟩ := lay_ok (s := s2) (birth := 5) (b := objB ⟨1, 0, 0, dataM p q⟩) h2.okt (by decide) (objB_length (by show (dataM p q).length ≤ 16; simp [dataM])) f2 (by rw [h2.waits, h1.waits]; decide)
  have f3 : freeFrom s3.Space 0 = some 15 := by rw [h3.space, h2.space, h1.space]; exact space3
  have ha := (h3.okR (by decide)).1
  obtain ⟨s4, root, e4, h4⟩ := lay_ok (s := s3) (birth := 5) (b := rowB [noP, noP, at']) h3.okt (by decide) (rowB_length (by simp)) f3 (by rw [h3.waits, h2.waits, h1.waits]; decide)
  have hr := (h4.okR (by decide)).1
  refine ⟨s4, root, at', p, q, ?_, h4.okt, hr, ha, hp, hq, by rw [h4.ptr], by rw [h3.ptr], by rw [h1.ptr], by rw [h2.ptr], h4.look (by decide), ?_⟩
  · unfold law15_made
    have m15 : ∀ {β : Type} (k : List Ptr → Option β), mks 15 (Ptr.mk 0 (0 : UInt32) (0 : UInt32) (0 : UInt32) (0 : UInt32)) k = k (List.replicate 15 noP) := fun k => mks_eq (n := 15) (by decide)
    rw [m15, store_New_eq, Option.bind_some, mk256, e1, Option.bind_some, Option.bind_some]
    dsimp only
    rw [mk256]
    rw [show store_Lay (Store.mk (Disk.mk s1.Disk.Blocks s1.Disk.Waits) s1.Space s1.Epoch s1.Count) 5 zeroBl = some (s2, q, 0) from e2, Option.bind_some, Option.bind_some]
    dsimp only
    rw [chk_eq ⟨by omega, by simp⟩, setI_eq (by omega) (by simp), chk_eq ⟨by omega, by simp⟩, setI_eq (by omega) (by simp)]
    rw [show (((List.replicate 15 noP).set (0 : Int).toNat p).set (4 : Int).toNat q) = dataM p q from rfl, obj_Write_eq ho, Option.bind_some]
    dsimp only
    rw [show store_Lay (Store.mk (Disk.mk s2.Disk.Blocks s2.Disk.Waits) s2.Space s2.Epoch s2.Count) 5 (objB ⟨1, 0, 0, dataM p q⟩) = some (s3, at', 0) from e3, Option.bind_some]
    dsimp only
    rw [show [Ptr.mk 0 (0 : UInt32) (0 : UInt32) (0 : UInt32) (0 : UInt32), Ptr.mk 0 (0 : UInt32) (0 : UInt32) (0 : UInt32) (0 : UInt32), at'] = [noP, noP, at'] from rfl, ptr_Row_eq (by simp), if_pos (fun x hx => by
      simp at hx
      rcases hx with rfl | rfl
      · exact okP_no
      · exact .inr ha), Option.bind_some]
    dsimp only
    rw [e4, Option.bind_some]
    rfl
  · rw [h4.other (x := at') (by rw [h3.look (by decide)]) (by rw [h3.at_]; decide)]
    exact h3.look (by decide)
theorem okR_some {p : Ptr} (h : okR p) : ¬ isNone p := fun e => by
  have h1 := h.1
  rw [e.1] at h1; omega
section told
variable {s : Store} {root at' p q : Ptr} (h : Made s root at' p q)
include h
theorem Made.okr : OKSt s ∧ okP root := ⟨h.ok, .inr h.hr⟩
theorem Made.ptrs : ptrsS s root = ([noP, noP, at', noP, noP, noP, noP, noP, noP, noP, noP, noP, noP, noP, noP, noP], 0) := by
  unfold ptrsS
  rw [if_pos h.okr, if_neg (okR_some h.hr), h.lr, if_pos rfl, rowsB_row (by simp) (fun x hx => by
      simp at hx
      rcases hx with rfl | rfl
      · exact okP_no
      · exact .inr h.ha)]
  rfl
theorem Made.one : oneS s at' = (⟨1, 0, 0, dataM p q⟩, 0) := by
  unfold oneS
  rw [h.la, if_pos rfl, readO_objB (okO_data h.hp h.hq)]
theorem Made.youngs0 (a : UInt32) (ha : a < 5) : youngs a (dataM p q) = if a < 3 then [p, q] else [q] := by
  have hn : noP.Birth = 0 := rfl
  have h0 : ¬ a < noP.Birth := by rw [hn, UInt32.lt_iff_toNat_lt]; have : (0 : UInt32).toNat = 0 := rfl; omega
  unfold youngs dataM
  by_cases c : a < 3
  · simp [h.pb, h.qb, h0, c, ha]
  · simp [h.pb, h.qb, h0, c, ha]
theorem Made.walk (a : UInt32) (ha : a < 5) : walkS s root a = (root :: at' :: (if a < 3 then [p, q] else [q]), 0) := by
  have hna : ¬ (5 : UInt32) ≤ a := UInt32.not_le.2 ha
  have hn : noP.Birth ≤ a := by show (0 : UInt32) ≤ a; rw [UInt32.le_iff_toNat_le]; exact Nat.zero_le _
  have hw : walkL s a [noP, noP, at', noP, noP, noP, noP, noP, noP, noP, noP, noP, noP, noP, noP, noP] = (at' :: (if a < 3 then [p, q] else [q]), 0) := by
    rw [walkL_eq (fun x hx hb => by
      have : x = noP ∨ x = at' := by simp only [List.mem_cons, List.not_mem_nil, or_false] at hx; rcases hx with h | h | h | h | h | h | h | h | h | h | h | h | h | h | h | h <;> first | exact .inl h | exact .inr h
      rcases this with rfl | rfl
      · exact absurd hn hb
      · rw [h.one])]
    simp only [List.filter_cons, hn, decide_true, Bool.not_true, h.ab, hna, decide_false, Bool.not_false, if_true, List.filter_nil, Bool.false_eq_true, if_false, List.flatMap_cons, List.flatMap_nil, h.one, h.youngs0 a ha, List.append_nil]
  unfold walkS
  rw [if_pos h.okr, h.rb, if_neg hna, h.ptrs, if_pos rfl, hw, if_pos rfl]
end told
theorem alive15 : law15_alive = some true := by
  obtain ⟨s, root, at', p, q, e, h⟩ := made_eq
  unfold law15_alive
  rw [e, Option.bind_some, set_Walk_eq h.ok.sized, Option.bind_some, h.walk 0 (by decide)]
  dsimp only
  rw [show (if (0 : UInt32) < 3 then [p, q] else [q]) = [p, q] from rfl]
  have i0 : ∀ {β : Type} (k : Ptr → Option β), idx [root, at', p, q] 0 k = k root := fun k => idx_eq ⟨by omega, rfl⟩
  have i2 : ∀ {β : Type} (k : Ptr → Option β), idx [root, at', p, q] 2 k = k p := fun k => idx_eq ⟨by omega, rfl⟩
  rw [cond_true, i0, i2, ptr_dec, decide_eq_true (show root = root from rfl), h.pb]
  rfl
end Go.Ow

/-
  What is proved here: the law SetYoung, in plain words.
-/
namespace Go.Ow
set_option linter.unusedVariables false
set_option linter.unusedSimpArgs false

theorem okP_birth {p : Ptr} (h : okP p) : p = noP ∨ okR p := h.elim (fun h => .inl h.eq) .inr
theorem okR_birth {p : Ptr} (h : okR p) : ¬ p.Birth ≤ 0 := fun e => by
  have h1 := UInt32.le_iff_toNat_le.1 h.2.2.1
  have h2 := UInt32.le_iff_toNat_le.1 e
  have e1 : (1 : UInt32).toNat = 1 := rfl
  have e0 : (0 : UInt32).toNat = 0 := rfl
  omega
theorem noP_birth (a : UInt32) : noP.Birth ≤ a := by show (0 : UInt32) ≤ a; rw [UInt32.le_iff_toNat_le]; exact Nat.zero_le _
theorem lt_or {a b : UInt32} : a < b ↔ ¬ b ≤ a := UInt32.not_le.symm
theorem walk_len {s : Store} {a : UInt32} : ∀ {l : List Ptr}, (walkL s a l).2 = 0 → (walkL s a l).1.length ≤ 16 * l.length
  | [], _ => by simp [walkL]
  | y :: l, h => by
    by_cases c : y.Birth ≤ a
    · have e : walkL s a (y :: l) = walkL s a l := by conv => lhs; unfold walkL; rw [if_pos c]
      rw [e] at h ⊢
      have := walk_len h
      rw [List.length_cons]; omega
    · by_cases c1 : (oneS s y).2 = 0
      · have e : walkL s a (y :: l) = (y :: youngs a (oneS s y).1.Data ++ (walkL s a l).1, (walkL s a l).2) := by conv => lhs; unfold walkL; rw [if_neg c, if_pos c1]
        rw [e] at h ⊢
        have h1 := walk_len (s := s) (a := a) (l := l) h
        have hl : (oneS s y).1.Data.length = 15 := (oneS_ok c1).1.2.2.2.1
        have h2 : (youngs a (oneS s y).1.Data).length ≤ 15 := by rw [← hl]; exact List.length_filter_le _ _
        simp only [List.length_append, List.length_cons]; omega
      · have e : walkL s a (y :: l) = ([], (oneS s y).2) := by conv => lhs; unfold walkL; rw [if_neg c, if_neg c1]
        rw [e] at h; exact absurd h c1
theorem walkS_len {s : Store} {root : Ptr} {a : UInt32} : (walkS s root a).1.length ≤ 257 := by
  by_cases h : (walkS s root a).2 = 0
  · obtain ⟨-, -, h1 | ⟨-, h2, h3, h4⟩⟩ := walkS_ok h
    · rw [h1.2]; simp
    · have := walk_len h3
      have hl := (ptrsS_ok h2).2.2.1
      rw [h4, List.length_cons]; omega
  · rw [walkS_bad h]; simp
end Go.Ow

/-
  What is proved here: the law SetParts, in plain words.
-/
namespace Go.Ow
set_option linter.unusedVariables false
set_option linter.unusedSimpArgs false

end Go.Ow

/-
  What is proved here: the law SetLater, in plain words: what is told above a later birth is a part of what is told above an earlier one, in order.
-/
namespace Go.Ow
set_option linter.unusedVariables false
set_option linter.unusedSimpArgs false

theorem walkL_above {s : Store} {a : UInt32} : ∀ {l : List Ptr}, ∀ q ∈ (walkL s a l).1, ¬ q.Birth ≤ a
  | [], q, hq => by cases hq
  | y :: l, q, hq => by
    by_cases c : y.Birth ≤ a
    · have e : walkL s a (y :: l) = walkL s a l := by conv => lhs; unfold walkL; rw [if_pos c]
      rw [e] at hq; exact walkL_above q hq
    · by_cases c1 : (oneS s y).2 = 0
      · have e : walkL s a (y :: l) = (y :: youngs a (oneS s y).1.Data ++ (walkL s a l).1, (walkL s a l).2) := by conv => lhs; unfold walkL; rw [if_neg c, if_pos c1]
        rw [e] at hq
        rcases List.mem_append.1 hq with hq | hq
        · rcases List.mem_cons.1 hq with rfl | hq
          · exact c
          · exact lt_or.1 (by simpa using (List.mem_filter.1 hq).2)
        · exact walkL_above q hq
      · have e : walkL s a (y :: l) = ([], (oneS s y).2) := by conv => lhs; unfold walkL; rw [if_neg c, if_neg c1]
        rw [e] at hq; cases hq
theorem walkS_above {s : Store} {root : Ptr} {a : UInt32} : ∀ q ∈ (walkS s root a).1, ¬ q.Birth ≤ a := by
  intro q hq
  by_cases c : (walkS s root a).2 = 0
  · obtain ⟨-, -, h | ⟨h1, h2, h3, h4⟩⟩ := walkS_ok c
    · rw [h.2] at hq; cases hq
    · rw [h4] at hq
      rcases List.mem_cons.1 hq with rfl | hq
      · exact h1
      · exact walkL_above q hq
  · rw [walkS_bad c] at hq; cases hq
end Go.Ow

/-
  What is proved here: the law SetAlone, in plain words: a block that is laid changes nothing that is told below a root whose blocks are all taken.
-/
namespace Go.Ow
set_option linter.unusedVariables false
set_option linter.unusedSimpArgs false

section
variable {s : Store} {p : Ptr} {b : List UInt8} {t : Store} {q : Ptr} {j : Nat}
theorem put_alone (h : PutAt s p b t q j) {x : Ptr} (hj : x.At.toNat ≠ j) : lookS t x = lookS s x := by
  unfold lookS
  rw [h.at, if_neg hj]
  by_cases c : isNone x ∨ okR x
  · rw [if_pos (show OKSt t ∧ _ from ⟨h.okt, c⟩), if_pos (show OKSt s ∧ _ from ⟨h.ok, c⟩)]
  · rw [if_neg (fun k => c k.2), if_neg (fun k => c k.2)]
theorem put_one (h : PutAt s p b t q j) {x : Ptr} (hj : x.At.toNat ≠ j) : oneS t x = oneS s x := by
  unfold oneS; rw [(put_alone h) hj]
theorem put_ptrs (h : PutAt s p b t q j) {x : Ptr} (hj : x.At.toNat ≠ j) : ptrsS t x = ptrsS s x := by
  unfold ptrsS; rw [(put_alone h) hj]
  by_cases c : okP x
  · rw [if_pos (show OKSt t ∧ _ from ⟨h.okt, c⟩), if_pos (show OKSt s ∧ _ from ⟨h.ok, c⟩)]
  · rw [if_neg (fun k => c k.2), if_neg (fun k => c k.2)]
theorem put_no (h : PutAt s p b t q j) : noP.At.toNat ≠ j := by
  have := h.place
  show (0 : Nat) ≠ j; omega
theorem put_walkL (h : PutAt s p b t q j) (a : UInt32) : ∀ {l : List Ptr}, (∀ x ∈ l, ¬ x.Birth ≤ a → x.At.toNat ≠ j) → walkL t a l = walkL s a l
  | [], _ => rfl
  | y :: l, hl => by
    have ih := put_walkL h a (l := l) (fun x hx => hl x (by simp [hx]))
    by_cases c : y.Birth ≤ a
    · unfold walkL; rw [if_pos c, if_pos c, ih]
    · unfold walkL; rw [if_neg c, if_neg c, ih, (put_one h) (hl y (by simp) c)]
end
theorem walkL_okP {s : Store} {a : UInt32} : ∀ {l : List Ptr}, (∀ x ∈ l, okP x) → ∀ q ∈ (walkL s a l).1, okP q
  | [], _, q, hq => by cases hq
  | y :: l, hl, q, hq => by
    by_cases c : y.Birth ≤ a
    · have e : walkL s a (y :: l) = walkL s a l := by conv => lhs; unfold walkL; rw [if_pos c]
      rw [e] at hq; exact walkL_okP (fun x hx => hl x (by simp [hx])) q hq
    · by_cases c1 : (oneS s y).2 = 0
      · have e : walkL s a (y :: l) = (y :: youngs a (oneS s y).1.Data ++ (walkL s a l).1, (walkL s a l).2) := by conv => lhs; unfold walkL; rw [if_neg c, if_pos c1]
        rw [e] at hq
        rcases List.mem_append.1 hq with hq | hq
        · rcases List.mem_cons.1 hq with rfl | hq
          · exact hl q (by simp)
          · exact (oneS_ok c1).1.2.2.2.2 q (List.mem_filter.1 hq).1
        · exact walkL_okP (fun x hx => hl x (by simp [hx])) q hq
      · have e : walkL s a (y :: l) = ([], (oneS s y).2) := by conv => lhs; unfold walkL; rw [if_neg c, if_neg c1]
        rw [e] at hq; cases hq
theorem walkS_okR {s : Store} {root : Ptr} {a : UInt32} : ∀ q ∈ (walkS s root a).1, okR q := by
  intro q hq
  have hb := walkS_above q hq
  have ho : okP q := by
    by_cases c : (walkS s root a).2 = 0
    · obtain ⟨-, hr, h | ⟨h1, h2, h3, h4⟩⟩ := walkS_ok c
      · rw [h.2] at hq; cases hq
      · rw [h4] at hq
        rcases List.mem_cons.1 hq with rfl | hq
        · exact hr
        · exact walkL_okP (ptrsS_ok h2).2.2.2 q hq
    · rw [walkS_bad c] at hq; cases hq
  rcases okP_birth ho with rfl | ho
  · exact absurd (noP_birth a) hb
  · exact ho
theorem mem_walkL {s : Store} {a : UInt32} : ∀ {l : List Ptr}, (walkL s a l).2 = 0 → ∀ x ∈ l, ¬ x.Birth ≤ a → x ∈ (walkL s a l).1
  | [], _, x, hx, _ => by cases hx
  | y :: l, h, x, hx, hb => by
    by_cases c : y.Birth ≤ a
    · have e : walkL s a (y :: l) = walkL s a l := by conv => lhs; unfold walkL; rw [if_pos c]
      rw [e] at h ⊢
      rcases List.mem_cons.1 hx with rfl | hx
      · exact absurd c hb
      · exact mem_walkL h x hx hb
    · by_cases c1 : (oneS s y).2 = 0
      · have e : walkL s a (y :: l) = (y :: youngs a (oneS s y).1.Data ++ (walkL s a l).1, (walkL s a l).2) := by conv => lhs; unfold walkL; rw [if_neg c, if_pos c1]
        rw [e] at h ⊢
        rcases List.mem_cons.1 hx with rfl | hx
        · simp
        · exact List.mem_append.2 (.inr (mem_walkL h x hx hb))
      · have e : walkL s a (y :: l) = ([], (oneS s y).2) := by conv => lhs; unfold walkL; rw [if_neg c, if_neg c1]
        rw [e] at h; exact absurd h c1
/-- what is told of a root whose blocks all lie elsewhere -/
theorem alone_same {s : Store} {p : Ptr} {b : List UInt8} {t : Store} {q : Ptr} {j : Nat} {root : Ptr} (h : PutAt s p b t q j) (h0 : (walkS s root 0).2 = 0) (hj : ∀ x ∈ (walkS s root 0).1, x.At.toNat ≠ j) (n : Int) (a : UInt32) :
    objectS t root n = objectS s root n ∧ walkS t root a = walkS s root a := by
  obtain ⟨hok, hr, hc⟩ := walkS_ok h0
  have hroot : root.At.toNat ≠ j := by
    rcases okP_birth hr with rfl | ho
    · exact put_no h
    · have := hc.resolve_left (fun k => okR_birth ho k.1)
      exact hj root (by rw [this.2.2.2]; simp)
  have hmem : (ptrsS s root).2 = 0 → ∀ x ∈ (ptrsS s root).1, x.At.toNat ≠ j := by
    intro e x hx
    rcases okP_birth ((ptrsS_ok e).2.2.2 x hx) with rfl | ho
    · exact put_no h
    · rcases hc with hc | hc
      · rcases okP_birth hr with rfl | hr
        · exfalso
          have e2 : ptrsS s noP = (List.replicate 16 noP, 0) := by unfold ptrsS; rw [if_pos ⟨hok, .inl noP_none⟩, if_pos noP_none]
          rw [e2] at hx
          have := List.eq_of_mem_replicate hx
          rw [this] at ho
          exact okR_birth ho (noP_birth 0)
        · exact absurd hc.1 (okR_birth hr)
      · refine hj x ?_
        rw [hc.2.2.2]
        exact List.mem_cons_of_mem _ (mem_walkL hc.2.2.1 x hx (okR_birth ho))
  constructor
  · unfold objectS
    rw [if_pos (show OKSt t ∧ _ from ⟨h.okt, hr⟩), if_pos (show OKSt s ∧ _ from ⟨hok, hr⟩), (put_ptrs h) hroot]
    by_cases c1 : n < 0 ∨ 16 ≤ n
    · rw [if_pos c1, if_pos c1]
    · rw [if_neg c1, if_neg c1]
      by_cases c2 : (ptrsS s root).2 = 0
      · rw [if_pos c2, if_pos c2]
        refine (put_one h) ?_
        rw [List.getD_eq_getElem?_getD]
        cases e : (ptrsS s root).1[n.toNat]? with
        | none => exact put_no h
        | some x => exact hmem c2 x (List.mem_of_getElem? e)
      · rw [if_neg c2, if_neg c2]
  · unfold walkS
    rw [if_pos (show OKSt t ∧ _ from ⟨h.okt, hr⟩), if_pos (show OKSt s ∧ _ from ⟨hok, hr⟩), (put_ptrs h) hroot]
    by_cases c1 : root.Birth ≤ a
    · rw [if_pos c1, if_pos c1]
    · rw [if_neg c1, if_neg c1]
      by_cases c2 : (ptrsS s root).2 = 0
      · rw [if_pos c2, if_pos c2, (put_walkL h) a (fun x hx _ => hmem c2 x hx)]
      · rw [if_neg c2, if_neg c2]
theorem equalP (l : List Ptr) (h : l.length ≤ 100000) : slices_Equal_Ptr l l = some true := by
  unfold slices_Equal_Ptr
  rw [nbeq rfl, cond_false]
  have key : ∀ (k i n : Nat), i + k = l.length → k < n → run (slices_Equal_Ptr_l1 l l) n i = some (.inl ()) := by
    intro k
    induction k with
    | zero =>
      intro i n hi hn
      obtain ⟨n, rfl⟩ : ∃ m, n = m + 1 := ⟨n - 1, by omega⟩
      exact run_en (by unfold slices_Equal_Ptr_l1; rw [decide_eq_false (by omega)]; rfl)
    | succ k ih =>
      intro i n hi hn
      obtain ⟨n, rfl⟩ : ∃ m, n = m + 1 := ⟨n - 1, by omega⟩
      rw [run_go (s' := i + 1) (by unfold slices_Equal_Ptr_l1; rw [decide_eq_true (by omega), cond_true, idx_nat _ (show i < l.length by omega), idx_nat _ (show i < l.length by omega), ptr_dec, decide_eq_true rfl]; rfl)]
      exact ih (i + 1) n (by omega) (by omega)
  rw [show loop (slices_Equal_Ptr_l1 l l) 0 = some (.inl ()) from key l.length 0 FUEL (by omega) (Nat.lt_of_le_of_lt h (by decide))]; rfl
theorem obj_Same_refl (o : Object) (h : o.Data.length ≤ 100000) : obj_Same o o = some true := by
  unfold obj_Same
  rw [decide_eq_true rfl, cond_true, decide_eq_true rfl, cond_true, decide_eq_true rfl, cond_true, equalP _ h]; rfl
theorem objectS_data (s : Store) (root : Ptr) (n : Int) : (objectS s root n).1.Data.length ≤ 15 := by
  have one : ∀ x, (oneS s x).1.Data.length ≤ 15 := by
    intro x
    by_cases c : (oneS s x).2 = 0
    · exact Nat.le_of_eq (oneS_ok c).1.2.2.2.1
    · unfold oneS at c ⊢
      by_cases c1 : (lookS s x).2 = 0
      · rw [if_pos c1] at c ⊢
        rcases readO_cases (lookS s x).1 with e | e
        · exact absurd e c
        · rw [e]; exact Nat.zero_le _
      · rw [if_neg c1]; exact Nat.zero_le _
  unfold objectS
  split
  · split
    · exact Nat.zero_le _
    · split
      · exact one _
      · exact Nat.zero_le _
  · exact Nat.zero_le _
theorem alone_l1 (s : Store) (L : List Ptr × Int) (hS : s.Space.length = 256) (hL : ∀ x ∈ L.1, okR x) : ∀ (k i n : Nat), i + k = L.1.length → k < n →
    ∃ o, run (law15_SetAlone_l1 s L) n i = some o ∧ (o = .inr () ∨ (o = .inl () ∧ ∀ x ∈ L.1.drop i, s.Space[x.At.toNat]? ≠ some 0))
  | 0, i, n, hi, hn => by
    obtain ⟨n, rfl⟩ : ∃ q, n = q + 1 := ⟨n - 1, by omega⟩
    refine ⟨.inl (), run_en (by unfold law15_SetAlone_l1; rw [decide_eq_false (by omega)]; rfl), .inr ⟨rfl, fun x hx => ?_⟩⟩
    rw [List.drop_eq_nil_of_le (by omega)] at hx; cases hx
  | k + 1, i, n, hi, hn => by
    obtain ⟨n, rfl⟩ : ∃ q, n = q + 1 := ⟨n - 1, by omega⟩
    have hlt : i < L.1.length := by omega
    have ho := hL _ (List.getElem_mem hlt)
    obtain ⟨a, ha⟩ := Int.eq_ofNat_of_zero_le (show 0 ≤ (L.1[i]).At by have := ho.1; omega)
    have hlt2 : a < s.Space.length := by have := ho.2.1; omega
    by_cases c : s.Space[a] = (0 : UInt8)
    · refine ⟨.inr (), run_en (by unfold law15_SetAlone_l1; rw [decide_eq_true (by omega), cond_true, idx_nat _ hlt, ha, idx_nat _ hlt2, decide_eq_true c]; rfl), .inl rfl⟩
    · obtain ⟨o, h1, h2⟩ := alone_l1 s L hS hL k (i + 1) n (by omega) (by omega)
      refine ⟨o, ?_, h2.imp (fun e => e) (fun e => ⟨e.1, fun x hx => ?_⟩)⟩
      · rw [run_st (s' := i + 1) (by unfold law15_SetAlone_l1; rw [decide_eq_true (by omega), cond_true, idx_nat _ hlt, ha, idx_nat _ hlt2, decide_eq_false c]; rfl)]; exact h1
      · rw [List.drop_eq_getElem_cons hlt] at hx
        rcases List.mem_cons.1 hx with rfl | hx
        · rw [ha, Int.toNat_natCast, List.getElem?_eq_getElem hlt2]
          exact fun e => c (Option.some.inj e)
        · exact e.2 x hx
theorem alone_l2 (L : List Ptr × Int) (hL : L.1.length ≤ 1000) : loop (law15_SetAlone_l2 L L) 0 = some (.inl ()) := by
  have key : ∀ (k i n : Nat), i + k = L.1.length → k < n → run (law15_SetAlone_l2 L L) n i = some (.inl ()) := by
    intro k
    induction k with
    | zero =>
      intro i n hi hn
      obtain ⟨n, rfl⟩ : ∃ m, n = m + 1 := ⟨n - 1, by omega⟩
      exact run_en (by unfold law15_SetAlone_l2; rw [decide_eq_false (by omega)]; rfl)
    | succ k ih =>
      intro i n hi hn
      obtain ⟨n, rfl⟩ : ∃ m, n = m + 1 := ⟨n - 1, by omega⟩
      rw [run_go (s' := i + 1) (by unfold law15_SetAlone_l2; rw [decide_eq_true (by omega), cond_true, idx_nat _ (show i < L.1.length by omega), idx_nat _ (show i < L.1.length by omega), ptr_dec, decide_eq_true rfl]; rfl)]
      exact ih (i + 1) n (by omega) (by omega)
  exact key L.1.length 0 FUEL (by omega) (Nat.lt_of_le_of_lt hL (by decide))
theorem law_SetAlone (s : Store) (root : Ptr) (n : Int) (a : UInt32) (b : List UInt8) (hs : Sized s.Disk) (_ : InI64 root.At) (_ : InI64 n) : law15_SetAlone s root n a b = some true := by
  unfold law15_SetAlone
  obtain ⟨g, hg⟩ := great13_tot hs
  rw [alive15, Option.bind_some, show (!true) = false from rfl, cond_false, hg, Option.bind_some]
  cases g with
  | true => rfl
  | false =>
    rw [cond_false]
    by_cases c : (10000 : Int) < (b.length : Int)
    · rw [decide_eq_true c]; rfl
    rw [decide_eq_false c, cond_false, store_Check_eq hs, Option.bind_some]
    by_cases h1 : OKSt s
    · rw [if_pos h1, zdec, cond_false, set_Walk_eq hs, Option.bind_some]
      by_cases h0 : (walkS s root 0).2 = 0
      · rw [h0, zdec, cond_false]
        have hL := walkS_len (s := s) (root := root) (a := 0)
        obtain ⟨o, e1, e2⟩ := alone_l1 s (walkS s root 0) h1.2.1.1 walkS_okR (walkS s root 0).1.length 0 1001 (by omega) (by omega)
        rw [show loop (law15_SetAlone_l1 s (walkS s root 0)) 0 = some o from loop_of (by decide) e1, Option.bind_some]
        rcases e2 with rfl | ⟨rfl, e2⟩
        · rfl
        · rw [Sum.elim_inl, lay_raw]
          rcases raw_cases hs 1 0 0 b with ⟨e, k1, k2, -⟩ | ⟨t, q, j, k1, k2, k3⟩
          · rw [k1, Option.bind_some, ndec k2]; rfl
          · have ht := k3.okt.sized
            have hf := (freeFrom_some k3.free).2.2
            have hj : ∀ x ∈ (walkS s root 0).1, x.At.toNat ≠ j := fun x hx e => e2 x (by rw [List.drop_zero]; exact hx) (by rw [e]; exact hf)
            obtain ⟨a1, -⟩ := alone_same k3 h0 hj n a
            obtain ⟨-, a2⟩ := alone_same k3 h0 hj n a
            have hLa := walkS_len (s := s) (root := root) (a := a)
            rw [k1, Option.bind_some, zdec, cond_false, set_Object_eq hs, Option.bind_some, set_Object_eq ht, Option.bind_some, set_Walk_eq hs, Option.bind_some, set_Walk_eq ht, Option.bind_some, a1, a2, nbeq rfl, cond_false, obj_Same_refl _ (by have := objectS_data s root n; omega), Option.bind_some, show (!true) = false from rfl, cond_false, nbeq rfl, cond_false, nbeq rfl, cond_false, alone_l2 _ (by omega)]; rfl
      · rw [ndec h0]; rfl
    · rw [if_neg h1]; rfl
end Go.Ow
