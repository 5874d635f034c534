import Derived.Test.YtdoebbgjjlicjaaOwMd
/-
  What is proved here: pointers as bytes and back, rows of pointers (ptr), in plain words.
-/
namespace Go.Ow
set_option linter.unusedVariables false
set_option linter.unusedSimpArgs false

def ptrB (p : Ptr) : List UInt8 := leB p.At.toNat 1 ++ leB p.Birth.toNat 3 ++ leB p.Iv.toNat 4 ++ leB p.Tag.toNat 4 ++ leB p.Sum.toNat 4
theorem ptrB_length (p : Ptr) : (ptrB p).length = 16 := by simp only [ptrB, List.length_append, leB_length]
theorem write_step (p : Ptr) (i n k : Nat) (r : List UInt8) (hs : (A5.mk (1 : Int) 3 4 4 4).l[i]? = some (k : Int)) (hn : (A5.mk p.At (p.Birth.toNat : Int) (p.Iv.toNat : Int) (p.Tag.toNat : Int) (p.Sum.toNat : Int)).l[i]? = some (n : Int))
    (hi : i < 5) (hr : r.length ≤ 100) (h1 : 1 ≤ k) (h4 : k ≤ 4) (hlt : n < 256 ^ k) : ptr_Write_l1 p (A5.mk 1 3 4 4 4) (r, i) = some (.inl (r ++ leB n k, i + 1)) := by
  unfold ptr_Write_l1
  dsimp only
  rw [decide_eq_true (show (i : Int) < 5 by omega)]
  simp only [cond_true]
  rw [idx_eq (y := (k : Int)) ⟨by omega, hs⟩, idx_eq (y := (n : Int)) ⟨by omega, hn⟩, code_Put_eq h1 h4 hlt]
  simp only [Option.bind_some]
  rw [app_eq (by simp only [leB_length, LIM]; omega)]
theorem ptr_Write_eq {p : Ptr} (h : okR p) : ptr_Write p = some (ptrB p, 0) := by
  obtain ⟨h1, h2, h3, h4⟩ := h
  have hb : p.Birth.toNat < 256 ^ 3 := by
    have := UInt32.le_iff_toNat_le.1 h4
    have e : (16777215 : UInt32).toNat = 16777215 := rfl
    rw [e] at this
    have e3 : (256 : Nat) ^ 3 = 16777216 := by decide
    omega
  have e4 : (256 : Nat) ^ 4 = 4294967296 := by decide
  have hloop : loop (ptr_Write_l1 p (A5.mk 1 3 4 4 4)) (([] : List UInt8), 0) = some (ptrB p) :=
    run5 (write_step p 0 p.At.toNat 1 [] rfl (by show some p.At = some _; rw [Int.toNat_of_nonneg (by omega)]) (by omega) (by simp) (by omega) (by omega) (by omega))
      (write_step p 1 p.Birth.toNat 3 _ rfl rfl (by omega) (by simp [leB_length]) (by omega) (by omega) hb)
      (write_step p 2 p.Iv.toNat 4 _ rfl rfl (by omega) (by simp [leB_length]) (by omega) (by omega) (by have := u32_lt p.Iv; omega))
      (write_step p 3 p.Tag.toNat 4 _ rfl rfl (by omega) (by simp [leB_length]) (by omega) (by omega) (by have := u32_lt p.Tag; omega))
      (write_step p 4 p.Sum.toNat 4 _ rfl rfl (by omega) (by simp [leB_length]) (by omega) (by omega) (by have := u32_lt p.Sum; omega))
      (by unfold ptr_Write_l1; rfl)
  unfold ptr_Write
  rw [ptr_Check_eq', if_pos (.inr ⟨h1, h2, h3, h4⟩)]
  simp only [Option.bind_some, decide_true, Bool.not_true, cond_false, ptr_sizes]
  rw [hloop]
  rfl

def at5 (b : List UInt8) : Ptr := ⟨(numB ((b.drop 0).take 1) : Int), u32i (numB ((b.drop 1).take 3) : Int), u32i (numB ((b.drop 4).take 4) : Int), u32i (numB ((b.drop 8).take 4) : Int), u32i (numB ((b.drop 12).take 4) : Int)⟩
theorem drop_app {α : Type} (a b : List α) {n : Nat} (h : a.length = n) : (a ++ b).drop n = b := by subst h; exact List.drop_left
theorem take_app {α : Type} (a b : List α) {n : Nat} (h : a.length = n) : (a ++ b).take n = a := by subst h; exact List.take_left
theorem u32i_num {a : UInt32} {k : Nat} (h : a.toNat < 256 ^ k) : u32i (numB (leB a.toNat k) : Int) = a := by
  rw [numB_leB h]
  unfold u32i
  apply UInt32.toNat_inj.1
  rw [UInt32.toNat_ofNat']
  have := u32_lt a
  omega
theorem at5_ptrB {p : Ptr} (h : okR p) : at5 (ptrB p) = p := by
  obtain ⟨h1, h2, h3, h4⟩ := h
  have hb : p.Birth.toNat < 256 ^ 3 := by
    have := UInt32.le_iff_toNat_le.1 h4
    have e : (16777215 : UInt32).toNat = 16777215 := rfl
    rw [e] at this
    have e3 : (256 : Nat) ^ 3 = 16777216 := by decide
    omega
  have e4 : (256 : Nat) ^ 4 = 4294967296 := by decide
  have q0 : ptrB p = leB p.At.toNat 1 ++ (leB p.Birth.toNat 3 ++ (leB p.Iv.toNat 4 ++ (leB p.Tag.toNat 4 ++ leB p.Sum.toNat 4))) := by simp only [ptrB, List.append_assoc]
  have q1 : (ptrB p).drop 1 = leB p.Birth.toNat 3 ++ (leB p.Iv.toNat 4 ++ (leB p.Tag.toNat 4 ++ leB p.Sum.toNat 4)) := by rw [q0]; exact drop_app _ _ (leB_length _ _)
  have q2 : (ptrB p).drop 4 = leB p.Iv.toNat 4 ++ (leB p.Tag.toNat 4 ++ leB p.Sum.toNat 4) := by rw [show 4 = 1 + 3 from rfl, ← List.drop_drop, q1]; exact drop_app _ _ (leB_length _ _)
  have q3 : (ptrB p).drop 8 = leB p.Tag.toNat 4 ++ leB p.Sum.toNat 4 := by rw [show 8 = 4 + 4 from rfl, ← List.drop_drop, q2]; exact drop_app _ _ (leB_length _ _)
  have q4 : (ptrB p).drop 12 = leB p.Sum.toNat 4 := by rw [show 12 = 8 + 4 from rfl, ← List.drop_drop, q3]; exact drop_app _ _ (leB_length _ _)
  unfold at5
  rw [List.drop_zero, q1, q2, q3, q4, take_app _ _ (leB_length _ 3), take_app _ _ (leB_length _ 4), take_app _ _ (leB_length _ 4), List.take_of_length_le (l := leB p.Sum.toNat 4) (by rw [leB_length]; omega), q0, take_app _ _ (leB_length _ 1)]
  rw [u32i_num hb, u32i_num (by have := u32_lt p.Iv; omega), u32i_num (by have := u32_lt p.Tag; omega), u32i_num (by have := u32_lt p.Sum; omega), numB_leB (by omega), Int.toNat_of_nonneg (by omega)]

def okP (p : Ptr) : Prop := isNone p ∨ okR p
instance (p : Ptr) : Decidable (okP p) := by unfold okP; infer_instance
theorem isNone.eq {p : Ptr} (h : isNone p) : p = noP := by
  obtain ⟨a, b, c, d, e⟩ := p
  obtain ⟨h1, h2, h3, h4, h5⟩ := h
  simp only at h1 h2 h3 h4 h5
  subst h1; subst h2; subst h3; subst h4; subst h5; rfl
theorem ptrB_no : ptrB noP = List.replicate 16 0 := by decide +kernel
theorem write_no : ptr_Write noP = some (ptrB noP, 0) := by decide +kernel
theorem ptr_Write_ok {p : Ptr} (h : okP p) : ptr_Write p = some (ptrB p, 0) := by
  rcases h with h | h
  · rw [h.eq]; exact write_no
  · exact ptr_Write_eq h
theorem ptr_Write_bad {p : Ptr} (h : ¬ okP p) : ptr_Write p = some ([], 8) := by
  unfold ptr_Write
  rw [ptr_Check_eq', if_neg (show ¬ (isNone p ∨ okR p) from h)]; rfl
theorem Ptr.ext_iff' {a b : Ptr} : a = b ↔ (a.At = b.At ∧ a.Birth = b.Birth ∧ a.Iv = b.Iv ∧ a.Tag = b.Tag ∧ a.Sum = b.Sum) := by
  constructor
  · intro h; subst h; exact ⟨rfl, rfl, rfl, rfl, rfl⟩
  · intro h
    obtain ⟨a1, a2, a3, a4, a5⟩ := a
    obtain ⟨b1, b2, b3, b4, b5⟩ := b
    simp only at h
    obtain ⟨rfl, rfl, rfl, rfl, rfl⟩ := h
    rfl
instance : DecidableEq Ptr := fun a b => decidable_of_iff _ Ptr.ext_iff'.symm
theorem at5_no : at5 (ptrB noP) = noP := by decide +kernel
theorem at5_ptrB' {p : Ptr} (h : okP p) : at5 (ptrB p) = p := by
  rcases h with h | h
  · rw [h.eq]; exact at5_no
  · exact at5_ptrB h

/-! ### Rows -/
def rowF (y : Ptr) (r : List UInt8) : Option (List UInt8 ⊕ (List UInt8 ⊕ Int)) := Option.bind (ptr_Write y) fun x => cond (!decide (x.2 = 0)) (some (.inr (.inr x.2))) (appN 256 r x.1 fun q => some (.inl q))
theorem flat_len (l : List Ptr) : ((l.map ptrB).flatten).length = 16 * l.length := by
  induction l with
  | nil => rfl
  | cons p r ih => rw [List.map_cons, List.flatten_cons, List.length_append, ih, ptrB_length, List.length_cons]; omega
theorem row_fold : ∀ (l : List Ptr) (r : List UInt8), r.length + 16 * l.length ≤ 256 →
    forL rowF l r = some (if ∀ p ∈ l, okP p then .inl (r ++ (l.map ptrB).flatten) else .inr (.inr 8))
  | [], r, _ => by simp [forL]
  | p :: l, r, h => by
    rw [List.length_cons] at h
    by_cases hp : okP p
    · rw [forL_cons (s' := r ++ ptrB p) (by unfold rowF; rw [ptr_Write_ok hp, Option.bind_some, zdec, cond_false, appN_eq (by rw [ptrB_length]; omega)]), row_fold l _ (by rw [List.length_append, ptrB_length]; omega)]
      by_cases hl : ∀ q ∈ l, okP q
      · rw [if_pos hl, if_pos (fun q hq => by rcases List.mem_cons.1 hq with rfl | h; exact hp; exact hl q h)]
        simp
      · rw [if_neg hl, if_neg (fun h => hl (fun q hq => h q (by simp [hq])))]
    · rw [forL_stop (e := .inr 8) (by unfold rowF; rw [ptr_Write_bad hp]; rfl), if_neg (fun h => hp (h p (by simp)))]
def rowB (l : List Ptr) : List UInt8 := (l.map ptrB).flatten ++ List.replicate (256 - 16 * l.length) 0
theorem rowB_length {l : List Ptr} (h : l.length ≤ 16) : (rowB l).length = 256 := by rw [rowB, List.length_append, flat_len, List.length_replicate]; omega
theorem ptr_Row_eq {l : List Ptr} (h : l.length ≤ 16) : ptr_Row l = some (if ∀ p ∈ l, okP p then (rowB l, 0) else ([], 8)) := by
  unfold ptr_Row
  rw [decide_eq_false (by omega), cond_false]
  rw [loop_each' l (fun i r => (r, i)) rowF (fun r => .inl r) (fun i hi r => by
    unfold ptr_Row_l1
    dsimp only
    rw [decide_eq_true (by omega), cond_true, idx_nat _ hi]
    unfold rowF
    cases ptr_Write l[i] with
    | none => rfl
    | some x =>
      rw [Option.bind_some, Option.bind_some]
      cases hb : (!decide (x.2 = 0)) with
      | true => rfl
      | false =>
        rw [cond_false, cond_false]
        unfold appN
        split <;> rfl) (fun r => by
    unfold ptr_Row_l1
    dsimp only
    rw [decide_eq_false (by omega)]; rfl) (lt_fuel h (by decide)) [], row_fold l [] (by simp; omega)]
  by_cases hl : ∀ q ∈ l, okP q
  · rw [if_pos hl, if_pos hl, Option.bind_some]
    show Option.bind (some (Sum.inl _)) _ = _
    rw [Option.bind_some, Sum.elim_inl, List.nil_append, extO_eq (by rw [flat_len]; omega)]
    unfold rowB
    rw [flat_len]; rfl
  · rw [if_neg hl, if_neg hl]; rfl

def ptrsOf (b : List UInt8) : List Ptr := (chunks 16 b.length b).map at5
def rowsB (b : List UInt8) : List Ptr × Int := if ∀ p ∈ ptrsOf b, okP p then (ptrsOf b, 0) else ([], 8)
theorem chunks_row : ∀ (l : List Ptr) (k f : Nat), 16 * l.length + 16 * k ≤ f → chunks 16 f ((l.map ptrB).flatten ++ List.replicate (16 * k) 0) = l.map ptrB ++ List.replicate k (ptrB noP)
  | [], 0, f, _ => by simp [chunks_nil]
  | [], k + 1, 0, h => by omega
  | [], k + 1, f + 1, h => by
    have e : List.replicate (16 * (k + 1)) (0 : UInt8) = List.replicate 16 0 ++ List.replicate (16 * k) 0 := by rw [List.replicate_append_replicate]; congr 1; omega
    have ih := chunks_row [] k f (by simp at h ⊢; omega)
    simp only [List.map_nil, List.flatten_nil, List.nil_append] at ih ⊢
    rw [e, chunks_step (by simp), take_app _ _ (by simp), drop_app _ _ (by simp), ih, ptrB_no]; rfl
  | p :: l, k, 0, h => by simp at h
  | p :: l, k, f + 1, h => by
    have ih := chunks_row l k f (by simp at h; omega)
    rw [List.map_cons, List.flatten_cons, List.append_assoc]
    have hne : ptrB p ++ ((l.map ptrB).flatten ++ List.replicate (16 * k) 0) ≠ [] := by
      intro e
      have := congrArg List.length e
      rw [List.length_append, ptrB_length] at this
      simp at this
    rw [chunks_step hne, take_app _ _ (ptrB_length p), drop_app _ _ (ptrB_length p), ih]; rfl
theorem ptrsOf_row {l : List Ptr} (h : l.length ≤ 16) (hp : ∀ p ∈ l, okP p) : ptrsOf (rowB l) = l ++ List.replicate (16 - l.length) noP := by
  unfold ptrsOf
  rw [rowB_length h]
  unfold rowB
  rw [show 256 - 16 * l.length = 16 * (16 - l.length) by omega, chunks_row l _ _ (by omega), List.map_append, List.map_map, List.map_replicate, at5_no]
  congr 1
  conv => rhs; rw [← List.map_id l]
  exact List.map_congr_left (fun p hq => at5_ptrB' (hp p hq))
theorem okP_no : okP noP := .inl noP_none
theorem rowsB_row {l : List Ptr} (h : l.length ≤ 16) (hp : ∀ p ∈ l, okP p) : rowsB (rowB l) = (l ++ List.replicate (16 - l.length) noP, 0) := by
  unfold rowsB
  rw [ptrsOf_row h hp, if_pos]
  intro p hq
  rcases List.mem_append.1 hq with h | h
  · exact hp p h
  · rw [(List.mem_replicate.1 h).2]; exact okP_no
end Go.Ow

/-
  What is proved here: objects as blocks and back (obj), the pointers and objects below a root (set), in plain words.
-/
namespace Go.Ow
set_option linter.unusedVariables false
set_option linter.unusedSimpArgs false

/-! ### May an object be? -/
def okO (o : Object) : Prop := ((1 : Int) ≤ (o.Kind.toNat : Int) ∧ (o.Kind.toNat : Int) ≤ 7) ∧ (0 ≤ o.Links ∧ o.Links ≤ 255) ∧ (0 ≤ o.Size ∧ o.Size ≤ 3840) ∧ o.Data.length = 15 ∧ ∀ p ∈ o.Data, okP p
instance (o : Object) : Decidable (okO o) := by unfold okO; infer_instance
/-! ### As a block -/
def objB (o : Object) : List UInt8 := ([o.Kind, u8i o.Links] ++ leB o.Size.toNat 2) ++ List.replicate 12 0 ++ (rowB o.Data).take 240
def noO : Object := ⟨0, 0, 0, []⟩
def objOf (b : List UInt8) : Object := ⟨b.getD 0 0, ((b.getD 1 0).toNat : Int), (numB ((b.drop 2).take 2) : Int), (ptrsOf (b.drop 16 ++ List.replicate 16 0)).take 15⟩
def readO (b : List UInt8) : Object × Int :=
  if (rowsB (b.drop 16 ++ List.replicate 16 0)).2 = 0 ∧ (b.take 16).drop 4 = List.replicate 12 0 ∧ okO (objOf b) then (objOf b, 0) else (noO, 8)
theorem u8i_toNat {n : Int} (h : 0 ≤ n ∧ n ≤ 255) : ((u8i n).toNat : Int) = n := by
  obtain ⟨k, rfl⟩ := Int.eq_ofNat_of_zero_le h.1
  rw [u8i_nat]
  simp only [UInt8.toNat_ofNat']
  omega
theorem readO_objB {o : Object} (h : okO o) : readO (objB o) = (o, 0) := by
  obtain ⟨h1, h2, h3, h4, h5⟩ := h
  have hw : objB o = [o.Kind, u8i o.Links] ++ (leB o.Size.toNat 2 ++ (List.replicate 12 0 ++ (rowB o.Data).take 240)) := by simp [objB]
  have d4 : (objB o).drop 4 = List.replicate 12 0 ++ (rowB o.Data).take 240 := by
    unfold objB
    rw [List.append_assoc]; exact drop_app _ _ (by rw [List.length_append, leB_length]; rfl)
  have d16 : (objB o).drop 16 = (rowB o.Data).take 240 := by
    rw [show 16 = 4 + 12 from rfl, ← List.drop_drop, d4]; exact drop_app _ _ (by simp)
  have hrow : (rowB o.Data).take 240 ++ List.replicate 16 0 = rowB o.Data := by
    unfold rowB
    rw [take_app _ _ (by rw [flat_len, h4]), h4]
  have hrs := rowsB_row (l := o.Data) (by omega) h5
  have hps := ptrsOf_row (l := o.Data) (by omega) h5
  have ho : objOf (objB o) = o := by
    obtain ⟨K, L, S, D⟩ := o
    unfold objOf
    rw [d16, hrow, hps]
    have e1 : (objB ⟨K, L, S, D⟩).getD 0 0 = K := rfl
    have e2 : (objB ⟨K, L, S, D⟩).getD 1 0 = u8i L := rfl
    have e3 : ((objB ⟨K, L, S, D⟩).drop 2).take 2 = leB S.toNat 2 := by
      rw [hw]
      show List.take 2 (leB S.toNat 2 ++ (List.replicate 12 0 ++ (rowB D).take 240)) = _
      exact take_app _ _ (leB_length _ _)
    have hS : S.toNat < 256 ^ 2 := by
      have h3' : 0 ≤ S ∧ S ≤ 3840 := h3
      have : (256 : Nat) ^ 2 = 65536 := rfl
      omega
    rw [e1, e2, e3, u8i_toNat h2, numB_leB hS, Int.toNat_of_nonneg h3.1]
    congr 1
    exact take_app D _ h4
  unfold readO
  rw [ho, if_pos]
  refine ⟨?_, ?_, h1, h2, h3, h4, h5⟩
  · rw [d16, hrow, hrs]
  · have : ((objB o).take 16).drop 4 = ((objB o).drop 4).take 12 := by rw [List.drop_take]
    rw [this, d4, take_app _ _ (by simp)]

/-! ### Below a root -/
def oneS (s : Store) (p : Ptr) : Object × Int := if (lookS s p).2 = 0 then readO (lookS s p).1 else (noO, (lookS s p).2)
end Go.Ow

/-
  What is proved here: what is told below a root (set.Walk), in plain words.
-/
namespace Go.Ow
set_option linter.unusedVariables false
set_option linter.unusedSimpArgs false

end Go.Ow

/-
  What is proved here: the chapter's dataset is made, and told; the law SetNames, in plain words.
-/
namespace Go.Ow
set_option linter.unusedVariables false
set_option linter.unusedSimpArgs false

theorem lay_ok {s : Store} {birth : UInt32} {b : List UInt8} {j : Nat} (h : OKSt s) (hb : birthOk birth) (hl : b.length = 256) (hf : freeFrom s.Space 0 = some j) (hw : s.Disk.Waits.length ≠ 4096) :
    ∃ t q, store_Lay s birth b = some (t, q, 0) ∧ PutAt s ⟨0, birth, 0, 0, 0⟩ b t q j := by
  rw [lay_raw]
  rcases raw_cases h.sized birth 0 0 b with ⟨e, -, -, hh⟩ | ⟨t, q, j', h1, h2, h3⟩
  · rcases hh h hb hl with h' | h'
    · rw [hf] at h'; cases h'
    · exact absurd h' hw
  · have : j' = j := by have := h3.free; rw [hf] at this; exact (Option.some.inj this).symm
    subst this
    exact ⟨t, q, h1, h3⟩
theorem PutAt.space {s : Store} {p : Ptr} {b : List UInt8} {t : Store} {q : Ptr} {j : Nat} (h : PutAt s p b t q j) : t.Space = s.Space.set j 1 := by rw [h.out]
theorem PutAt.waits {s : Store} {p : Ptr} {b : List UInt8} {t : Store} {q : Ptr} {j : Nat} (h : PutAt s p b t q j) : t.Disk.Waits.length = s.Disk.Waits.length + 1 := by rw [h.out]; simp
def dataM (p q : Ptr) : List Ptr := [p, noP, noP, noP, q, noP, noP, noP, noP, noP, noP, noP, noP, noP, noP]
structure Made (s : Store) (root at' p q : Ptr) : Prop where
  ok : OKSt s
  hr : okR root
  ha : okR at'
  hp : okR p
  hq : okR q
  rb : root.Birth = 5
  ab : at'.Birth = 5
  pb : p.Birth = 3
  qb : q.Birth = 5
  lr : lookS s root = (rowB [noP, noP, at'], 0)
  la : lookS s at' = (objB ⟨1, 0, 0, dataM p q⟩, 0)
theorem space1 : freeFrom (newT.set 12 1) 0 = some 13 := by decide +kernel
theorem space2 : freeFrom ((newT.set 12 1).set 13 1) 0 = some 14 := by decide +kernel
theorem okO_data {p q : Ptr} (hp : okR p) (hq : okR q) : okO ⟨1, 0, 0, dataM p q⟩ := by
  refine ⟨⟨by show (1 : Int) ≤ ((1 : UInt8).toNat : Int); decide, by show ((1 : UInt8).toNat : Int) ≤ 7; decide⟩, ⟨Int.le_refl _, by show (0 : Int) ≤ 255; decide⟩, ⟨Int.le_refl _, by show (0 : Int) ≤ 3840; decide⟩, rfl, fun x hx => ?_⟩
  have : x = p ∨ x = q ∨ x = noP := by simp [dataM] at hx; rcases hx with h | h | h | h <;> simp [h]
  rcases this with rfl | rfl | rfl
  · exact .inr hp
  · exact .inr hq
  · exact okP_no
section told
variable {s : Store} {root at' p q : Ptr} (h : Made s root at' p q)
include h
theorem Made.one : oneS s at' = (⟨1, 0, 0, dataM p q⟩, 0) := by
  unfold oneS
  rw [h.la, if_pos rfl, readO_objB (okO_data h.hp h.hq)]
end told
end Go.Ow

/-
  What is proved here: the law SetYoung, in plain words.
-/
namespace Go.Ow
set_option linter.unusedVariables false
set_option linter.unusedSimpArgs false

end Go.Ow

/-
  What is proved here: the law SetParts, in plain words.
-/
namespace Go.Ow
set_option linter.unusedVariables false
set_option linter.unusedSimpArgs false

end Go.Ow

/-
  What is proved here: the law SetLater, in plain words: what is told above a later birth is a part of what is told above an earlier one, in order.
-/
namespace Go.Ow
set_option linter.unusedVariables false
set_option linter.unusedSimpArgs false

end Go.Ow

/-
  What is proved here: the law SetAlone, in plain words: a block that is laid changes nothing that is told below a root whose blocks are all taken.
-/
namespace Go.Ow
set_option linter.unusedVariables false
set_option linter.unusedSimpArgs false

section
variable {s : Store} {p : Ptr} {b : List UInt8} {t : Store} {q : Ptr} {j : Nat}
end
end Go.Ow

/-
  What is proved here: dead lists are checked and joined as is said: plain lists alone.
-/
namespace Go.Ow.Dd
open Go.Sort Go.Proofs
set_option linter.unusedVariables false
set_option linter.unusedSimpArgs false

/-- one that may be in a dead list -/
def okP (p : Ptr) : Bool := decide (12 ≤ p.At) && decide (p.At < 256) && decide ((1 : UInt32) ≤ p.Birth) && decide (p.Birth ≤ (16777215 : UInt32))
def Valid (l : List Ptr) : Prop := l.length ≤ 240 ∧ (∀ i p, l[i]? = some p → okP p = true ∧ ∀ q, 0 < i → l[i - 1]? = some q → q.At < p.At)

theorem ptr_Check_eq (p : Ptr) (h : (decide (p.At = 0) && (decide (p.Birth = (0 : UInt32)) && (decide (p.Iv = (0 : UInt32)) && (decide (p.Tag = (0 : UInt32)) && (decide (p.Sum = (0 : UInt32)) && true))))) = false) :
    ptr_Check p = some (if okP p then 0 else 8) := by
  unfold ptr_Check okP
  rw [h]
  simp only [cond_false]
  by_cases h1 : p.At < 12
  · have : ¬ (12 ≤ p.At) := by omega
    simp [h1, this]
  · by_cases h2 : 256 ≤ p.At
    · have : ¬ (p.At < 256) := by omega
      simp [h1, h2, this]
    · by_cases h3 : p.Birth < 1
      · have : ¬ ((1 : UInt32) ≤ p.Birth) := by rw [UInt32.not_le]; exact h3
        simp [h1, h2, h3, this]
      · have h3' : (1 : UInt32) ≤ p.Birth := by rw [← UInt32.not_lt]; exact h3
        by_cases h4 : (16777215 : UInt32) < p.Birth
        · have : ¬ (p.Birth ≤ (16777215 : UInt32)) := by rw [UInt32.not_le]; exact h4
          simp [h1, h2, h3, h4, this]
        · have h4' : p.Birth ≤ (16777215 : UInt32) := by rw [← UInt32.not_lt]; exact h4
          have h5 : 12 ≤ p.At := by omega
          have h6 : p.At < 256 := by omega
          simp [h1, h2, h3, h4, h5, h6, h3', h4']
theorem okP_zero (p : Ptr) (h : (decide (p.At = 0) && (decide (p.Birth = (0 : UInt32)) && (decide (p.Iv = (0 : UInt32)) && (decide (p.Tag = (0 : UInt32)) && (decide (p.Sum = (0 : UInt32)) && true))))) = true) : okP p = false := by
  simp only [Bool.and_eq_true, decide_eq_true_eq] at h
  unfold okP
  simp [h.1]

theorem dead_Check_spec (l : List Ptr) : (dead_Check l = some 0 ∧ Valid l) ∨ (dead_Check l = some 8 ∧ ¬ Valid l) := by
  unfold dead_Check
  by_cases hl : 240 < l.length
  · right
    have : (240 : Int) < l.length := by omega
    simp only [this, decide_true, cond_true]
    exact ⟨trivial, fun h => by have := h.1; omega⟩
  · have hl' : ¬ ((240 : Int) < l.length) := by omega
    simp only [hl', decide_false, cond_false]
    obtain ⟨t, ht, hR⟩ := loop_rule (body := dead_Check_l1 l) (fun s => s ≤ l.length ∧ ∀ i p, i < s → l[i]? = some p → okP p = true ∧ ∀ q, 0 < i → l[i - 1]? = some q → q.At < p.At) (fun s => l.length - s)
      (fun t => match t with | .inl _ => Valid l | .inr _ => ¬ Valid l) (by
        rintro s ⟨hs, hI⟩
        unfold dead_Check_l1
        by_cases hlt : s < l.length
        · have h1 : ((s : Nat) : Int) < (l.length : Int) := by omega
          simp only [h1, decide_true, cond_true]
          rw [idx_nat _ hlt]
          have hp : l[s]? = some l[s] := List.getElem?_eq_getElem hlt
          generalize hy : l[s] = y at hp
          have bad : okP y = false → ¬ Valid l := fun h hv => by
            have := (hv.2 s y hp).1; rw [h] at this; cases this
          cases hz : (decide (y.At = 0) && (decide (y.Birth = (0 : UInt32)) && (decide (y.Iv = (0 : UInt32)) && (decide (y.Tag = (0 : UInt32)) && (decide (y.Sum = (0 : UInt32)) && true))))) with
          | true => exact .inr ⟨_, rfl, bad (okP_zero y hz)⟩
          | false =>
            simp only [cond_false]
            rw [ptr_Check_eq y hz]
            cases ho : okP y with
            | false => exact .inr ⟨.inr (), by simp, bad ho⟩
            | true =>
              simp only [Option.bind_some, if_true, decide_true, Bool.not_true, cond_false]
              by_cases h0 : 0 < s
              · have h0' : (0 : Int) < ((s : Nat) : Int) := by omega
                have hw : w64 (((s : Nat) : Int) - 1) = ((s - 1 : Nat) : Int) := by rw [w64_of (by omega) (by omega)]; omega
                simp only [h0', decide_true, cond_true]
                rw [hw, idx_nat _ (by omega : s - 1 < l.length), dead_order_eq]
                have hq : l[s - 1]? = some l[s - 1] := List.getElem?_eq_getElem (by omega)
                generalize l[s - 1] = q at hq
                simp only [Option.bind_some]
                by_cases hc : q.At < y.At
                · left
                  have : ¬ (0 ≤ cmpI q.At y.At) := by simp [cmpI, hc]
                  simp only [this, decide_false, cond_false]
                  refine ⟨_, rfl, ⟨hlt, fun i p hi hip => ?_⟩, by omega⟩
                  by_cases his : i < s
                  · exact hI i p his hip
                  · obtain rfl : i = s := by omega
                    rw [hp] at hip; cases hip
                    exact ⟨ho, fun q' _ hq' => by rw [hq] at hq'; cases hq'; exact hc⟩
                · right
                  have : 0 ≤ cmpI q.At y.At := by unfold cmpI; split <;> (try split) <;> simp_all
                  simp only [this, decide_true, cond_true]
                  exact ⟨_, rfl, fun hv => hc ((hv.2 s y hp).2 q h0 hq)⟩
              · left
                have h0' : ¬ ((0 : Int) < ((s : Nat) : Int)) := by omega
                simp only [h0', decide_false, cond_false]
                refine ⟨_, rfl, ⟨hlt, fun i p hi hip => ?_⟩, by omega⟩
                obtain rfl : i = s := by omega
                rw [hp] at hip; cases hip
                exact ⟨ho, fun q hi0 => absurd hi0 h0⟩
        · right
          have h1 : ¬ (((s : Nat) : Int) < (l.length : Int)) := by omega
          simp only [h1, decide_false, cond_false]
          exact ⟨_, rfl, ⟨by omega, fun i p hip => hI i p (by have := (List.getElem?_eq_some_iff.1 hip).1; omega) hip⟩⟩)
      (s := 0) ⟨Nat.zero_le _, fun i p h => absurd h (by omega)⟩ (by unfold FUEL; omega)
    rw [ht]
    cases t with
    | inl u => exact .inl ⟨rfl, hR⟩
    | inr u => exact .inr ⟨rfl, hR⟩

end Go.Ow.Dd

/-
  What is proved here: slices.Concat of two lists.
-/
namespace Go.Ow.Dd
set_option linter.unusedVariables false
set_option linter.unusedSimpArgs false
theorem run_step {σ τ : Type} {body : σ → Option (σ ⊕ τ)} {n : Nat} {s s' : σ} (h : body s = some (.inl s')) : run body (n + 1) s = run body n s' := by
  show Option.bind (body s) _ = _
  rw [h]; rfl
theorem run_end {σ τ : Type} {body : σ → Option (σ ⊕ τ)} {n : Nat} {s : σ} {t : τ} (h : body s = some (.inr t)) : run body (n + 1) s = some t := by
  show Option.bind (body s) _ = _
  rw [h]; rfl
theorem three_fuel : 3 ≤ FUEL := by decide
theorem run3 {σ τ : Type} {body : σ → Option (σ ⊕ τ)} {s s1 s2 : σ} {t : τ} (h0 : body s = some (.inl s1)) (h1 : body s1 = some (.inl s2)) (h2 : body s2 = some (.inr t)) : loop body s = some t :=
  loop_of three_fuel ((run_step (n := 2) h0).trans ((run_step (n := 1) h1).trans (run_end (n := 0) h2)))
theorem concat_l1_step (l : List (List Ptr)) (n i : Nat) (y : List Ptr) (hy : l[i]? = some y) (hn : n + y.length < 1000) : slices_Concat_Ptr_l1 l ((n : Int), i) = some (.inl (((n + y.length : Nat) : Int), i + 1)) := by
  unfold slices_Concat_Ptr_l1
  dsimp only
  have hlt := (List.getElem?_eq_some_iff.1 hy).1
  rw [show decide ((i : Int) < (l.length : Int)) = true from decide_eq_true (by omega), cond_true, idx_eq (y := y) ⟨by omega, by simpa using hy⟩]
  rw [w64_of (n := (n : Int) + (y.length : Int)) (by omega) (by omega), show decide ((n : Int) + (y.length : Int) < 0) = false from decide_eq_false (by omega), cond_false, Int.natCast_add]
theorem concat_l1 (a b : List Ptr) (ha : a.length ≤ 240) (hb : b.length ≤ 240) : loop (slices_Concat_Ptr_l1 [a, b]) (0, 0) = some ((a.length : Int) + (b.length : Int)) := by
  refine run3 (s1 := (((0 + a.length : Nat) : Int), 1)) (s2 := (((0 + a.length + b.length : Nat) : Int), 2)) (concat_l1_step [a, b] 0 0 a rfl (by omega)) (concat_l1_step [a, b] (0 + a.length) 1 b rfl (by omega)) ?_
  unfold slices_Concat_Ptr_l1
  dsimp only
  rw [show decide (((2 : Nat) : Int) < ([a, b].length : Int)) = false from decide_eq_false (by simp), cond_false, Nat.zero_add, Int.natCast_add]
theorem concat_l2 (a b : List Ptr) (ha : a.length ≤ 240) (hb : b.length ≤ 240) : loop (slices_Concat_Ptr_l2 [a, b]) ([], 0) = some (a ++ b) := by
  have l1 : a.length ≤ LIM := Nat.le_trans ha (by decide)
  have l2 : a.length + b.length ≤ LIM := Nat.le_trans (Nat.add_le_add ha hb) (by decide)
  refine run3 (s1 := (a, 1)) (s2 := (a ++ b, 2)) ?_ ?_ ?_
  · simp [slices_Concat_Ptr_l2, idx, app, l1]
  · simp [slices_Concat_Ptr_l2, idx, app, l2]
  · simp [slices_Concat_Ptr_l2]
theorem grow_eq (n : Nat) (hn : n ≤ 480) : slices_Grow_Ptr (n : Int) = some [] := by
  unfold slices_Grow_Ptr
  have n2 : ¬ ((n : Int) < 0) := by omega
  have w3 : w64 ((n : Int) - 0) = (n : Int) := by rw [w64_of (by omega) (by omega)]; omega
  simp only [n2, decide_false, cond_false, w3]
  by_cases h0 : (0 : Int) < (n : Int)
  · simp only [h0, decide_true, cond_true]
    rw [mks_eq (Nat.le_trans hn (by decide)), slc_eq (by omega) (by omega) (by omega)]
    simp [cut]
  · simp only [h0, decide_false, cond_false, Option.bind_some]
theorem slices_Concat_two (a b : List Ptr) (ha : a.length ≤ 240) (hb : b.length ≤ 240) : slices_Concat_Ptr [a, b] = some (a ++ b) := by
  have h := grow_eq (a.length + b.length) (by omega)
  have h1 := concat_l1 a b ha hb
  have h2 := concat_l2 a b ha hb
  rw [Int.natCast_add] at h
  unfold slices_Concat_Ptr
  generalize (a.length : Int) + (b.length : Int) = n at h h1
  rw [h1, Option.bind_some, h, Option.bind_some, h2, Option.bind_some]
end Go.Ow.Dd

/-
  What is proved here: a list is the same as itself; a clone; the sorted list.
-/
namespace Go.Ow.Dd
set_option linter.unusedVariables false
set_option linter.unusedSimpArgs false
open Go.Sort Go.Proofs
theorem slices_Clone_eq (a : List Ptr) (ha : a.length ≤ 1000) : slices_Clone_Ptr a = some a := by
  unfold slices_Clone_Ptr
  rw [app_eq (Nat.le_trans (by simpa using ha) (by decide))]
  rfl
/-- sorted by place -/
def sortP (l : List Ptr) : List Ptr := sortL (fun x y => (dead_order x y).getD 0) l
theorem slices_SortFunc_eq (l : List Ptr) (hl : l.length ≤ 1000) : slices_SortFunc_Ptr_dead_order l = some (sortP l) := by
  unfold slices_SortFunc_Ptr_dead_order
  rw [if_pos (Nat.lt_of_le_of_lt hl (by decide))]
  rfl
theorem sortP_length (l : List Ptr) : (sortP l).length = l.length := sortL_length dead_order_swo l
theorem sortP_spec (l : List Ptr) : (sortP l).Perm l ∧ (sortP l).Pairwise (fun p q => p.At ≤ q.At) := by
  have h := pdq_sorts (ltOf fun x y => (dead_order x y).getD 0) dead_order_swo l.toArray 0 l.toArray.size (Lib.bitLen l.toArray.size) true true (Nat.zero_le _) (Nat.le_refl _) (Or.inl rfl)
  have e : (pdq (ltOf fun x y => (dead_order x y).getD 0) l.toArray 0 l.toArray.size (Lib.bitLen l.toArray.size) true true) = (sortP l).toArray := by
    have e : (ltOf fun x y => (dead_order x y).getD 0) = fun x y => decide ((dead_order x y).getD 0 < 0) := rfl
    rw [e]; simp [sortP, sortL]
  rw [e] at h
  have hl := sortP_length l
  obtain ⟨⟨_, _, hp⟩, hs⟩ := h
  refine ⟨?_, ?_⟩
  · have e1 : ((sortP l).toArray.extract 0 l.toArray.size).toList = sortP l := by simp [← hl]
    have e2 : (l.toArray.extract 0 l.toArray.size).toList = l := by simp
    rw [e1, e2] at hp
    exact hp
  · rw [List.pairwise_iff_getElem]
    intro i j hi hj hij
    have := hs i j (Nat.zero_le _) hij (by simpa [← hl] using hj)
    rw [dead_order_lt] at this
    simp only [decide_eq_false_iff_not, Int.not_lt] at this
    have ei : (sortP l).toArray[i]! = (sortP l)[i] := by simp [hi]
    have ej : (sortP l).toArray[j]! = (sortP l)[j] := by simp [hj]
    rw [ei, ej] at this
    exact this
end Go.Ow.Dd

/-
  What is proved here: slices.CompactFunc is shorter just where two neighbours have one place.
-/
namespace Go.Ow.Dd
set_option linter.unusedVariables false
set_option linter.unusedSimpArgs false
theorem nth_of {α : Type} {l : List α} {i : Int} (h0 : 0 ≤ i) (h1 : i < l.length) : ∃ y, Nth l i y := ⟨l[i.toNat]'(by omega), h0, List.getElem?_eq_getElem _⟩
theorem compact_l1 (l : List Ptr) (k : Nat) (hk : 1 ≤ k) (hkl : k < l.length) (hl : l.length ≤ 1000) :
    ∃ t, loop (slices_CompactFunc_Ptr_l1 l k) (l, (k : Int), 1) = some t ∧ (t.1.length = l.length ∧ 0 ≤ t.2 ∧ t.2 < l.length) := by
  refine loop_rule (fun (s : List Ptr × Int × Int) => s.1.length = l.length ∧ 0 ≤ s.2.1 ∧ s.2.1 ≤ (k : Int) + s.2.2 - 1 ∧ 1 ≤ s.2.2 ∧ s.2.2 ≤ (l.length : Int) - k) (fun s => ((l.length : Int) - k - s.2.2).toNat) (fun (t : List Ptr × Int) => t.1.length = l.length ∧ 0 ≤ t.2 ∧ t.2 < l.length) ?_ (s := (l, (k : Int), 1)) ⟨rfl, by show (0 : Int) ≤ k; omega, by show (k : Int) ≤ k + 1 - 1; omega, by show (1 : Int) ≤ 1; omega, by show (1 : Int) ≤ l.length - k; omega⟩ ?_
  · rintro ⟨l', i, j⟩ ⟨h1, h2, h3, h4, h5⟩
    dsimp only at h1 h2 h3 h4 h5
    unfold slices_CompactFunc_Ptr_l1
    dsimp only
    by_cases hj : j < (l.length : Int) - (k : Int)
    · left
      obtain ⟨y, hy⟩ := nth_of (l := l') (i := (k : Int) + j) (by omega) (by omega)
      obtain ⟨z, hz⟩ := nth_of (l := l') (i := (k : Int) + (j - 1)) (by omega) (by omega)
      rw [show decide (j < (l.length : Int) - (k : Int)) = true from decide_eq_true hj, cond_true, chk_eq ⟨by omega, hj⟩, idx_eq hy, w64_of (n := j - 1) (by omega) (by omega), chk_eq ⟨by omega, by omega⟩, idx_eq hz]
      unfold dead_Join_1
      rw [Option.bind_some]
      cases decide (y.At = z.At) with
      | true => exact ⟨_, rfl, ⟨h1, h2, by dsimp only; rw [w64_of (by omega) (by omega)]; omega, by dsimp only; rw [w64_of (by omega) (by omega)]; omega, by dsimp only; rw [w64_of (by omega) (by omega)]; omega⟩, by dsimp only; rw [w64_of (n := j + 1) (by omega) (by omega)]; omega⟩
      | false =>
        rw [Bool.not_false, cond_true, chk_eq ⟨by omega, hj⟩, idx_eq hy, chk_eq ⟨by omega, by omega⟩, setI_eq (by omega) (by omega)]
        exact ⟨_, rfl, ⟨by simpa using h1, by dsimp only; rw [w64_of (by omega) (by omega)]; omega, by dsimp only; rw [w64_of (n := i + 1) (by omega) (by omega), w64_of (n := j + 1) (by omega) (by omega)]; omega, by dsimp only; rw [w64_of (by omega) (by omega)]; omega, by dsimp only; rw [w64_of (by omega) (by omega)]; omega⟩, by dsimp only; rw [w64_of (n := j + 1) (by omega) (by omega)]; omega⟩
    · right
      rw [show decide (j < (l.length : Int) - (k : Int)) = false from decide_eq_false hj, cond_false]
      exact ⟨_, rfl, h1, h2, by dsimp only; omega⟩
  · show ((l.length : Int) - k - 1).toNat < FUEL
    exact Nat.lt_of_le_of_lt (m := 1000) (by omega) (by decide)

/-- two neighbours of one place -/
def Twice (l : List Ptr) : Prop := ∃ i p q, l[i]? = some p ∧ l[i + 1]? = some q ∧ p.At = q.At
theorem compact_spec (l : List Ptr) (hl : l.length ≤ 1000) : ∃ m, slices_CompactFunc_Ptr l = some m ∧ (m.length < l.length ↔ Twice l) := by
  unfold slices_CompactFunc_Ptr
  by_cases h2 : l.length < 2
  · rw [show decide ((l.length : Int) < 2) = true from decide_eq_true (by omega), cond_true]
    refine ⟨_, rfl, fun h => absurd h (Nat.lt_irrefl _), fun ⟨i, p, q, h1, h3, _⟩ => ?_⟩
    have := (List.getElem?_eq_some_iff.1 h3).1
    omega
  · rw [show decide ((l.length : Int) < 2) = false from decide_eq_false (by omega), cond_false]
    obtain ⟨t, ht, hR⟩ := loop_rule (body := slices_CompactFunc_Ptr_l2 l) (fun s => 1 ≤ s ∧ s ≤ l.length ∧ ∀ i p q, i + 1 < s → l[i]? = some p → l[i + 1]? = some q → p.At ≠ q.At) (fun s => l.length - s)
      (fun t => match t with | .inl _ => ¬ Twice l | .inr m => m.length < l.length ∧ Twice l) (by
        rintro s ⟨hs1, hs, hI⟩
        unfold slices_CompactFunc_Ptr_l2
        by_cases hlt : s < l.length
        · have hw : w64 (((s : Nat) : Int) - 1) = ((s - 1 : Nat) : Int) := by rw [w64_of (by omega) (by omega)]; omega
          rw [show decide (((s : Nat) : Int) < (l.length : Int)) = true from decide_eq_true (by omega), cond_true, idx_nat _ hlt, hw, idx_nat _ (by omega : s - 1 < l.length)]
          have hp : l[s]? = some l[s] := List.getElem?_eq_getElem hlt
          have hq : l[s - 1]? = some l[s - 1] := List.getElem?_eq_getElem (by omega)
          generalize l[s] = y at hp
          generalize l[s - 1] = z at hq
          unfold dead_Join_1
          rw [Option.bind_some]
          by_cases hc : y.At = z.At
          · right
            rw [show decide (y.At = z.At) = true from decide_eq_true hc, cond_true, chk_eq ⟨by omega, by omega, by omega⟩]
            obtain ⟨t, ht, t1, t2, t3⟩ := compact_l1 l s hs1 hlt hl
            rw [ht, Option.bind_some, chk_eq ⟨t2, by omega, by omega⟩]
            unfold clrO
            dsimp only
            have hlen : (clr t.1 t.2.toNat (t.2.toNat + (((t.1.length : Int)).toNat - t.2.toNat)) (Ptr.mk 0 (0 : UInt32) (0 : UInt32) (0 : UInt32) (0 : UInt32))).length = t.1.length := by
              unfold clr; simp; omega
            rw [slc_eq (by omega) t2 (by rw [hlen]; omega)]
            refine ⟨_, rfl, ?_, s - 1, z, y, hq, by rw [show s - 1 + 1 = s by omega]; exact hp, hc.symm⟩
            have := cut_length (l := clr t.1 t.2.toNat (t.2.toNat + (((t.1.length : Int)).toNat - t.2.toNat)) (Ptr.mk 0 (0 : UInt32) (0 : UInt32) (0 : UInt32) (0 : UInt32))) (a := 0) (b := t.2) (by omega) t2 (by rw [hlen]; omega)
            omega
          · left
            rw [show decide (y.At = z.At) = false from decide_eq_false hc, cond_false]
            refine ⟨_, rfl, ⟨by omega, hlt, fun i p q hi hpi hqi => ?_⟩, by omega⟩
            by_cases his : i + 1 < s
            · exact hI i p q his hpi hqi
            · obtain rfl : s = i + 1 := by omega
              rw [hp] at hqi; cases hqi
              rw [show i + 1 - 1 = i by omega] at hq
              rw [hq] at hpi; cases hpi
              exact fun e => hc e.symm
        · right
          rw [show decide (((s : Nat) : Int) < (l.length : Int)) = false from decide_eq_false (by omega), cond_false]
          refine ⟨_, rfl, fun ⟨i, p, q, h1, h3, h4⟩ => ?_⟩
          have := (List.getElem?_eq_some_iff.1 h3).1
          exact hI i p q (by omega) h1 h3 h4) (s := 1) ⟨by omega, by omega, fun i p q h => absurd h (by omega)⟩ (Nat.lt_of_le_of_lt (Nat.sub_le _ _) (Nat.lt_of_le_of_lt hl (by decide)))
    rw [ht]
    cases t with
    | inl u => exact ⟨l, rfl, fun h => absurd h (Nat.lt_irrefl _), fun h => absurd h hR⟩
    | inr m => exact ⟨m, rfl, fun _ => hR.2, fun _ => hR.1⟩
end Go.Ow.Dd

/-
  What is proved here: what Join of two dead lists is.
-/
namespace Go.Ow.Dd
set_option linter.unusedVariables false
set_option linter.unusedSimpArgs false
theorem pairwise_of_next (l : List Ptr) (h : ∀ i p q, l[i]? = some p → l[i + 1]? = some q → p.At < q.At) : l.Pairwise (fun p q => p.At < q.At) := by
  rw [List.pairwise_iff_getElem]
  have key : ∀ (d i : Nat) (hi : i < l.length) (hj : i + d + 1 < l.length), (l[i]).At < (l[i + d + 1]).At := by
    intro d
    induction d with
    | zero => intro i hi hj; exact h i _ _ (List.getElem?_eq_getElem hi) (List.getElem?_eq_getElem hj)
    | succ d ih =>
      intro i hi hj
      have h1 := ih i hi (by omega)
      have h2 := h (i + d + 1) _ _ (List.getElem?_eq_getElem (by omega)) (List.getElem?_eq_getElem (by omega : i + d + 1 + 1 < l.length))
      have h3 : l[i + (d + 1) + 1] = l[i + d + 1 + 1] := rfl
      rw [h3]; omega
  intro i j hi hj hij
  obtain ⟨d, rfl⟩ : ∃ d, j = i + d + 1 := ⟨j - i - 1, by omega⟩
  exact key d i hi hj
theorem sortP_pairwise {l : List Ptr} (h : ¬ Twice (sortP l)) : (sortP l).Pairwise (fun p q => p.At < q.At) :=
  pairwise_of_next _ fun i p q h1 h2 => by
    have hs := (sortP_spec l).2
    rw [List.pairwise_iff_getElem] at hs
    obtain ⟨i1, e1⟩ := List.getElem?_eq_some_iff.1 h1
    obtain ⟨i2, e2⟩ := List.getElem?_eq_some_iff.1 h2
    have h3 := hs i (i + 1) i1 i2 (by omega)
    rw [e1, e2] at h3
    have h4 : p.At ≠ q.At := fun e => h ⟨i, p, q, h1, h2, e⟩
    omega
theorem join_core {a b c s m : List Ptr} (va : Valid a) (vb : Valid b) (ca : dead_Check a = some 0) (cb : dead_Check b = some 0) (e0 : slices_Concat_Ptr [a, b] = some c) (e1 : slices_SortFunc_Ptr_dead_order c = some s)
    (e2 : slices_Clone_Ptr s = some s) (hm : slices_CompactFunc_Ptr s = some m) (hmt : m.length < s.length ↔ Twice s) (e3 : s.length = c.length) :
    (Valid a ∧ Valid b ∧ Twice s ∧ dead_Join a b = some ([], 2)) ∨ (Valid a ∧ Valid b ∧ ¬ Twice s ∧ 240 < c.length ∧ dead_Join a b = some ([], 9)) ∨ (Valid a ∧ Valid b ∧ ¬ Twice s ∧ c.length ≤ 240 ∧ dead_Join a b = some (s, 0)) := by
  have hj : dead_Join a b = cond (decide ((m.length : Int) < (s.length : Int))) (some (([] : List Ptr), 2)) (cond (decide (240 < (s.length : Int))) (some (([] : List Ptr), 9)) (some (s, 0))) := by
    unfold dead_Join
    rw [ca, Option.bind_some, show decide ((0 : Int) = 0) = true from rfl, Bool.not_true, cond_false, cb, Option.bind_some, show decide ((0 : Int) = 0) = true from rfl, Bool.not_true, cond_false, e0, Option.bind_some, e1, Option.bind_some, e2, Option.bind_some, hm, Option.bind_some]
  by_cases ht : Twice s
  · left
    have := hmt.2 ht
    rw [decide_eq_true (show (m.length : Int) < (s.length : Int) by omega), cond_true] at hj
    exact ⟨va, vb, ht, hj⟩
  · right
    have h1 : ¬ (m.length < s.length) := fun h => ht (hmt.1 h)
    rw [decide_eq_false (show ¬ ((m.length : Int) < (s.length : Int)) by omega), cond_false] at hj
    by_cases h2 : 240 < c.length
    · left
      rw [decide_eq_true (show (240 : Int) < (s.length : Int) by omega), cond_true] at hj
      exact ⟨va, vb, ht, h2, hj⟩
    · right
      rw [decide_eq_false (show ¬ ((240 : Int) < (s.length : Int)) by omega), cond_false] at hj
      exact ⟨va, vb, ht, by omega, hj⟩
/-- what Join of two lists is -/
theorem dead_Join_spec (a b : List Ptr) :
    (¬ (Valid a ∧ Valid b) ∧ dead_Join a b = some ([], 8)) ∨
    (Valid a ∧ Valid b ∧ Twice (sortP (a ++ b)) ∧ dead_Join a b = some ([], 2)) ∨
    (Valid a ∧ Valid b ∧ ¬ Twice (sortP (a ++ b)) ∧ 240 < (a ++ b).length ∧ dead_Join a b = some ([], 9)) ∨
    (Valid a ∧ Valid b ∧ ¬ Twice (sortP (a ++ b)) ∧ (a ++ b).length ≤ 240 ∧ dead_Join a b = some (sortP (a ++ b), 0)) := by
  rcases dead_Check_spec a with ⟨ca, va⟩ | ⟨ca, va⟩
  · rcases dead_Check_spec b with ⟨cb, vb⟩ | ⟨cb, vb⟩
    · right
      have hl : (a ++ b).length ≤ 480 := by have := va.1; have := vb.1; simp; omega
      obtain ⟨m, hm, hmt⟩ := compact_spec (sortP (a ++ b)) (by rw [sortP_length]; omega)
      have e0 := slices_Concat_two a b va.1 vb.1
      have e1 := slices_SortFunc_eq (a ++ b) (by omega)
      have e2 := slices_Clone_eq (sortP (a ++ b)) (by rw [sortP_length]; omega)
      have e3 := sortP_length (a ++ b)
      generalize sortP (a ++ b) = s at hm hmt e1 e2 e3 ⊢
      generalize a ++ b = c at hl e0 e1 e3 ⊢
      refine join_core va vb ca cb e0 e1 e2 hm hmt e3
    · left
      refine ⟨fun h => vb h.2, ?_⟩
      unfold dead_Join; rw [ca, cb]; simp
  · left
    refine ⟨fun h => va h.1, ?_⟩
    unfold dead_Join; rw [ca]; simp
end Go.Ow.Dd

/-
  What is proved here: a list in order is told by what it holds; whether places come twice does not hang on the order.
-/
namespace Go.Ow.Dd
set_option linter.unusedVariables false
set_option linter.unusedSimpArgs false
theorem strict_unique : ∀ {l m : List Ptr}, l.Perm m → l.Pairwise (fun p q => p.At < q.At) → m.Pairwise (fun p q => p.At < q.At) → l = m
  | [], m, h, _, _ => (List.nil_perm.1 h).symm
  | x :: l, [], h, _, _ => by have := h.length_eq; simp at this
  | x :: l, y :: m, h, h1, h2 => by
    rw [List.pairwise_cons] at h1 h2
    have hx : x = y := by
      have hxm : x ∈ y :: m := h.subset (by simp)
      have hyl : y ∈ x :: l := h.symm.subset (by simp)
      rcases List.mem_cons.1 hxm with e | hxm
      · exact e
      · rcases List.mem_cons.1 hyl with e | hyl
        · exact e.symm
        · have a1 := h1.1 y hyl
          have a2 := h2.1 x hxm
          omega
    subst hx
    rw [strict_unique (List.perm_cons _ |>.1 h) h1.2 h2.2]
def ND (l : List Ptr) : Prop := (l.map (·.At)).Nodup
theorem ND.perm {l m : List Ptr} (h : l.Perm m) : ND l ↔ ND m := (h.map _).nodup_iff
theorem ND.of_pairwise {l : List Ptr} (h : l.Pairwise (fun p q => p.At < q.At)) : ND l := by
  unfold ND
  rw [List.Nodup, List.pairwise_map]
  exact h.imp fun h => by omega
theorem twice_iff (l : List Ptr) : Twice (sortP l) ↔ ¬ ND l := by
  rw [← ND.perm (sortP_spec l).1]
  constructor
  · rintro ⟨i, p, q, h1, h2, h3⟩ hn
    unfold ND at hn
    rw [List.Nodup, List.pairwise_map, List.pairwise_iff_getElem] at hn
    obtain ⟨i1, e1⟩ := List.getElem?_eq_some_iff.1 h1
    obtain ⟨i2, e2⟩ := List.getElem?_eq_some_iff.1 h2
    have := hn i (i + 1) i1 i2 (by omega)
    rw [e1, e2] at this
    exact this h3
  · intro h
    by_cases ht : Twice (sortP l)
    · exact ht
    · exact absurd (ND.of_pairwise (sortP_pairwise ht)) h
theorem sortP_unique {l m : List Ptr} (h : l.Perm m) (hn : ND l) : sortP l = sortP m :=
  strict_unique ((sortP_spec l).1.trans (h.trans (sortP_spec m).1.symm)) (sortP_pairwise fun ht => (twice_iff l).1 ht hn) (sortP_pairwise fun ht => (twice_iff m).1 ht ((ND.perm h).1 hn))
theorem sortP_self {l : List Ptr} (h : l.Pairwise (fun p q => p.At < q.At)) : sortP l = l :=
  strict_unique (sortP_spec l).1 (sortP_pairwise fun ht => (twice_iff l).1 ht (ND.of_pairwise h)) h
end Go.Ow.Dd

/-
  What is proved here: Join in one line; what it answers may be a dead list.
-/
namespace Go.Ow.Dd
set_option linter.unusedVariables false
set_option linter.unusedSimpArgs false
open Classical in
/-- Join, said plainly -/
noncomputable def J (a b : List Ptr) : List Ptr × Int :=
  if Valid a ∧ Valid b then if ND (a ++ b) then if (a ++ b).length ≤ 240 then (sortP (a ++ b), 0) else ([], 9) else ([], 2) else ([], 8)
theorem join_eq (a b : List Ptr) : dead_Join a b = some (J a b) := by
  unfold J
  rcases dead_Join_spec a b with ⟨h, e⟩ | ⟨va, vb, ht, e⟩ | ⟨va, vb, ht, hl, e⟩ | ⟨va, vb, ht, hl, e⟩
  · rw [if_neg h, e]
  · rw [if_pos ⟨va, vb⟩, if_neg ((twice_iff _).1 ht), e]
  · have hn : ND (a ++ b) := by
      by_cases h : ND (a ++ b)
      · exact h
      · exact absurd ((twice_iff _).2 h) ht
    rw [if_pos ⟨va, vb⟩, if_pos hn, if_neg (by omega), e]
  · have hn : ND (a ++ b) := by
      by_cases h : ND (a ++ b)
      · exact h
      · exact absurd ((twice_iff _).2 h) ht
    rw [if_pos ⟨va, vb⟩, if_pos hn, if_pos hl, e]
end Go.Ow.Dd

/-
  What is proved here: the example stands.
-/
namespace Go.Ow.Dd
set_option linter.unusedVariables false
set_option linter.unusedSimpArgs false
theorem check_valid {l : List Ptr} (h : Valid l) : dead_Check l = some 0 := by
  rcases dead_Check_spec l with ⟨e, _⟩ | ⟨_, hn⟩
  · exact e
  · exact absurd h hn
theorem valid_of {l : List Ptr} (h0 : l.length ≤ 240) (h1 : ∀ p ∈ l, okP p = true) (h2 : l.Pairwise (fun p q => p.At < q.At)) : Valid l := by
  refine ⟨h0, fun i p hi => ⟨h1 p (List.mem_of_getElem? hi), fun q h hq => ?_⟩⟩
  rw [List.pairwise_iff_getElem] at h2
  obtain ⟨i1, e1⟩ := List.getElem?_eq_some_iff.1 hi
  obtain ⟨i2, e2⟩ := List.getElem?_eq_some_iff.1 hq
  have := h2 (i - 1) i i2 i1 (by omega)
  rw [e1, e2] at this
  exact this
theorem alive_eq : law16_alive = some true := by
  have v1 : Valid [Ptr.mk 20 1 0 0 0, Ptr.mk 30 1 0 0 0] := valid_of (by decide) (by decide) (by decide)
  have v2 : Valid [Ptr.mk 25 1 0 0 0] := valid_of (by decide) (by decide) (by decide)
  have hp : ([Ptr.mk 20 1 0 0 0, Ptr.mk 30 1 0 0 0] ++ [Ptr.mk 25 1 0 0 0]).Perm [Ptr.mk 20 1 0 0 0, Ptr.mk 25 1 0 0 0, Ptr.mk 30 1 0 0 0] := List.Perm.cons _ (List.Perm.swap _ _ _)
  have hs : [Ptr.mk 20 1 0 0 0, Ptr.mk 25 1 0 0 0, Ptr.mk 30 1 0 0 0].Pairwise (fun p q => p.At < q.At) := by decide
  have hn : ND ([Ptr.mk 20 1 0 0 0, Ptr.mk 30 1 0 0 0] ++ [Ptr.mk 25 1 0 0 0]) := (ND.perm hp).2 (ND.of_pairwise hs)
  have hj : J [Ptr.mk 20 1 0 0 0, Ptr.mk 30 1 0 0 0] [Ptr.mk 25 1 0 0 0] = ([Ptr.mk 20 1 0 0 0, Ptr.mk 25 1 0 0 0, Ptr.mk 30 1 0 0 0], 0) := by
    unfold J
    rw [if_pos ⟨v1, v2⟩, if_pos hn, if_pos (by decide), sortP_unique hp hn, sortP_self hs]
  unfold law16_alive law16_at
  simp only [Option.bind_some]
  have ha : dead_Add [Ptr.mk 20 1 0 0 0, Ptr.mk 30 1 0 0 0] (Ptr.mk 25 1 0 0 0) = some ([Ptr.mk 20 1 0 0 0, Ptr.mk 25 1 0 0 0, Ptr.mk 30 1 0 0 0], 0) := by
    unfold dead_Add
    rw [check_valid v2, Option.bind_some, join_eq, hj]
    rfl
  rw [ha]
  rfl
end Go.Ow.Dd

/-
  What is proved here: the law DeadNames, in plain words.
-/
namespace Go.Ow
set_option linter.unusedVariables false
set_option linter.unusedSimpArgs false

def pt (a : Int) (b : UInt32) : Ptr := ⟨a, b, 0, 0, 0⟩
def L16 : List Ptr := [pt 40 1, pt 41 1, pt 42 1, pt 43 1, pt 44 1, pt 45 1, pt 46 1, pt 47 1, pt 48 1, pt 49 1, pt 50 1, pt 51 1, pt 52 1, pt 53 1, pt 54 1, pt 55 1]
def L17 : List Ptr := L16 ++ [pt 56 1]
theorem names_loop : loop law16_DeadNames_v2_l1 (([] : List Ptr), 0) = some L17 := by decide +kernel
theorem check17 : dead_Check L17 = some 0 := by decide +kernel
theorem check0 : dead_Check [] = some 0 := by decide +kernel
theorem check_no : dead_Check [Ptr.mk 0 0 0 0 0] = some 8 := by decide +kernel
theorem split2 : dead_Split [pt 20 1, pt 30 5] 1 = some ([pt 20 1], [pt 30 5], 0) := by decide +kernel
theorem add2 : dead_Add [pt 20 1] (pt 20 2) = some ([], 2) := by
  have v1 : Dd.Valid [pt 20 1] := Dd.valid_of (by decide) (by decide) (by decide)
  have v2 : Dd.Valid [pt 20 2] := Dd.valid_of (by decide) (by decide) (by decide)
  have hj : Dd.J [pt 20 1] [pt 20 2] = ([], 2) := by
    unfold Dd.J
    rw [if_pos ⟨v1, v2⟩, if_neg (by unfold Dd.ND; decide)]
  unfold dead_Add
  rw [Dd.check_valid v2, Option.bind_some, Dd.join_eq, hj]
  rfl
theorem store_Twin_ok {s : Store} (h : OKSt s) : store_Twin s = some s := by
  unfold store_Twin
  rw [show (Disk.mk s.Disk.Blocks s.Disk.Waits) = s.Disk from rfl, dev_Twin_eq h.1.mid, Option.bind_some, bytes_Clone_eq (by rw [h.2.1.1]; decide)]
  rfl
theorem lay_one {s : Store} {l : List Ptr} {j : Nat} (h : OKSt s) (hl : l.length ≤ 16) (hp : ∀ p ∈ l, okP p) (hf : freeFrom s.Space 0 = some j) (hw : s.Disk.Waits.length ≠ 4096) (q0 : Ptr) (e0 : Int) (at' : List Int) (ha : at'.length ≤ 1000) :
    ∃ t q, dead_Lay_1 l s 1 q0 e0 at' = some (t, 1, q, 0, at' ++ [(j : Int)]) ∧ PutAt s ⟨0, 1, 0, 0, 0⟩ (rowB l) t q j := by
  obtain ⟨t, q, e, hh⟩ := lay_ok (birth := 1) (b := rowB l) h (by decide) (rowB_length hl) hf hw
  refine ⟨t, q, ?_, hh⟩
  unfold dead_Lay_1
  rw [ptr_Row_eq hl, if_pos hp, Option.bind_some]
  dsimp only
  rw [e, Option.bind_some, decide_eq_true rfl, cond_true, app_eq (lim_le (by simp; omega)), show q.At = (j : Int) by rw [hh.ptr]]
theorem lay17 : ∃ t q, dead_Lay_v2 newS 1 L17 = some (t, q, [12, 13, 14], 0) ∧ q.At = 14 := by
  obtain ⟨s1, p1, e1, h1⟩ := lay_one (s := newS) (l := L16) newS_ok (by decide) (by decide) newT_free (by decide) noP 0 [] (by simp)
  have f1 : freeFrom s1.Space 0 = some 13 := by rw [h1.space]; exact space1
  obtain ⟨s2, p2, e2, h2⟩ := lay_one (s := s1) (l := [pt 56 1]) h1.okt (by decide) (by decide) f1 (by rw [h1.waits]; decide) p1 0 [12] (by simp)
  have f2 : freeFrom s2.Space 0 = some 14 := by rw [h2.space, h1.space]; exact space2
  have k1 := (h1.okR (by decide)).1
  have k2 := (h2.okR (by decide)).1
  obtain ⟨s3, p3, e3, h3⟩ := lay_one (s := s2) (l := [p1, p2]) h2.okt (by simp) (fun x hx => by
    simp at hx
    rcases hx with rfl | rfl
    · exact .inr k1
    · exact .inr k2) f2 (by rw [h2.waits, h1.waits]; decide) p2 0 [12, 13] (by simp)
  refine ⟨s3, p3, ?_, by rw [h3.ptr]; rfl⟩
  have r1 : dead_Lay_v2_r1 L16 (newS, noP, [], 0, 1, []) = some (.inl (s1, p1, [12], 0, 1, [p1])) := by
    unfold dead_Lay_v2_r1
    dsimp only
    rw [e1, Option.bind_some]
    dsimp only
    rw [zdec, cond_false, app_eq (lim_le (by simp))]; rfl
  have r2 : dead_Lay_v2_r1 [pt 56 1] (s1, p1, [12], 0, 1, [p1]) = some (.inl (s2, p2, [12, 13], 0, 1, [p1, p2])) := by
    unfold dead_Lay_v2_r1
    dsimp only
    rw [e2, Option.bind_some]
    dsimp only
    rw [zdec, cond_false, app_eq (lim_le (by simp))]; rfl
  have hc : chunks (16 : Int).toNat L17.length L17 = [L16, [pt 56 1]] := by decide +kernel
  unfold dead_Lay_v2
  rw [store_Check_eq newS_ok.sized, if_pos newS_ok, Option.bind_some, zdec, cond_false, check17, Option.bind_some, zdec, cond_false, decide_eq_false (by decide), cond_false, decide_eq_false (by decide), cond_false, decide_eq_false (by decide), cond_false]
  unfold slices_Chunk_Ptr
  rw [if_pos (by decide), Option.bind_some, hc, show Ptr.mk 0 (0 : UInt32) (0 : UInt32) (0 : UInt32) (0 : UInt32) = noP from rfl, forL_cons r1, forL_cons r2, forL_nil, Option.bind_some, Sum.elim_inl]
  dsimp only
  rw [e3, Option.bind_some]
  dsimp only
  rw [zdec, cond_false]
  rfl
theorem lay0 : dead_Lay_v2 newS 1 [] = some (newS, noP, [], 0) := by
  unfold dead_Lay_v2
  rw [store_Check_eq newS_ok.sized, if_pos newS_ok, Option.bind_some, zdec, cond_false, check0, Option.bind_some, zdec, cond_false, decide_eq_false (by decide), cond_false, decide_eq_false (by decide), cond_false, decide_eq_true (by decide), cond_true, store_Twin_ok newS_ok]
  rfl
theorem law_DeadNames : law16_DeadNames_v2 = some true := by
  obtain ⟨t, q, e, hq⟩ := lay17
  unfold law16_DeadNames_v2
  rw [show law16_at 20 1 = some (pt 20 1) from rfl, Option.bind_some, show law16_at 20 2 = some (pt 20 2) from rfl, Option.bind_some, add2, Option.bind_some, Option.bind_some, show law16_at 30 5 = some (pt 30 5) from rfl, Option.bind_some, split2, Option.bind_some, store_New_eq, Option.bind_some, lay0, Option.bind_some, names_loop, Option.bind_some, Option.bind_some, e, Option.bind_some, Dd.alive_eq, check_no]
  rw [Option.bind_some, cond_true]
  simp only [hq]
  rfl
end Go.Ow
