/-
  What is proved here: what was laid is seen, what was sealed is opened, no other block changes; what was given up is looked at as before: the laws, in plain words.
-/
import Derived.Test.YtdelcjkjkhcaoabOwPstoreL
import Derived.Test.YtdelcjkjkhcaoabOwPstoreb
namespace Go.Ow
set_option linter.unusedVariables false
set_option linter.unusedSimpArgs false

theorem nbeq {α : Type} [DecidableEq α] {a b : α} (h : a = b) : (!decide (a = b)) = false := by rw [decide_eq_true h]; rfl
theorem nbne {α : Type} [DecidableEq α] {a b : α} (h : ¬ a = b) : (!decide (a = b)) = true := by rw [decide_eq_false h]; rfl
theorem idx_get {α β : Type} {l : List α} {i : Nat} {y : α} (k : α → Option β) (h : l[i]? = some y) : idx l (i : Int) k = k y := idx_eq ⟨Int.natCast_nonneg i, by simpa using h⟩
def lookD (d : Disk) (p : Ptr) : List UInt8 × Int :=
  if isNone p ∨ okR p then (if isNone p then ([], 6) else (if sumOf ((seenB d).getD p.At.toNat []) = p.Sum then ((seenB d).getD p.At.toNat [], 0) else ([], 130))) else ([], 8)
theorem lookS_D {s : Store} (h : OKSt s) (x : Ptr) : lookS s x = lookD s.Disk x := by
  unfold lookS lookD
  by_cases c : isNone x ∨ okR x
  · rw [if_pos (show OKSt s ∧ (isNone x ∨ okR x) from ⟨h, c⟩), if_pos c]
  · rw [if_neg (fun e : OKSt s ∧ (isNone x ∨ okR x) => c e.2), if_neg c]
theorem look_disk {s t : Store} (h : OKSt s) (ht : OKSt t) (hd : t.Disk = s.Disk) (x : Ptr) : lookS t x = lookS s x := by
  rw [lookS_D h, lookS_D ht, hd]
/-! ### A block is given up -/
def giveS (s : Store) (p : Ptr) : Store × Int :=
  if OKSt s ∧ (isNone p ∨ okR p) then (if isNone p then (noS, 6) else (if s.Space[p.At.toNat]? = some 1 then (⟨s.Disk, s.Space.set p.At.toNat 2, s.Epoch, s.Count⟩, 0) else (noS, 6))) else (noS, 8)
theorem space_Give_eq {s : List UInt8} (h : okS s) {i : Nat} (h1 : 12 ≤ i) (h2 : i < 256) : space_Give s (i : Int) = some (if s[i]? = some 1 then (s.set i 2, 0) else ([], 6)) := by
  unfold space_Give
  have hl := h.1
  have e : s[i]? = some (s[i]'(by omega)) := List.getElem?_eq_getElem (by omega)
  rw [space_Check_eq, if_pos h, Option.bind_some, zdec, cond_false, decide_eq_false (by omega), cond_false, decide_eq_false (by omega), cond_false, idx_get _ e, e]
  by_cases c : s[i]'(by omega) = 1
  · rw [nbeq c, cond_false, if_pos (by rw [c]), bClone (by omega), Option.bind_some, chk_eq ⟨by omega, by simp only [Int.toNat_natCast]; omega⟩, setI_eq (by omega) (by simp only [Int.toNat_natCast]; omega), Int.toNat_natCast]
  · rw [nbne c, cond_true, if_neg (fun e => c (Option.some.inj e))]
theorem store_Give_eq {s : Store} (h : Sized s.Disk) (p : Ptr) : store_Give s p = some (giveS s p) := by
  unfold store_Give giveS
  rw [store_Check_eq h, Option.bind_some]
  by_cases c1 : OKSt s
  · rw [if_pos c1, zdec, cond_false, ptr_Check_eq', Option.bind_some]
    by_cases c2 : isNone p ∨ okR p
    · rw [if_pos c2, zdec, cond_false, none_dec', if_pos ⟨c1, c2⟩]
      by_cases c3 : isNone p
      · rw [if_pos c3, decide_eq_true c3]; rfl
      · rw [if_neg c3, decide_eq_false c3, cond_false]
        have hr := c2.resolve_left c3
        obtain ⟨i, hi⟩ := Int.eq_ofNat_of_zero_le (show 0 ≤ p.At by have := hr.1; omega)
        rw [hi, Int.toNat_natCast, space_Give_eq c1.2.1 (by have := hr.1; omega) (by have := hr.2.1; omega), Option.bind_some]
        by_cases c4 : s.Space[i]? = some 1
        · rw [if_pos c4, if_pos c4, zdec, cond_false, show (Disk.mk s.Disk.Blocks s.Disk.Waits) = s.Disk from rfl, dev_Twin_eq c1.1.mid]; rfl
        · rw [if_neg c4, if_neg c4, ndec (by omega)]; rfl
    · rw [if_neg c2, ndec (by omega), if_neg (fun h => c2 h.2)]; rfl
  · rw [if_neg c1, ndec (by omega), if_neg (fun h => c1 h.1)]; rfl
theorem give_cases (s : Store) (p : Ptr) : ((giveS s p).2 ≠ 0 ∧ (giveS s p).1 = noS) ∨ (OKSt s ∧ ¬ isNone p ∧ okR p ∧ s.Space[p.At.toNat]? = some 1 ∧ giveS s p = (⟨s.Disk, s.Space.set p.At.toNat 2, s.Epoch, s.Count⟩, 0) ∧ OKSt (giveS s p).1) := by
  unfold giveS
  by_cases c1 : OKSt s ∧ (isNone p ∨ okR p)
  · rw [if_pos c1]
    by_cases c2 : isNone p
    · rw [if_pos c2]; exact .inl ⟨by show (6 : Int) ≠ 0; omega, rfl⟩
    · rw [if_neg c2]
      have hr := c1.2.resolve_left c2
      by_cases c3 : s.Space[p.At.toNat]? = some 1
      · rw [if_pos c3]; exact .inr ⟨c1.1, c2, hr, c3, rfl, c1.1.1, okS_set c1.1.2.1 (by have := hr.1; omega) (by decide), c1.1.2.2⟩
      · rw [if_neg c3]; exact .inl ⟨by show (6 : Int) ≠ 0; omega, rfl⟩
  · rw [if_neg c1]; exact .inl ⟨by show (8 : Int) ≠ 0; omega, rfl⟩
/-! ### What was given up -/
theorem cmpB_refl : ∀ l : List UInt8, cmpB l l = 0
  | [] => rfl
  | a :: l => by
    unfold cmpB
    rw [if_neg (UInt8.lt_irrefl a), if_neg (UInt8.lt_irrefl a), cmpB_refl l]
theorem same1 (l : List UInt8) : dev_Same_1 l l = some 0 := by unfold dev_Same_1 bytes_Compare; rw [Option.bind_some, cmpB_refl]
theorem same2 (w : Write) : dev_Same_2 w w = some true := by
  unfold dev_Same_2
  rw [decide_eq_true (show w.At = w.At from rfl), cond_true, same1]; rfl
theorem equalW (l : List Write) (h : l.length ≤ 100000) : slices_EqualFunc_Write l l = some true := by
  unfold slices_EqualFunc_Write
  rw [nbeq rfl, cond_false]
  have key : ∀ (k i n : Nat), i + k = l.length → k < n → run (slices_EqualFunc_Write_l1 l l) n i = some (.inl ()) := by
    intro k
    induction k with
    | zero =>
      intro i n hi hn
      obtain ⟨n, rfl⟩ : ∃ m, n = m + 1 := ⟨n - 1, by omega⟩
      refine run_en ?_
      unfold slices_EqualFunc_Write_l1
      rw [cI, if_neg (by omega)]
    | succ k ih =>
      intro i n hi hn
      obtain ⟨n, rfl⟩ : ∃ m, n = m + 1 := ⟨n - 1, by omega⟩
      rw [run_go (s' := i + 1) ?_]
      · exact ih (i + 1) n (by omega) (by omega)
      · unfold slices_EqualFunc_Write_l1
        rw [cI, if_pos (by omega), idx_nat _ (show i < l.length by omega), idx_nat _ (show i < l.length by omega), same2]; rfl
  rw [show loop (slices_EqualFunc_Write_l1 l l) 0 = some (.inl ()) from key l.length 0 FUEL (by omega) (Nat.lt_of_le_of_lt h (by decide))]; rfl
theorem compareB (l : List (List UInt8)) (h : l.length ≤ 100000) : slices_CompareFunc_byte l l = some 0 := by
  unfold slices_CompareFunc_byte
  have key : ∀ (k i n : Nat), i + k = l.length → k < n → run (slices_CompareFunc_byte_l1 l l) n i = some (.inl ()) := by
    intro k
    induction k with
    | zero =>
      intro i n hi hn
      obtain ⟨n, rfl⟩ : ∃ m, n = m + 1 := ⟨n - 1, by omega⟩
      refine run_en ?_
      unfold slices_CompareFunc_byte_l1
      rw [cI, if_neg (by omega)]
    | succ k ih =>
      intro i n hi hn
      obtain ⟨n, rfl⟩ : ∃ m, n = m + 1 := ⟨n - 1, by omega⟩
      rw [run_go (s' := i + 1) ?_]
      · exact ih (i + 1) n (by omega) (by omega)
      · unfold slices_CompareFunc_byte_l1
        rw [cI, if_pos (by omega), idx_nat _ (show i < l.length by omega), decide_eq_false (by omega), cond_false, idx_nat _ (show i < l.length by omega), same1, Option.bind_some, zdec]; rfl
  rw [show loop (slices_CompareFunc_byte_l1 l l) 0 = some (.inl ()) from key l.length 0 FUEL (by omega) (Nat.lt_of_le_of_lt h (by decide)), Option.bind_some]
  show (bif decide ((l.length : Int) < (l.length : Int)) then some (-1) else some 0) = _
  rw [decide_eq_false (by omega)]; rfl
theorem dev_Same_refl {d : Disk} (h : OKD d) : dev_Same d d = some true := by
  unfold dev_Same
  rw [equalW _ (by have := h.2.1; omega), Option.bind_some, cond_true, compareB _ (by rw [h.1]; omega)]; rfl
theorem law_StoreGives (s : Store) (p : Ptr) (hs : Sized s.Disk) (hp : InI64 p.At) : law13_StoreGives s p = some true := by
  unfold law13_StoreGives
  obtain ⟨g, hg⟩ := great13_tot hs
  rw [alive13, Option.bind_some, hg]
  rw [show (!true) = false from rfl, cond_false, Option.bind_some]
  cases g
  case true => rfl
  rw [cond_false, store_Look_eq hs, Option.bind_some, store_Give_eq hs, Option.bind_some]
  rcases give_cases s p with ⟨h1, h2⟩ | ⟨ok, k2, k3, k4, k5, k6⟩
  · rw [ndec h1, h2]; rfl
  rw [k5] at k6 ⊢
  dsimp only at k6 ⊢
  rw [zdec, cond_false, store_Look_eq k6.sized, Option.bind_some, store_Give_eq k6.sized, Option.bind_some, look_disk ok k6 rfl, nbeq rfl, cond_false, nbeq rfl, cond_false]
  obtain ⟨i, hi⟩ := Int.eq_ofNat_of_zero_le (show 0 ≤ p.At by have := k3.1; omega)
  rw [hi, Int.toNat_natCast] at k4 k5 k6 ⊢
  have hlt : i < s.Space.length := (List.getElem?_eq_some_iff.1 k4).1
  have hsl := ok.2.1.1
  have hset : (s.Space.set i 2)[i]? = some 2 := by rw [List.getElem?_set, if_pos rfl, if_pos hlt]
  have hg2 : giveS (⟨s.Disk, s.Space.set i 2, s.Epoch, s.Count⟩ : Store) p = (noS, 6) := by
    unfold giveS
    rw [if_pos ⟨k6, .inr k3⟩, if_neg k2, if_neg]
    rw [hi, Int.toNat_natCast]
    show (s.Space.set i 2)[i]? ≠ some 1
    rw [hset]; exact fun e => by cases e
  rw [hg2, nbeq rfl, cond_false]
  rw [show (Disk.mk s.Disk.Blocks s.Disk.Waits) = s.Disk from rfl, dev_Same_refl ok.1, Option.bind_some, show (!true) = false from rfl, cond_false, nbeq rfl, cond_false, nbeq rfl, cond_false, nbeq (show ((s.Space.set i 2).length : Int) = 256 by rw [List.length_set]; omega), cond_false]
  have key : ∀ (k m n : Nat), m + k = 256 → k < n → run (law13_StoreGives_l1 s p ((⟨s.Disk, s.Space.set i 2, s.Epoch, s.Count⟩ : Store), 0)) n m = some (.inl ()) := by
    intro k
    induction k with
    | zero =>
      intro m n hm hn
      obtain ⟨n, rfl⟩ : ∃ m, n = m + 1 := ⟨n - 1, by omega⟩
      refine run_en ?_
      unfold law13_StoreGives_l1
      rw [decide_eq_false (by omega)]; rfl
    | succ k ih =>
      intro m n hm hn
      obtain ⟨n, rfl⟩ : ∃ m, n = m + 1 := ⟨n - 1, by omega⟩
      rw [run_go (s' := m + 1) ?_]
      · exact ih (m + 1) n (by omega) (by omega)
      · unfold law13_StoreGives_l1
        dsimp only
        have hms : m < s.Space.length := by omega
        rw [decide_eq_true (by omega), cond_true, idx_nat _ (show m < (s.Space.set i 2).length by rw [List.length_set]; exact hms), idx_nat _ hms, hi]
        by_cases c : m = i
        · subst c
          have e1 : s.Space[m] = 1 := by rw [List.getElem?_eq_getElem hlt] at k4; exact Option.some.inj k4
          rw [List.getElem_set_self, e1, decide_eq_true (show (m : Int) = (m : Int) from rfl)]; rfl
        · rw [List.getElem_set_ne (fun e => c e.symm), nbeq rfl, decide_eq_false (show ¬ (m : Int) = (i : Int) by omega)]; rfl
  rw [show loop (law13_StoreGives_l1 s p ((⟨s.Disk, s.Space.set i 2, s.Epoch, s.Count⟩ : Store), 0)) 0 = some (.inl ()) from key 256 0 FUEL (by omega) (by decide), Option.bind_some]
  show Option.bind (bif true then idx (s.Space.set i 2) (i : Int) fun y_65 => some (decide (y_65 = (2 : UInt8))) else some false) _ = _
  rw [cond_true, idx_get _ hset]; rfl
end Go.Ow
