/-
  What is proved here: where there is room a block is laid; where a byte is turned, it is found: the laws, in plain words.
-/
import Derived.Test.YtdelcjkjkhcaoaaOwPstoreK
namespace Go.Ow
set_option linter.unusedVariables false
set_option linter.unusedSimpArgs false

/-! ### The next free block -/
theorem freeFrom_none {s : List UInt8} {i : Nat} (h : freeFrom s i = none) : ∀ k, i ≤ k → s[k]? ≠ some 0 := by
  intro k hk he
  have hlt := (List.getElem?_eq_some_iff.1 he).1
  unfold freeFrom at h
  have := List.find?_eq_none.1 h k (by rw [List.mem_range'_1]; omega)
  rw [List.getD_eq_getElem?_getD, he] at this
  exact this rfl
theorem freeFrom_least {s : List UInt8} : ∀ (d i j : Nat), i + d = j → s[j]? = some 0 → (∀ k, i ≤ k → k < j → s[k]? ≠ some 0) → freeFrom s i = some j
  | 0, i, j, hd, hj, _ => by
    obtain rfl : i = j := by omega
    obtain ⟨hlt, he⟩ := List.getElem?_eq_some_iff.1 hj
    rw [freeFrom_step hlt, if_pos he]
  | d + 1, i, j, hd, hj, h => by
    obtain ⟨hlt, he⟩ := List.getElem?_eq_some_iff.1 hj
    have hi : i < s.length := by omega
    rw [freeFrom_step hi, if_neg (fun e => h i (Nat.le_refl _) (by omega) (by rw [List.getElem?_eq_getElem hi, e]))]
    exact freeFrom_least d (i + 1) j (by omega) hj (fun k h1 h2 => h k (by omega) h2)
theorem freeFrom_first {s : List UInt8} : ∀ (n i j : Nat), s.length - i ≤ n → freeFrom s i = some j → ∀ k, i ≤ k → k < j → s[k]? ≠ some 0
  | 0, i, j, hn, h, k, h1, h2 => by
    rw [freeFrom_end (by omega)] at h; cases h
  | n + 1, i, j, hn, h, k, h1, h2 => by
    by_cases hi : i < s.length
    · rw [freeFrom_step hi] at h
      by_cases c : s[i] = 0
      · rw [if_pos c] at h; cases h; omega
      · rw [if_neg c] at h
        by_cases hk : k = i
        · subst hk; rw [List.getElem?_eq_getElem hi]; exact fun e => c (Option.some.inj e)
        · exact freeFrom_first n (i + 1) j (by omega) h k (by omega) h2
    · rw [freeFrom_end (by omega)] at h; cases h
/-- what is free once the first free block is taken -/
theorem freeFrom_set {s : List UInt8} {j : Nat} (h : freeFrom s 0 = some j) : freeFrom (s.set j 1) 0 = freeFrom s (j + 1) := by
  obtain ⟨-, hlt, hj⟩ := freeFrom_some h
  have hf := freeFrom_first s.length 0 j (by omega) h
  have get : ∀ k, (s.set j 1)[k]? = if k = j then some 1 else s[k]? := fun k => by
    rw [List.getElem?_set]
    by_cases c : k = j
    · subst c; rw [if_pos rfl, if_pos hlt, if_pos rfl]
    · rw [if_neg (fun e => c e.symm), if_neg c]
  cases hx : freeFrom s (j + 1) with
  | none =>
    cases hy : freeFrom (s.set j 1) 0 with
    | none => rfl
    | some m =>
      obtain ⟨-, -, hm⟩ := freeFrom_some hy
      rw [get] at hm
      by_cases c : m = j
      · rw [if_pos c] at hm; cases hm
      · rw [if_neg c] at hm
        by_cases c2 : m < j
        · exact absurd hm (hf m (by omega) c2)
        · exact absurd hm (freeFrom_none hx m (by omega))
  | some m =>
    obtain ⟨h1, h2, h3⟩ := freeFrom_some hx
    have hg := freeFrom_first s.length (j + 1) m (by omega) hx
    refine freeFrom_least m 0 m (by omega) (by rw [get, if_neg (by omega)]; exact h3) (fun k _ hk => ?_)
    rw [get]
    by_cases c : k = j
    · rw [if_pos c]; exact fun e => by cases e
    · rw [if_neg c]
      by_cases c2 : k < j
      · exact hf k (by omega) c2
      · exact hg k (by omega) hk
theorem freesFrom_two {s : List UInt8} {j : Nat} (h : freeFrom s 0 = some j) : (freesFrom s 300 0) = (j : Int) :: freesFrom s 299 (j + 1) := by
  show (match freeFrom s 0 with | some j => (j : Int) :: freesFrom s 299 (j + 1) | none => []) = _
  rw [h]
theorem freesFrom_none {s : List UInt8} (h : freeFrom s 0 = none) : (freesFrom s 300 0) = [] := by
  show (match freeFrom s 0 with | some j => (j : Int) :: freesFrom s 299 (j + 1) | none => []) = _
  rw [h]
theorem birth_dec (b : UInt32) : (decide ((1 : UInt32) ≤ b) = true ∧ decide (b < (16777216 : UInt32)) = true) ↔ birthOk b := by
  rw [decide_eq_true_iff, decide_eq_true_iff]
  unfold birthOk
  rw [UInt32.lt_iff_toNat_lt, UInt32.le_iff_toNat_le (b := 16777215)]
  have e1 : (16777216 : UInt32).toNat = 16777216 := rfl
  have e2 : (16777215 : UInt32).toNat = 16777215 := rfl
  rw [e1, e2]
  constructor
  · rintro ⟨h1, h2⟩; exact ⟨h1, by omega⟩
  · rintro ⟨h1, h2⟩; exact ⟨h1, by omega⟩
theorem and5 (a b c d e : Bool) : (bif a then (bif b then (bif c then (bif d then some e else some false) else some false) else some false) else some false) = some (a && (b && (c && (d && e)))) := by
  cases a <;> cases b <;> cases c <;> cases d <;> rfl
theorem law_StoreRoom (s : Store) (birth : UInt32) (a b : List UInt8) (hs : Sized s.Disk) : law13_StoreRoom s birth a b = some true := by
  unfold law13_StoreRoom
  obtain ⟨g, hg⟩ := great13_tot hs
  rw [alive13, Option.bind_some, hg]
  rw [show (!true) = false from rfl, cond_false, Option.bind_some]
  cases g
  case true => rfl
  rw [cond_false]
  by_cases c1 : 10000 < (a.length : Int)
  · rw [decide_eq_true c1]; rfl
  rw [decide_eq_false c1, cond_false]
  by_cases c2 : 10000 < (b.length : Int)
  · rw [decide_eq_true c2]; rfl
  rw [decide_eq_false c2, cond_false, store_Check_eq hs, Option.bind_some]
  by_cases ok : OKSt s
  case neg => rw [if_neg ok, ndec (by omega)]; rfl
  rw [if_pos ok, zdec, cond_false, space_Free_eq, Option.bind_some, lay_raw]
  unfold freesS
  rw [if_pos ok.2.1]
  dsimp only
  rw [and5]
  rcases raw_cases hs birth 0 0 a with ⟨e, h1, h2, h3⟩ | ⟨t, q, j, h1, h2, h7⟩
  · rw [h1, Option.bind_some, Option.bind_some, zdec, cond_false]
    dsimp only
    have hf : (decide (0 < ((freesFrom s.Space 300 0).length : Int)) && (decide ((s.Disk.Waits.length : Int) < 4096) && (decide ((1 : UInt32) ≤ birth) && (decide (birth < (16777216 : UInt32)) && decide ((a.length : Int) = 256))))) = false := by
      rw [← Bool.not_eq_true]
      intro h
      simp only [Bool.and_eq_true, decide_eq_true_iff] at h
      obtain ⟨k1, k2, k3, k4, k5⟩ := h
      rcases h3 ok ((birth_dec birth).1 ⟨decide_eq_true k3, decide_eq_true k4⟩) (by omega) with h | h
      · rw [freesFrom_none h] at k1; simp at k1
      · omega
    rw [hf, decide_eq_false h2]
    rw [show (!(false == false)) = false from rfl, cond_false, show (!false) = true from rfl, cond_true, none_dec' noP, decide_eq_true noP_none]
    rfl
  · rw [h1, Option.bind_some, Option.bind_some, zdec, cond_false]
    dsimp only
    have hfr := freesFrom_two h7.free
    have hb2 := (birth_dec birth).2 h2
    have hw : s.Disk.Waits.length < 4096 := by have := ok.1.2.1; have := h7.room; omega
    rw [hfr, hb2.1, hb2.2, decide_eq_true (show 0 < (((j : Int) :: freesFrom s.Space 299 (j + 1)).length : Int) by simp), decide_eq_true (show (s.Disk.Waits.length : Int) < 4096 by omega), decide_eq_true (show (a.length : Int) = 256 by have := h7.len; omega)]
    rw [show decide ((0 : Int) = 0) = true from rfl, show (!(true == (true && (true && (true && (true && true)))))) = false from rfl, cond_false, cond_false, lay_raw]
    have qa : q.At = (j : Int) := by rw [h7.ptr]
    have i0 : ∀ {β : Type} (k : Int → Option β), idx ((j : Int) :: freesFrom s.Space 299 (j + 1)) 0 k = k (j : Int) := fun k => by simp [idx]
    rcases raw_cases h7.okt.sized birth 0 0 b with ⟨e, g1, g2, -⟩ | ⟨u, r, k, g1, g2, g7⟩
    · rw [g1, Option.bind_some, ndec g2, cond_true, i0, qa, decide_eq_true (show (j : Int) = (j : Int) from rfl)]; rfl
    · rw [g1, Option.bind_some, zdec, cond_false]
      have hk : freeFrom s.Space (j + 1) = some k := by
        have := g7.free
        rw [show t.Space = s.Space.set j 1 by rw [h7.out], freeFrom_set h7.free] at this; exact this
      have hjk := (freeFrom_some hk).1
      have hl2 : freesFrom s.Space 299 (j + 1) = (k : Int) :: freesFrom s.Space 298 (k + 1) := by
        show (match freeFrom s.Space (j + 1) with | some j => (j : Int) :: freesFrom s.Space 298 (j + 1) | none => []) = _
        rw [hk]
      have i1 : ∀ {β : Type} (f : Int → Option β), idx ((j : Int) :: freesFrom s.Space 299 (j + 1)) 1 f = f (k : Int) := fun f => by rw [hl2]; simp [idx]
      have l1 : lookS u q = (a, 0) := by
        rw [g7.other (x := q) (by rw [h7.look h2]) (by rw [qa]; omega), h7.look h2]
      rw [store_Look_eq g7.okt.sized, Option.bind_some, store_Look_eq g7.okt.sized, Option.bind_some, l1, g7.look g2, cond_true, i0, qa, decide_eq_true (show (j : Int) = (j : Int) from rfl), cond_true, i1]
      rw [show r.At = (k : Int) by rw [g7.ptr], decide_eq_true (show (k : Int) = (k : Int) from rfl), cond_true, show decide ((0 : Int) = 0) = true from rfl, cond_true, cond_true, decide_eq_true (show a = a from rfl), cond_true, decide_eq_true (show b = b from rfl), cond_true]
      rw [show q.Sum = sumOf a by rw [h7.ptr], show r.Sum = sumOf b by rw [g7.ptr]]
      by_cases c : sumOf a = sumOf b
      · rw [decide_eq_true c]; rfl
      · rw [decide_eq_false c, decide_eq_false (fun e : a = b => c (by rw [e]))]; rfl

/-! ### A byte that is turned -/
def turned (B : List (List UInt8)) (j i : Nat) (by' : UInt8) : List (List UInt8) := B.set j ((B.getD j []).set i (((B.getD j []).getD i 0) ^^^ by'))
end Go.Ow
