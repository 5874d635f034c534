/-
  What is proved here: what was laid is seen, what was sealed is opened, no other block changes; what was given up is looked at as before: the laws, in plain words.
-/
import Derived.Test.YtdelcjkjkhcaoabOwPstoreL
import Derived.Test.YtdelcjkjkhcaoabOwPstoreb
namespace Go.Ow
set_option linter.unusedVariables false
set_option linter.unusedSimpArgs false

theorem nbeq {α : Type} [DecidableEq α] {a b : α} (h : a = b) : (!decide (a = b)) = false := by rw [decide_eq_true h]; rfl
theorem nbne {α : Type} [DecidableEq α] {a b : α} (h : ¬ a = b) : (!decide (a = b)) = true := by rw [decide_eq_false h]; rfl
theorem idx_get {α β : Type} {l : List α} {i : Nat} {y : α} (k : α → Option β) (h : l[i]? = some y) : idx l (i : Int) k = k y := idx_eq ⟨Int.natCast_nonneg i, by simpa using h⟩
def lookD (d : Disk) (p : Ptr) : List UInt8 × Int :=
  if isNone p ∨ okR p then (if isNone p then ([], 6) else (if sumOf ((seenB d).getD p.At.toNat []) = p.Sum then ((seenB d).getD p.At.toNat [], 0) else ([], 130))) else ([], 8)
theorem lookS_D {s : Store} (h : OKSt s) (x : Ptr) : lookS s x = lookD s.Disk x := by
  unfold lookS lookD
  by_cases c : isNone x ∨ okR x
  · rw [if_pos (show OKSt s ∧ (isNone x ∨ okR x) from ⟨h, c⟩), if_pos c]
  · rw [if_neg (fun e : OKSt s ∧ (isNone x ∨ okR x) => c e.2), if_neg c]
theorem look_disk {s t : Store} (h : OKSt s) (ht : OKSt t) (hd : t.Disk = s.Disk) (x : Ptr) : lookS t x = lookS s x := by
  rw [lookS_D h, lookS_D ht, hd]
theorem look_more {s : Store} (h : OKSt s) (hm : OKSt (more s)) (x : Ptr) : lookS (more s) x = lookS s x := look_disk h hm rfl x
theorem one_eq {s t : Store} {q : Ptr} {j : Nat} {b : List UInt8} (h : OKSt s) (hf : freeFrom s.Space 0 = some j) (hq : q.At = (j : Int)) (ts : t.Space = s.Space.set j 1) (te : t.Epoch = s.Epoch) (okt : OKD t.Disk) (hseen : seenB t.Disk = (seenB s.Disk).set j b) :
    law13_one s t q = some true := by
  unfold law13_one
  have hp := free_high h.2.1 (freeFrom_some hf).2.2
  have hsl := h.2.1.1
  have htl : t.Space.length = 256 := by rw [ts, List.length_set]; exact hsl
  rw [space_Free_eq, Option.bind_some]
  unfold freesS
  rw [if_pos h.2.1, freesFrom_two hf]
  dsimp only
  rw [zdec, cond_false, decide_eq_false (by rw [List.length_cons]; omega), cond_false]
  rw [show (idx ((j : Int) :: freesFrom s.Space 299 (j + 1)) 0 : (Int → Option Bool) → Option Bool) = fun k => k (j : Int) from funext fun k => by simp [idx]]
  dsimp only
  have htj : t.Space[j]? = some 1 := by rw [ts, List.getElem?_set, if_pos rfl, if_pos (by omega)]
  rw [hq, nbeq rfl, cond_false, nbeq (by omega), cond_false, idx_get _ htj, nbeq rfl, cond_false, nbeq te, cond_false]
  have key : ∀ (k i n : Nat), i + k = 256 → k < n → run (law13_one_l1 s t q) n i = some (.inl ()) := by
    intro k
    induction k with
    | zero =>
      intro i n hi hn
      obtain ⟨n, rfl⟩ : ∃ m, n = m + 1 := ⟨n - 1, by omega⟩
      refine run_en ?_
      unfold law13_one_l1
      rw [decide_eq_false (by omega)]; rfl
    | succ k ih =>
      intro i n hi hn
      obtain ⟨n, rfl⟩ : ∃ m, n = m + 1 := ⟨n - 1, by omega⟩
      rw [run_go (s' := i + 1) ?_]
      · exact ih (i + 1) n (by omega) (by omega)
      · unfold law13_one_l1
        rw [decide_eq_true (by omega), cond_true, hq]
        by_cases c : i = j
        · rw [decide_eq_true (by omega)]; rfl
        · have hi2 : i < 256 := by omega
          have e1 : (seenB t.Disk)[i]'(by rw [seenB_length okt]; exact hi2) = (seenB s.Disk)[i]'(by rw [seenB_length h.1]; exact hi2) := by
            simp only [hseen, List.getElem_set, if_neg (fun e : j = i => c e.symm)]
          have e2 : t.Space[i]? = s.Space[i]? := by rw [ts, List.getElem?_set, if_neg (fun e : j = i => c e.symm)]
          have e3 : s.Space[i]? = some (s.Space[i]'(by omega)) := List.getElem?_eq_getElem (by omega)
          rw [decide_eq_false (by omega), cond_false]
          rw [show (Disk.mk s.Disk.Blocks s.Disk.Waits) = s.Disk from rfl, show (Disk.mk t.Disk.Blocks t.Disk.Waits) = t.Disk from rfl, dev_Read_eq h.1 hi2, Option.bind_some, dev_Read_eq okt hi2, Option.bind_some]
          dsimp only
          rw [zdec, cond_false, cond_false, nbeq e1.symm, cond_false, idx_get _ e3, idx_get _ (e2.trans e3), nbeq rfl]; rfl
  have := key 256 0 FUEL (by omega) (by decide)
  rw [show loop (law13_one_l1 s t q) 0 = some (.inl ()) from this]; rfl

/-! ### A block is given up -/
def giveS (s : Store) (p : Ptr) : Store × Int :=
  if OKSt s ∧ (isNone p ∨ okR p) then (if isNone p then (noS, 6) else (if s.Space[p.At.toNat]? = some 1 then (⟨s.Disk, s.Space.set p.At.toNat 2, s.Epoch, s.Count⟩, 0) else (noS, 6))) else (noS, 8)
theorem space_Give_eq {s : List UInt8} (h : okS s) {i : Nat} (h1 : 12 ≤ i) (h2 : i < 256) : space_Give s (i : Int) = some (if s[i]? = some 1 then (s.set i 2, 0) else ([], 6)) := by
  unfold space_Give
  have hl := h.1
  have e : s[i]? = some (s[i]'(by omega)) := List.getElem?_eq_getElem (by omega)
  rw [space_Check_eq, if_pos h, Option.bind_some, zdec, cond_false, decide_eq_false (by omega), cond_false, decide_eq_false (by omega), cond_false, idx_get _ e, e]
  by_cases c : s[i]'(by omega) = 1
  · rw [nbeq c, cond_false, if_pos (by rw [c]), bClone (by omega), Option.bind_some, chk_eq ⟨by omega, by simp only [Int.toNat_natCast]; omega⟩, setI_eq (by omega) (by simp only [Int.toNat_natCast]; omega), Int.toNat_natCast]
  · rw [nbne c, cond_true, if_neg (fun e => c (Option.some.inj e))]
theorem store_Give_eq {s : Store} (h : Sized s.Disk) (p : Ptr) : store_Give s p = some (giveS s p) := by
  unfold store_Give giveS
  rw [store_Check_eq h, Option.bind_some]
  by_cases c1 : OKSt s
  · rw [if_pos c1, zdec, cond_false, ptr_Check_eq', Option.bind_some]
    by_cases c2 : isNone p ∨ okR p
    · rw [if_pos c2, zdec, cond_false, none_dec', if_pos ⟨c1, c2⟩]
      by_cases c3 : isNone p
      · rw [if_pos c3, decide_eq_true c3]; rfl
      · rw [if_neg c3, decide_eq_false c3, cond_false]
        have hr := c2.resolve_left c3
        obtain ⟨i, hi⟩ := Int.eq_ofNat_of_zero_le (show 0 ≤ p.At by have := hr.1; omega)
        rw [hi, Int.toNat_natCast, space_Give_eq c1.2.1 (by have := hr.1; omega) (by have := hr.2.1; omega), Option.bind_some]
        by_cases c4 : s.Space[i]? = some 1
        · rw [if_pos c4, if_pos c4, zdec, cond_false, show (Disk.mk s.Disk.Blocks s.Disk.Waits) = s.Disk from rfl, dev_Twin_eq c1.1.mid]; rfl
        · rw [if_neg c4, if_neg c4, ndec (by omega)]; rfl
    · rw [if_neg c2, ndec (by omega), if_neg (fun h => c2 h.2)]; rfl
  · rw [if_neg c1, ndec (by omega), if_neg (fun h => c1 h.1)]; rfl
theorem seal_part {s : Store} (ok : OKSt s) (birth : UInt32) (key b : List UInt8) (p : Ptr) : ∃ t q e, store_Seal s birth key b = some (t, q, e) ∧
    (bif decide (e = 0) then Option.bind (store_Open t q key) fun x_46 => bif !decide (x_46.2 = 0) then some (.inr ()) else bif !decide (x_46.1 = b) then some (.inr ()) else bif !decide (q.Birth = birth) then some (.inr ()) else bif !decide (t.Count = (s.Count + (1 : UInt32))) then some (.inr ()) else Option.bind (law13_one s t q) fun x_59 => bif !x_59 then some (.inr ()) else Option.bind (store_Look t p) fun x_64 => bif decide ((lookS s p).2 = 0) then idx s.Space p.At fun y_69 => bif !decide (y_69 = (0 : UInt8)) then bif !decide (x_64.2 = 0) then some (.inr ()) else bif !decide (x_64.1 = (lookS s p).1) then some (.inr ()) else some (.inl ()) else some (.inl ()) else some (.inl ()) else some (.inl ())) = some (.inl () : Unit ⊕ Unit) := by
  rcases seal_cases ok.sized birth key b with ⟨e, h1, h2, -⟩ | ⟨t, q, j, h1, h2, h3, h4, h5, h6, h7⟩
  · exact ⟨_, _, _, h1, by rw [decide_eq_false h2]; rfl⟩
  · refine ⟨_, _, _, h1, ?_⟩
    rw [show decide ((0 : Int) = 0) = true from rfl, cond_true, store_Open_eq h7.okt.sized, Option.bind_some, sealed_open h7 h4 h5, zdec, cond_false]
    dsimp only
    rw [nbeq rfl, cond_false, nbeq (show q.Birth = birth by rw [h7.ptr]), cond_false, nbeq (show t.Count = s.Count + 1 by rw [h7.out]; rfl), cond_false]
    rw [one_eq (b := turnB key (ivOf s) b) ok h7.free (by rw [h7.ptr]) (by rw [h7.out]; rfl) (by rw [h7.out]; rfl) h7.okt.1 h7.seen, Option.bind_some, show (!true) = false from rfl, cond_false, store_Look_eq h7.okt.sized, Option.bind_some]
    by_cases c : (lookS s p).2 = 0
    · obtain ⟨k1, k2, k3, k4, k5⟩ := lookS_ok c
      obtain ⟨i, hi⟩ := Int.eq_ofNat_of_zero_le (show 0 ≤ p.At by have := k3.1; omega)
      have hi2 : i < s.Space.length := by rw [ok.2.1.1]; have := k3.2.1; omega
      rw [decide_eq_true c, cond_true, hi, idx_nat _ hi2]
      by_cases c2 : s.Space[i] = 0
      · rw [nbeq c2]; rfl
      · have hne : i ≠ j := fun e => by
          have := (freeFrom_some h7.free).2.2
          rw [show (more s).Space = s.Space from rfl, ← e, List.getElem?_eq_getElem hi2] at this
          exact c2 (Option.some.inj this)
        rw [nbne c2, cond_true]
        have hl : lookS t p = lookS s p := by
          rw [← look_more ok h7.ok, h7.other (by rw [look_more ok h7.ok]; exact c) (by rw [hi]; simpa using hne)]
        rw [hl, nbeq c, cond_false, nbeq rfl]; rfl
    · rw [decide_eq_false c]; rfl
theorem law_StoreBack (s : Store) (birth : UInt32) (key b : List UInt8) (p : Ptr) (hs : Sized s.Disk) (hp : InI64 p.At) : law13_StoreBack s birth key b p = some true := by
  unfold law13_StoreBack
  obtain ⟨g, hg⟩ := great13_tot hs
  rw [alive13, Option.bind_some, hg]
  rw [show (!true) = false from rfl, cond_false, Option.bind_some]
  cases g
  case true => rfl
  rw [cond_false]
  by_cases c1 : 10000 < (key.length : Int)
  · rw [decide_eq_true c1]; rfl
  rw [decide_eq_false c1, cond_false]
  by_cases c2 : 10000 < (b.length : Int)
  · rw [decide_eq_true c2]; rfl
  rw [decide_eq_false c2, cond_false, store_Check_eq hs, Option.bind_some]
  by_cases ok : OKSt s
  case neg => rw [if_neg ok, ndec (by omega)]; rfl
  rw [if_pos ok, zdec, cond_false, store_Look_eq hs, Option.bind_some]
  obtain ⟨t, q, e, h1, h2⟩ := seal_part ok birth key b p
  rw [h1, Option.bind_some]
  dsimp only
  rw [h2, Option.bind_some]
  show Option.bind (store_Raw s birth q.Iv q.Tag b) _ = _
  rcases raw_cases hs birth q.Iv q.Tag b with ⟨e, g1, g2, -⟩ | ⟨u, r, k, g1, g2, g7⟩
  · rw [g1, Option.bind_some, ndec g2]; rfl
  · rw [g1, Option.bind_some, zdec, cond_false, store_Look_eq g7.okt.sized, Option.bind_some, g7.look g2, zdec, cond_false]
    dsimp only
    rw [nbeq rfl, cond_false, nbeq (show r.Iv = q.Iv by rw [g7.ptr]), cond_false, nbeq (show r.Tag = q.Tag by rw [g7.ptr]), cond_false, nbeq (show u.Count = s.Count by rw [g7.out]), cond_false]
    rw [one_eq (b := b) ok g7.free (by rw [g7.ptr]) (by rw [g7.out]) (by rw [g7.out]) g7.okt.1 g7.seen, Option.bind_some, show (!true) = false from rfl, cond_false, store_Give_eq g7.okt.sized, Option.bind_some]
    have hk := g7.place
    obtain ⟨o1, o2⟩ := g7.okR g2
    have ra : r.At = (k : Int) := by rw [g7.ptr]
    have hus : u.Space[r.At.toNat]? = some 1 := by
      rw [ra, Int.toNat_natCast, g7.out]
      show (s.Space.set k 1)[k]? = some 1
      rw [List.getElem?_set, if_pos rfl, if_pos (by rw [ok.2.1.1]; exact hk.2)]
    have hgive : giveS u r = (⟨u.Disk, u.Space.set r.At.toNat 2, u.Epoch, u.Count⟩, 0) := by
      unfold giveS; rw [if_pos ⟨g7.okt, .inr o1⟩, if_neg o2, if_pos hus]
    have okv : OKSt (⟨u.Disk, u.Space.set r.At.toNat 2, u.Epoch, u.Count⟩ : Store) := ⟨g7.okt.1, okS_set g7.okt.2.1 (by rw [ra]; simpa using hk.1) (by decide), g7.okt.2.2⟩
    rw [hgive]
    dsimp only
    rw [store_Look_eq okv.sized, Option.bind_some, look_disk g7.okt okv rfl, g7.look g2, cond_true]
    dsimp only
    have hv : (u.Space.set r.At.toNat 2)[k]? = some 2 := by
      rw [ra, Int.toNat_natCast, List.getElem?_set, if_pos rfl, if_pos (by rw [g7.okt.2.1.1]; exact hk.2)]
    rw [show decide ((0 : Int) = 0) = true from rfl, cond_true, cond_true, decide_eq_true (show b = b from rfl), cond_true, show idx (u.Space.set r.At.toNat 2) r.At = idx (u.Space.set r.At.toNat 2) (k : Int) by rw [ra], idx_get _ hv]
    rfl

/-! ### What was given up -/
end Go.Ow
