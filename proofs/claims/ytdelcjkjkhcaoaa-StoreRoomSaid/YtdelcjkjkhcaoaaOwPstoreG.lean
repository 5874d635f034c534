/-
  What is proved here: tables of blocks (space), in plain words.
-/
import Derived.Test.YtdelcjkjkhcaoaaOwPstoreF
namespace Go.Ow
set_option linter.unusedVariables false
set_option linter.unusedSimpArgs false

def okS (s : List UInt8) : Prop := s.length = 256 ∧ (∀ b ∈ s, b ≤ 2) ∧ ∀ b ∈ s.take 12, b = 1
instance (s : List UInt8) : Decidable (okS s) := by unfold okS; infer_instance

theorem maxB_le {a b c : UInt8} : maxB a b ≤ c ↔ a ≤ c ∧ b ≤ c := by
  unfold maxB
  simp only [UInt8.le_iff_toNat_le, UInt8.lt_iff_toNat_lt]
  split <;> omega
theorem max_loop (s : List UInt8) (h : s.length ≤ 1000) (a : UInt8) : loop (slices_Max_byte_l1 s) (a, 1) = some ((s.drop 1).foldl maxB a) := by
  have := loop_each' (s.drop 1) (fun i r => (r, i + 1)) (body := slices_Max_byte_l1 s) (τ := UInt8) (fun y r => some (.inl (maxB r y))) (fun r => r)
    (fun i hi r => by
      have hi' : i + 1 < s.length := by rw [List.length_drop] at hi; omega
      unfold slices_Max_byte_l1
      rw [cI, if_pos hi', idx_nat _ hi']
      simp only [List.getElem_drop, Nat.add_comm 1 i]
      rfl)
    (fun r => by
      unfold slices_Max_byte_l1
      rw [cI, if_neg (by rw [List.length_drop]; omega)])
    (Nat.lt_of_le_of_lt (by rw [List.length_drop]; omega) (show 1000 < FUEL by decide)) a
  rw [this, forL_map]; rfl
theorem foldl_max (l : List UInt8) (a c : UInt8) : l.foldl maxB a ≤ c ↔ a ≤ c ∧ ∀ b ∈ l, b ≤ c := by
  induction l generalizing a with
  | nil => simp
  | cons b l ih => rw [List.foldl_cons, ih, maxB_le]; simp [and_assoc]
theorem max_eq {s : List UInt8} (h : s.length ≤ 1000) (h0 : 0 < s.length) : ∃ m, slices_Max_byte s = some m ∧ ∀ c, m ≤ c ↔ ∀ b ∈ s, b ≤ c := by
  refine ⟨(s.drop 1).foldl maxB s[0], ?_, fun c => ?_⟩
  · unfold slices_Max_byte
    rw [decide_eq_false (by omega), cond_false, show (0 : Int) = ((0 : Nat) : Int) from rfl, idx_nat _ h0, max_loop s h, Option.bind_some]
  · rw [foldl_max]
    cases s with
    | nil => simp at h0
    | cons a l => simp
theorem cnt_all (l : List UInt8) (k : Nat) : l.foldl (fun n x => if x == (1 : UInt8) then n + 1 else n) k ≤ k + l.length ∧ (l.foldl (fun n x => if x == (1 : UInt8) then n + 1 else n) k = k + l.length ↔ ∀ b ∈ l, b = 1) := by
  induction l generalizing k with
  | nil => simp
  | cons b l ih =>
    rw [List.foldl_cons]
    by_cases c : b = 1
    · subst c
      have := ih (k + 1)
      simp only [beq_self_eq_true, if_true, List.length_cons, List.forall_mem_cons, true_and]
      exact ⟨by omega, by rw [← this.2]; omega⟩
    · have := ih k
      rw [if_neg (by simpa using c)]
      simp only [List.length_cons, List.forall_mem_cons]
      exact ⟨by omega, ⟨fun e => by omega, fun e => absurd e.1 c⟩⟩
theorem space_Check_eq (s : List UInt8) : space_Check s = some (if okS s then 0 else 8) := by
  unfold space_Check
  by_cases hl : s.length = 256
  · rw [show (!decide ((s.length : Int) = 256)) = false by rw [decide_eq_true (by omega)]; rfl, cond_false]
    obtain ⟨m, hm, hmc⟩ := max_eq (s := s) (by omega) (by omega)
    rw [hm, Option.bind_some]
    by_cases hb : ∀ b ∈ s, b ≤ 2
    · have := (hmc 2).2 hb
      rw [decide_eq_false (by rw [UInt8.lt_iff_toNat_lt]; rw [UInt8.le_iff_toNat_le] at this; omega), cond_false, slc_eq (by omega) (by omega) (by omega)]
      have hc : cut s 0 12 = s.take 12 := by simp [cut]
      rw [hc]
      unfold bytes_Count
      rw [decide_eq_false (by simp), cond_false, decide_eq_true (by simp), cond_true, show (0 : Int) = ((0 : Nat) : Int) from rfl, idx_nat _ (by simp), Option.bind_some]
      have hk := cnt_all (s.take 12) 0
      have hlt : (s.take 12).length = 12 := by rw [List.length_take]; omega
      rw [hlt] at hk
      obtain ⟨q, hq⟩ : ∃ q, q = cntB (s.take 12) ([(1 : UInt8)][0]) := ⟨_, rfl⟩
      rw [← hq]
      have hq' : q = (s.take 12).foldl (fun n x => if x == (1 : UInt8) then n + 1 else n) 0 := hq
      by_cases h1 : ∀ b ∈ s.take 12, b = 1
      · have e := hk.2.2 h1
        rw [if_pos ⟨hl, hb, h1⟩, decide_eq_true (by omega)]; rfl
      · have e : ¬ q = 12 := fun e => h1 (hk.2.1 (by omega))
        rw [if_neg (fun h => h1 h.2.2), decide_eq_false (by omega)]; rfl
    · have : ¬ m ≤ 2 := fun h => hb ((hmc 2).1 h)
      rw [decide_eq_true (by rw [UInt8.lt_iff_toNat_lt]; rw [UInt8.le_iff_toNat_le] at this; omega), cond_true, if_neg (fun h => hb h.2.1)]
  · rw [show (!decide ((s.length : Int) = 256)) = true by rw [decide_eq_false (by omega)]; rfl, cond_true, if_neg (fun h => hl h.1)]

/-! ### Free blocks -/
/-- the first nought from place i on -/
def freeFrom (s : List UInt8) (i : Nat) : Option Nat := (List.range' i (s.length - i)).find? fun j => s.getD j 1 == 0
theorem freeFrom_step {s : List UInt8} {i : Nat} (h : i < s.length) : freeFrom s i = if s[i] = 0 then some i else freeFrom s (i + 1) := by
  unfold freeFrom
  rw [show s.length - i = (s.length - (i + 1)) + 1 by omega, List.range'_succ, List.find?_cons]
  have e : s.getD i 1 = s[i] := by rw [List.getD_eq_getElem?_getD, List.getElem?_eq_getElem h]; rfl
  rw [e]
  by_cases c : s[i] = 0
  · rw [if_pos c, c]; rfl
  · rw [if_neg c, beq_eq_false_iff_ne.2 c]
theorem freeFrom_end {s : List UInt8} {i : Nat} (h : s.length ≤ i) : freeFrom s i = none := by
  unfold freeFrom; rw [show s.length - i = 0 by omega]; rfl
theorem freeFrom_some {s : List UInt8} {i j : Nat} (h : freeFrom s i = some j) : i ≤ j ∧ j < s.length ∧ s[j]? = some 0 := by
  unfold freeFrom at h
  have h1 := List.mem_of_find?_eq_some h
  have h2 := List.find?_some h
  rw [List.mem_range'_1] at h1
  have hj : j < s.length := by omega
  refine ⟨h1.1, hj, ?_⟩
  rw [List.getD_eq_getElem?_getD, List.getElem?_eq_getElem hj] at h2
  rw [List.getElem?_eq_getElem hj]
  simpa using h2
theorem free_loop (s : List UInt8) (hs : s.length ≤ 1000) : ∀ (k i n : Nat), i + k = s.length → k < n →
    run (space_free_1_l1 s) n (i : Int) = some (match freeFrom s i with | some j => .inr ((j : Int), (j : Int)) | none => .inl (s.length : Int))
  | 0, i, n, hi, hn => by
    obtain ⟨n, rfl⟩ : ∃ m, n = m + 1 := ⟨n - 1, by omega⟩
    obtain rfl : i = s.length := by omega
    rw [freeFrom_end (Nat.le_refl _)]
    show Option.bind (space_free_1_l1 s _) _ = _
    unfold space_free_1_l1
    rw [decide_eq_false (by omega), cond_false]; rfl
  | k + 1, i, n, hi, hn => by
    obtain ⟨n, rfl⟩ : ∃ m, n = m + 1 := ⟨n - 1, by omega⟩
    have hlt : i < s.length := by omega
    rw [freeFrom_step hlt]
    show Option.bind (space_free_1_l1 s _) _ = _
    unfold space_free_1_l1
    rw [decide_eq_true (by omega), cond_true, idx_nat _ hlt]
    by_cases c : s[i] = 0
    · rw [decide_eq_true c, cond_true, if_pos c]; rfl
    · rw [decide_eq_false c, cond_false, if_neg c]
      show run (space_free_1_l1 s) n (w64 ((i : Int) + 1)) = _
      rw [w64_of (by omega) (by omega), show (i : Int) + 1 = ((i + 1 : Nat) : Int) by omega]
      exact free_loop s hs k (i + 1) n (by omega) (by omega)
theorem space_free_1_eq {s : List UInt8} (hs : s.length ≤ 1000) {i : Nat} (hi : i ≤ s.length) :
    space_free_1 ((i : Int) - 1) s = some (match freeFrom s i with | some j => ((j : Int), (j : Int), s) | none => (-1, (s.length : Int), s)) := by
  unfold space_free_1
  rw [show ((i : Int) - 1) + 1 = (i : Int) by omega, w64_of (by omega) (by omega)]
  have := free_loop s hs (s.length - i) i FUEL (by omega) (Nat.lt_of_le_of_lt (by omega) (show 1000 < FUEL by decide))
  rw [show loop (space_free_1_l1 s) (i : Int) = _ from this, Option.bind_some]
  cases freeFrom s i <;> rfl
def takeS (s : List UInt8) : List UInt8 × Int × Int := if okS s then (match freeFrom s 0 with | some j => (s.set j 1, (j : Int), 0) | none => ([], 0, 9)) else ([], 0, 8)
theorem bClone {l : List UInt8} (h : l.length ≤ 1000000) : bytes_Clone l = some l := by
  unfold bytes_Clone; rw [app_eq (Nat.le_trans (by simpa using h) (by decide))]; rfl
theorem space_Take_eq (s : List UInt8) : space_Take s = some (takeS s) := by
  unfold space_Take takeS
  rw [space_Check_eq, Option.bind_some]
  by_cases ok : okS s
  · rw [if_pos ok, if_pos ok]
    have hl := ok.1
    rw [show (!decide ((0 : Int) = 0)) = false from rfl, cond_false]
    unfold space_free
    rw [Option.bind_some]
    have := space_free_1_eq (s := s) (by omega) (i := 0) (by omega)
    rw [show ((-1 : Int), s).1 = ((0 : Nat) : Int) - 1 from rfl, show ((-1 : Int), s).2 = s from rfl, this, Option.bind_some]
    cases hf : freeFrom s 0 with
    | none => rfl
    | some j =>
      obtain ⟨-, hj, -⟩ := freeFrom_some hf
      simp only []
      rw [decide_eq_false (by omega), cond_false, bClone (by omega), Option.bind_some, chk_eq ⟨by omega, by simpa using hj⟩, setI_eq (by omega) (by simpa using hj), Int.toNat_natCast]
  · rw [if_neg ok, if_neg ok]; rfl
/-- the free blocks from place i on -/
def freesFrom (s : List UInt8) : Nat → Nat → List Int
  | 0, _ => []
  | f + 1, i => match freeFrom s i with | some j => (j : Int) :: freesFrom s f (j + 1) | none => []
def freesS (s : List UInt8) : List Int × Int := if okS s then (freesFrom s 300 0, 0) else ([], 8)
theorem frees_loop (s : List UInt8) (hs : s.length ≤ 299) : ∀ (f i n : Nat) (out : List Int) (x : Int), s.length - i < f → s.length - i < n → i ≤ s.length → out.length + (s.length - i) ≤ 1000 →
    run space_Free_l1 n (match freeFrom s i with | some j => (out, (j : Int), s, (j : Int)) | none => (out, (s.length : Int), s, -1)) = some (out ++ freesFrom s f i)
  | 0, i, n, out, x, hf, hn, hi, ho => by omega
  | f + 1, i, n, out, x, hf, hn, hi, ho => by
    obtain ⟨n, rfl⟩ : ∃ m, n = m + 1 := ⟨n - 1, by omega⟩
    unfold freesFrom
    cases h : freeFrom s i with
    | none =>
      show Option.bind (space_Free_l1 _) _ = _
      unfold space_Free_l1
      simp only []
      rw [decide_eq_false (by omega), cond_false]; simp
    | some j =>
      obtain ⟨h1, h2, -⟩ := freeFrom_some h
      show Option.bind (space_Free_l1 _) _ = _
      unfold space_Free_l1
      simp only []
      rw [decide_eq_true (by omega), cond_true, app_eq (Nat.le_trans (show out.length + [(j : Int)].length ≤ 2000 by simp; omega) (by decide))]
      have := space_free_1_eq (s := s) (by omega) (i := j + 1) (by omega)
      rw [show ((j + 1 : Nat) : Int) - 1 = (j : Int) by omega] at this
      rw [this, Option.bind_some]
      have ih := frees_loop s hs f (j + 1) n (out ++ [(j : Int)]) x (by omega) (by omega) (by omega) (by simp; omega)
      rw [show out ++ (j : Int) :: freesFrom s f (j + 1) = (out ++ [(j : Int)]) ++ freesFrom s f (j + 1) by simp]
      rw [← ih]
      cases freeFrom s (j + 1) <;> rfl
theorem space_Free_eq (s : List UInt8) : space_Free s = some (freesS s) := by
  unfold space_Free freesS
  rw [space_Check_eq, Option.bind_some]
  by_cases ok : okS s
  · rw [if_pos ok, if_pos ok]
    have hl := ok.1
    rw [show (!decide ((0 : Int) = 0)) = false from rfl, cond_false]
    unfold space_free
    rw [Option.bind_some]
    have := space_free_1_eq (s := s) (by omega) (i := 0) (by omega)
    rw [show ((-1 : Int), s).1 = ((0 : Nat) : Int) - 1 from rfl, show ((-1 : Int), s).2 = s from rfl, this, Option.bind_some]
    have h2 := frees_loop s (by omega) 300 0 FUEL [] 0 (by omega) (Nat.lt_of_le_of_lt (by omega) (show 1000 < FUEL by decide)) (by omega) (by simp; omega)
    unfold loop
    cases hf : freeFrom s 0 with
    | none => rw [hf] at h2; simp only [] at h2 ⊢; rw [h2]; rfl
    | some j => rw [hf] at h2; simp only [] at h2 ⊢; rw [h2]; rfl
  · rw [if_neg ok, if_neg ok]; rfl
end Go.Ow
