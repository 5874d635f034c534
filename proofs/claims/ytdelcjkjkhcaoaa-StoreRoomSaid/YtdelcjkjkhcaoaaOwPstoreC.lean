/-
  What is proved here: numbers as bytes and back; a sum is always told; pointers as bytes: in plain words.
-/
import Derived.Test.YtdelcjkjkhcaoaaOwPstoreB
namespace Go.Ow
set_option linter.unusedVariables false
set_option linter.unusedSimpArgs false

/-- a number's bytes, the lowest first -/
def leB (n : Nat) : Nat → List UInt8
  | 0 => []
  | k + 1 => UInt8.ofNat n :: leB (n / 256) k
theorem leB_length (n k : Nat) : (leB n k).length = k := by
  induction k generalizing n with
  | zero => rfl
  | succ k ih => simp [leB, ih]
def numB : List UInt8 → Nat
  | [] => 0
  | b :: r => b.toNat + 256 * numB r
theorem u8i_nat (n : Nat) : u8i (n : Int) = UInt8.ofNat n := by
  unfold u8i
  apply UInt8.toNat_inj.1
  rw [UInt8.toNat_ofNat', UInt8.toNat_ofNat']
  omega
theorem sized_eq (k : Int) : code_sized k = some (decide (0 < k ∧ k ≤ 4)) := by
  unfold code_sized
  by_cases h : 0 < k
  · rw [decide_eq_true h]
    simp only [cond_true, Option.bind_some]
    congr 1; simp only [decide_eq_decide]; omega
  · rw [decide_eq_false h]
    simp only [cond_false, Option.bind_some]
    congr 1; rw [decide_eq_false (fun e => h e.1)]
theorem put_loop {n k : Nat} (hk : k ≤ 4) (hn : n < 4294967296) : loop (code_Put_l1 (k : Int)) ((n : Int), ([] : List UInt8)) = some (leB n k) := by
  obtain ⟨t, h1, h2⟩ := loop_rule (body := code_Put_l1 (k : Int)) (fun s => ∃ m : Nat, s.1 = (m : Int) ∧ m < 4294967296 ∧ s.2.length ≤ k ∧ s.2 ++ leB m (k - s.2.length) = leB n k) (fun s => k - s.2.length) (fun t => t = leB n k) (by
    rintro ⟨a, b⟩ ⟨m, h1, h0, h2, h3⟩
    simp only at h1 h2 h3
    subst h1
    unfold code_Put_l1
    dsimp only
    rw [cI]
    rcases Nat.lt_or_ge b.length k with c | c
    · left
      rw [if_pos c, app_eq (by simp only [List.length_cons, List.length_nil, LIM]; omega)]
      refine ⟨_, rfl, ⟨m / 256, ?_, by omega, by simp; omega, ?_⟩, by simp; omega⟩
      · simp only
        rw [Int.tdiv_eq_ediv_of_nonneg (by omega), w64_of (by omega) (by omega)]; omega
      · simp only
        rw [← h3, show k - b.length = (k - (b ++ [u8i (m : Int)]).length) + 1 by simp; omega]
        simp only [leB, u8i_nat, List.append_assoc, List.singleton_append]
    · right
      rw [if_neg (by omega)]
      refine ⟨_, rfl, ?_⟩
      rw [show k - b.length = 0 by omega] at h3
      simpa [leB] using h3) (s := ((n : Int), ([] : List UInt8))) ⟨n, rfl, hn, by simp, by simp⟩ (Nat.lt_of_le_of_lt (Nat.sub_le _ _) (small_lt (by omega)))
  rw [h1, h2]
theorem pow256 {k : Nat} (h1 : 1 ≤ k) (h4 : k ≤ 4) : sli 1 (w64 (8 * (k : Int))) = ((256 ^ k : Nat) : Int) ∧ 256 ^ k ≤ 4294967296 := by
  have : k = 1 ∨ k = 2 ∨ k = 3 ∨ k = 4 := by omega
  rcases this with rfl | rfl | rfl | rfl <;> decide
theorem code_Put_eq {n k : Nat} (h1 : 1 ≤ k) (h4 : k ≤ 4) (hn : n < 256 ^ k) : code_Put (n : Int) (k : Int) = some (leB n k, 0) := by
  unfold code_Put
  rw [sized_eq]
  simp only [Option.bind_some]
  obtain ⟨h5, h6⟩ := pow256 h1 h4
  rw [decide_eq_true (show 0 < (k : Int) ∧ (k : Int) ≤ 4 by omega), decide_eq_false (show ¬ (n : Int) < 0 by omega), chk_eq (by rw [w64_of (by omega) (by omega)]; omega), h5,
    decide_eq_false (show ¬ ((256 ^ k : Nat) : Int) ≤ (n : Int) by omega)]
  simp only [Bool.not_true, cond_false]
  rw [put_loop h4 (by omega)]
  rfl

theorem numB_snoc (p : List UInt8) (c : UInt8) : numB (p ++ [c]) = numB p + 256 ^ p.length * c.toNat := by
  induction p with
  | nil => simp [numB]
  | cons b p ih => simp only [List.cons_append, numB, ih, List.length_cons, Nat.pow_succ]; rw [Nat.mul_add, ← Nat.mul_assoc, Nat.mul_comm 256 (256 ^ p.length)]; omega
theorem bwd_length' (m : List UInt8) (k : Nat) : (bwd m k).length = k := by induction k with | zero => rfl | succ k ih => simp [bwd, ih]
theorem bwd_fold (m : List UInt8) : ∀ (k a : Nat), k ≤ m.length → (bwd m k).foldl (fun n y => 256 * n + y.2.toNat) a = numB (m.take k) + 256 ^ k * a := by
  intro k
  induction k with
  | zero => intro a _; simp [bwd, numB]
  | succ k ih =>
    intro a hk
    simp only [bwd, List.foldl_cons]
    rw [ih _ (by omega), List.take_succ_eq_append_getElem (by omega), numB_snoc, List.length_take, Nat.min_eq_left (by omega), List.getD_eq_getElem?_getD, List.getElem?_eq_getElem (by omega), Option.getD_some, Nat.pow_succ, Nat.mul_add, ← Nat.mul_assoc]
    omega
theorem get_loop : ∀ (l : List (Nat × UInt8)) (a j : Nat), a < 256 ^ j → j + l.length ≤ 4 → forL code_Get_r1 l (a : Int) = some (.inl ((l.foldl (fun n y => 256 * n + y.2.toNat) a : Nat) : Int))
  | [], a, j, _, _ => rfl
  | y :: l, a, j, ha, hj => by
    have hy := y.2.toNat_lt
    have hp : (256 : Nat) ^ (j + 1) ≤ 256 ^ 4 := Nat.pow_le_pow_right (by omega) (by simp at hj; omega)
    have h2 : 256 * a + y.2.toNat < 256 ^ (j + 1) := by rw [Nat.pow_succ]; omega
    rw [forL_cons (s' := ((256 * a + y.2.toNat : Nat) : Int)) (by
      have e4 : (256 : Nat) ^ 4 = 4294967296 := by decide
      rw [e4] at hp
      generalize (256 : Nat) ^ (j + 1) = N at hp h2
      show some (Sum.inl (w64 ((w64 (256 * (a : Int))) + (y.2.toNat : Int)))) = _
      rw [w64_of (n := 256 * (a : Int)) (by omega) (by omega), w64_of (by omega) (by omega)]
      rw [show (256 * (a : Int) + (y.2.toNat : Int)) = ((256 * a + y.2.toNat : Nat) : Int) by omega]), get_loop l _ (j + 1) h2 (by simp at hj; omega)]
    rfl
theorem cut_len {l : List UInt8} {a b : Nat} (h1 : a ≤ b) (h2 : b ≤ l.length) : (cut l (a : Int) (b : Int)).length = b - a := by
  unfold cut; simp only [List.length_take, List.length_drop]; omega
theorem get_core {b : List UInt8} {at' k : Nat} (h4 : k ≤ 4) (hl : at' + k ≤ b.length) :
    (slc b (at' : Int) ((at' + k : Nat) : Int) fun m_16 => Option.bind (slices_Backward_byte m_16) fun x_20 => Option.bind (forL code_Get_r1 (bwd m_16 m_16.length) 0) (fun t_24 => Sum.elim (fun s_27 => some (s_27, (0 : Int))) (fun _ => none) t_24)) = some ((numB ((b.drop at').take k) : Int), 0) := by
  rw [slc_eq (by omega) (by omega) (by omega)]
  have hm : (cut b (at' : Int) ((at' + k : Nat) : Int)).length = k := by rw [cut_len (by omega) (by omega)]; omega
  have he : cut b (at' : Int) ((at' + k : Nat) : Int) = (b.drop at').take k := by unfold cut; rw [Int.toNat_natCast, Int.toNat_natCast, Nat.add_sub_cancel_left]
  rw [he] at hm ⊢
  have := get_loop (bwd ((b.drop at').take k) ((b.drop at').take k).length) 0 0 (by decide) (by rw [bwd_length', hm]; omega)
  unfold slices_Backward_byte
  rw [Option.bind_some]
  rw [show ((0 : Nat) : Int) = 0 from rfl] at this
  rw [this, bwd_fold _ _ _ (Nat.le_refl _), List.take_length, Nat.mul_zero, Nat.add_zero]
  rfl
theorem get_cond {b : List UInt8} {a q k : Int} {K : Option (Int × Int)} (hk : 0 < k ∧ k ≤ 4) (h0 : 0 ≤ a) (h1 : a ≤ b.length) (h2 : q ≤ b.length) :
    (Option.bind (code_sized k) fun x_5 => Option.bind (cond (!x_5) (some true) (cond (decide (a < 0)) (some true) (some (decide ((b.length : Int) < a))))) (fun t_8 => cond t_8 (some (0, 2)) (cond (decide ((b.length : Int) < q)) (some (0, 8)) K))) = K := by
  rw [sized_eq, Option.bind_some, decide_eq_true hk, decide_eq_false (show ¬ a < 0 by omega), decide_eq_false (show ¬ (b.length : Int) < a by omega), decide_eq_false (show ¬ (b.length : Int) < q by omega)]
  rfl
theorem code_Get_eq {b : List UInt8} {at' k : Nat} (h1 : 1 ≤ k) (h4 : k ≤ 4) (hl : at' + k ≤ b.length) (hb : b.length ≤ 1000000) : code_Get b (at' : Int) (k : Int) = some ((numB ((b.drop at').take k) : Int), 0) := by
  unfold code_Get
  have hw : w64 ((at' : Int) + (k : Int)) = ((at' + k : Nat) : Int) := by rw [w64_of (by omega) (by omega)]; omega
  rw [hw]
  exact (get_cond ⟨by omega, by omega⟩ (by omega) (by omega) (by omega)).trans (get_core h4 hl)

/-! ### A sum is always told -/
theorem rot_tot (a : UInt32) (n : Int) : ∃ r, math_bits_RotateLeft32 a n = some r := ⟨_, rfl⟩
theorem turned1_tot (a b : Int) (x : A4 UInt32) : ∃ r, mix_words_turned_1 a b x = some r := by
  unfold mix_words_turned_1
  obtain ⟨r, h⟩ := rot_tot (x.e3 ^^^ (x.e0 + x.e1)) a
  rw [h]
  simp only [Option.bind_some]
  obtain ⟨r', h'⟩ := rot_tot (x.e1 ^^^ (x.e2 + r)) b
  rw [h']
  exact ⟨_, rfl⟩
theorem turned_tot (x : A4 UInt32) : ∃ r, mix_words_turned x = some r := by
  unfold mix_words_turned
  obtain ⟨r, h⟩ := turned1_tot 15 11 x
  rw [h]
  simp only [Option.bind_some]
  obtain ⟨r', h'⟩ := turned1_tot 9 6 r
  rw [h']
  exact ⟨_, rfl⟩
theorem often_tot (x : A4 UInt32) (n : Int) (hn : n ≤ 100) : ∃ r, mix_words_often x n = some r := by
  unfold mix_words_often
  obtain ⟨t, h1, -⟩ := loop_rule (body := mix_words_often_l1 n) (fun s => 0 ≤ s.2.2.2.2 ∧ s.2.2.2.2 ≤ 100) (fun s => 100 - s.2.2.2.2.toNat) (fun _ => True) (by
    rintro ⟨a, b, c, d, i⟩ ⟨hi, hi'⟩
    simp only at hi hi'
    unfold mix_words_often_l1
    dsimp only
    by_cases h : i < n
    · left
      rw [decide_eq_true h]
      obtain ⟨r, hr⟩ := turned_tot (A4.mk a b c d)
      simp only [cond_true]
      rw [hr]
      refine ⟨_, rfl, ?_, ?_⟩
      · simp only; rw [w64_of (by omega) (by omega)]; omega
      · simp only; rw [w64_of (by omega) (by omega)]; omega
    · right
      rw [decide_eq_false h]
      exact ⟨_, rfl, trivial⟩) (s := (x.e0, x.e1, x.e2, x.e3, 0)) ⟨by simp, by simp⟩ (Nat.lt_of_le_of_lt (Nat.sub_le _ _) (small_lt (by omega)))
  rw [h1]
  exact ⟨_, rfl⟩
theorem number_tot {b : List UInt8} (h : b.length = 4) : ∃ r, mix_number b = some r := by
  unfold mix_number
  rw [show (0 : Int) = ((0 : Nat) : Int) from rfl, show (4 : Int) = ((4 : Nat) : Int) from rfl, code_Get_eq (by omega) (by omega) (by omega) (by omega)]
  exact ⟨_, rfl⟩
theorem forL_tot {α σ τ : Type} {body : α → σ → Option (σ ⊕ τ)} : ∀ {l : List α} {s : σ}, (∀ y ∈ l, ∀ s, ∃ s', body y s = some (.inl s')) → ∃ s', forL body l s = some (.inl s')
  | [], s, _ => ⟨s, rfl⟩
  | y :: l, s, h => by
    obtain ⟨s', h1⟩ := h y (by simp) s
    rw [forL_cons h1]
    exact forL_tot (fun y hy => h y (by simp [hy]))
theorem chunks_len {n : Nat} (hn : 0 < n) : ∀ (f : Nat) (l : List UInt8), l.length ≤ f → l.length % n = 0 → ∀ y ∈ chunks n f l, y.length = n
  | 0, l, h, _, y, hy => by simp [chunks] at hy
  | f + 1, l, h, hm, y, hy => by
    by_cases c : l = []
    · subst c; simp [chunks] at hy
    · rw [chunks_step c] at hy
      have hpos := List.length_pos_iff.2 c
      have hge : n ≤ l.length := by
        rcases Nat.lt_or_ge l.length n with h' | h'
        · rw [Nat.mod_eq_of_lt h'] at hm; omega
        · exact h'
      rcases List.mem_cons.1 hy with rfl | hy
      · simp only [List.length_take]; omega
      · refine chunks_len hn f _ (by simp only [List.length_drop]; omega) ?_ y hy
        rw [List.length_drop, ← Nat.mod_eq_sub_mod hge]; exact hm
def pad8 (n : Nat) : Nat := (8 - n % 8) % 8
theorem pad8_step {n : Nat} (h : n % 8 ≠ 0) : pad8 (n + 1) + 1 = pad8 n := by
  unfold pad8
  have : n % 8 = 1 ∨ n % 8 = 2 ∨ n % 8 = 3 ∨ n % 8 = 4 ∨ n % 8 = 5 ∨ n % 8 = 6 ∨ n % 8 = 7 := by omega
  rcases this with h | h | h | h | h | h | h <;> rw [Nat.add_mod, h]
theorem pad8_le (n : Nat) : pad8 n ≤ 8 := by unfold pad8; omega
theorem four_l1 {l : List UInt8} (h : l.length ≤ 100000) : ∃ t, loop mix_four_l1 l = some t ∧ t.length % 8 = 0 ∧ t.length ≤ 100016 := by
  obtain ⟨t, h1, h2⟩ := loop_rule (body := mix_four_l1) (fun s => s.length + pad8 s.length ≤ 100008) (fun s => pad8 s.length) (fun t => t.length % 8 = 0 ∧ t.length ≤ 100016) (by
    intro s hs
    unfold mix_four_l1
    rw [Int.tmod_eq_emod_of_nonneg (by omega)]
    by_cases c : s.length % 8 = 0
    · right
      rw [decide_eq_true (show (s.length : Int) % 8 = 0 by omega)]
      exact ⟨_, rfl, c, by omega⟩
    · left
      have := pad8_step c
      rw [decide_eq_false (show ¬ (s.length : Int) % 8 = 0 by omega)]
      simp only [Bool.not_false, cond_true]
      rw [app_eq (by simp only [List.length_cons, List.length_nil, LIM]; omega)]
      exact ⟨_, rfl, by simp only [List.length_append, List.length_cons, List.length_nil, Nat.zero_add]; omega, by simp only [List.length_append, List.length_cons, List.length_nil, Nat.zero_add]; omega⟩) (s := l) (by have := pad8_le l.length; omega) (Nat.lt_of_le_of_lt (pad8_le _) (small_lt (by omega)))
  exact ⟨t, h1, h2⟩
theorem mix_Sum_tot {b : List UInt8} (h : b.length ≤ 10000) : ∃ r, mix_Sum b = some r := by
  unfold mix_Sum mix_four slices_Clone_byte slices_Clip_byte
  rw [app_eq (by simp only [List.length_nil, LIM]; omega)]
  simp only [Option.bind_some, List.nil_append]
  rw [slc_eq (by omega) (by omega) (by omega)]
  simp only [Option.bind_some]
  have hc : cut b 0 (b.length : Int) = b := by simp [cut]
  rw [hc, app_eq (by simp only [List.length_cons, List.length_nil, LIM]; omega)]
  obtain ⟨t, h1, h2, h3⟩ := four_l1 (l := b ++ [1]) (by simp; omega)
  rw [h1]
  simp only [Option.bind_some]
  unfold slices_Chunk_byte
  rw [if_pos ⟨by omega, by omega, by simp only [LIM]; omega⟩]
  simp only [Option.bind_some]
  obtain ⟨s, hs⟩ := forL_tot (body := mix_four_r2) (l := chunks (8 : Int).toNat t.length t) (s := ((1 : UInt32), (2 : UInt32), (3 : UInt32), (4 : UInt32))) (fun y hy s => by
    have hy8 : y.length = 8 := chunks_len (n := 8) (by omega) t.length t (Nat.le_refl _) h2 y hy
    unfold mix_four_r2
    rw [slc_eq (by omega) (by omega) (by omega)]
    obtain ⟨n1, e1⟩ := number_tot (b := cut y 0 4) (by rw [show (0 : Int) = ((0 : Nat) : Int) from rfl, show (4 : Int) = ((4 : Nat) : Int) from rfl, cut_len (by omega) (by omega)])
    rw [e1]
    simp only [Option.bind_some]
    rw [slc_eq (by omega) (by omega) (by omega)]
    obtain ⟨n2, e2⟩ := number_tot (b := cut y 4 (y.length : Int)) (by rw [show (4 : Int) = ((4 : Nat) : Int) from rfl, cut_len (by omega) (by omega)]; omega)
    rw [e2]
    simp only [Option.bind_some]
    obtain ⟨w, e3⟩ := often_tot (A4.mk (s.1 ^^^ n1) s.2.1 (s.2.2.1 ^^^ n2) s.2.2.2) 4 (by omega)
    rw [e3]
    exact ⟨_, rfl⟩)
  rw [hs]
  simp only [Option.bind_some, Sum.elim_inl]
  obtain ⟨w, e3⟩ := often_tot (A4.mk s.1 (s.2.1 ^^^ (u32i (b.length : Int))) s.2.2.1 s.2.2.2) 8 (by omega)
  rw [e3]
  exact ⟨_, rfl⟩
def sumOf (b : List UInt8) : UInt32 := (mix_Sum b).getD 0
theorem mix_Sum_eq {b : List UInt8} (h : b.length ≤ 10000) : mix_Sum b = some (sumOf b) := by
  obtain ⟨r, hr⟩ := mix_Sum_tot h
  unfold sumOf; rw [hr]; rfl
end Go.Ow
