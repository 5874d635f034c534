/-
  What is proved here: keys, streams of bytes, tags and seals (mix, mac, cipher, seal), in plain words: which values they have is left open.
-/
import Derived.Test.YtdelcjkjkhcaoaaOwPstoreG
namespace Go.Ow
set_option linter.unusedVariables false
set_option linter.unusedSimpArgs false

theorem lim_le {n : Nat} (h : n ≤ 1000000) : n ≤ LIM := Nat.le_trans h (by decide)
/-! ### Texts one behind the other -/
theorem grow_eq {n : Nat} (h : n ≤ 1000000) : slices_Grow_byte (n : Int) = some [] := by
  unfold slices_Grow_byte
  rw [decide_eq_false (by omega), cond_false, show (n : Int) - 0 = (n : Int) by omega, w64_of (by omega) (by omega)]
  by_cases c : 0 < (n : Int)
  · rw [decide_eq_true c, cond_true, mks_eq (lim_le h), slc_eq (by omega) (by omega) (by omega)]
    simp [cut]
  · rw [decide_eq_false c, cond_false]; rfl
theorem concat_eq (p : List (List UInt8)) (h : p.length ≤ 1000) (hs : (p.map List.length).sum ≤ 1000000) : slices_Concat_byte p = some p.flatten := by
  unfold slices_Concat_byte
  have key : ∀ (l : List (List UInt8)) (a : Nat), a + (l.map List.length).sum ≤ 1000000 → forL (fun (y : List UInt8) (r : Int) => bif decide (w64 (r + (y.length : Int)) < 0) then (none : Option (Int ⊕ Int)) else some (.inl (w64 (r + (y.length : Int))))) l (a : Int) = some (.inl ((a + (l.map List.length).sum : Nat) : Int)) := by
    intro l
    induction l with
    | nil => intro a _; simp [forL]
    | cons y l ih =>
      intro a ha
      rw [List.map_cons, List.sum_cons] at ha
      have e : w64 ((a : Int) + (y.length : Int)) = ((a + y.length : Nat) : Int) := by rw [w64_of (by omega) (by omega)]; omega
      rw [forL_cons (s' := ((a + y.length : Nat) : Int)) (by rw [decide_eq_false (by rw [e]; omega), cond_false, e]), ih _ (by omega), List.map_cons, List.sum_cons, Nat.add_assoc]
  have l1 := loop_each' p (fun i r => (r, i)) (body := slices_Concat_byte_l1 p) (τ := Int) (fun (y : List UInt8) (r : Int) => bif decide (w64 (r + (y.length : Int)) < 0) then none else some (.inl (w64 (r + (y.length : Int))))) (fun r => r)
    (fun i hi r => by
      unfold slices_Concat_byte_l1
      rw [cI, if_pos hi, idx_nat _ hi]
      by_cases c : w64 (r + (p[i].length : Int)) < 0
      · rw [decide_eq_true c]; rfl
      · rw [decide_eq_false c]; rfl)
    (fun r => by unfold slices_Concat_byte_l1; rw [cI, if_neg (by omega)]) (lt_fuel (m := 1000) h rfl) 0
  have k0 := key p 0 (by omega)
  rw [show ((0 : Nat) : Int) = 0 from rfl] at k0
  have e1 : Option.bind (forL (fun (y : List UInt8) (r : Int) => bif decide (w64 (r + (y.length : Int)) < 0) then (none : Option (Int ⊕ Int)) else some (.inl (w64 (r + (y.length : Int))))) p 0) (ends fun r => r) = some (((0 + (p.map List.length).sum : Nat) : Int)) := by rw [k0]; rfl
  rw [l1, e1, Option.bind_some, grow_eq (by omega), Option.bind_some]
  have key2 : ∀ (l : List (List UInt8)) (a : List UInt8), a.length + (l.map List.length).sum ≤ 1000000 → forL (fun (y : List UInt8) (r : List UInt8) => app r y fun q => (some (.inl q) : Option (List UInt8 ⊕ List UInt8))) l a = some (.inl (a ++ l.flatten)) := by
    intro l
    induction l with
    | nil => intro a _; simp [forL]
    | cons y l ih =>
      intro a ha
      rw [List.map_cons, List.sum_cons] at ha
      rw [forL_cons (s' := a ++ y) (by rw [app_eq (lim_le (by omega))]), ih _ (by rw [List.length_append]; omega), List.flatten_cons, List.append_assoc]
  have l2 := loop_each' p (fun i r => (r, i)) (body := slices_Concat_byte_l2 p) (τ := List UInt8) (fun (y : List UInt8) (r : List UInt8) => app r y fun q => some (.inl q)) (fun r => r)
    (fun i hi r => by
      unfold slices_Concat_byte_l2
      rw [cI, if_pos hi, idx_nat _ hi]
      unfold app
      by_cases c : r.length + p[i].length ≤ LIM
      · rw [if_pos c, if_pos c]; rfl
      · rw [if_neg c, if_neg c]; rfl)
    (fun r => by unfold slices_Concat_byte_l2; rw [cI, if_neg (by omega)]) (lt_fuel (m := 1000) h rfl) []
  have e2 : Option.bind (forL (fun (y : List UInt8) (r : List UInt8) => app r y fun q => (some (.inl q) : Option (List UInt8 ⊕ List UInt8))) p []) (ends fun r => r) = some ([] ++ p.flatten) := by rw [key2 p [] (by simpa using hs)]; rfl
  rw [l2, e2, Option.bind_some, List.nil_append]

/-! ### Keys -/
theorem mix_Four_tot {b : List UInt8} (h : b.length ≤ 10000) : ∃ r, mix_four b = some r := by
  have := mix_Sum_tot h
  obtain ⟨r, hr⟩ := this
  unfold mix_Sum at hr
  obtain ⟨x, hx, -⟩ := bnd_some hr
  exact ⟨x, hx⟩
theorem put4 (a : UInt32) : code_Put (a.toNat : Int) 4 = some (leB a.toNat 4, 0) := by
  have := code_Put_eq (n := a.toNat) (k := 4) (by omega) (by omega) (by have := a.toNat_lt; omega)
  exact this
theorem four_fuel : 5 ≤ FUEL := by decide
theorem mix_Key_tot {b : List UInt8} (h : b.length ≤ 10000) : ∃ r, mix_Key b = some r ∧ r.length = 16 := by
  obtain ⟨x, hx⟩ := mix_Four_tot h
  unfold mix_Key
  rw [hx, Option.bind_some]
  have hl : x.l.length = 4 := rfl
  have step : ∀ (i : Nat) (r : List UInt8) (hi : i < x.l.length), r.length ≤ 100 → mix_Key_l1 x (r, i) = some (.inl (r ++ leB (x.l[i]).toNat 4, i + 1)) := by
    intro i r hi hr
    unfold mix_Key_l1
    rw [decide_eq_true (by omega), cond_true, idx_nat _ hi, put4, Option.bind_some, app_eq (lim_le (by simp only [leB_length]; omega))]
  have e : loop (mix_Key_l1 x) ([], 0) = some ([] ++ leB (x.l[0]).toNat 4 ++ leB (x.l[1]).toNat 4 ++ leB (x.l[2]).toNat 4 ++ leB (x.l[3]).toNat 4) := by
    refine loop_of four_fuel ?_
    rw [run_st (step 0 [] (by omega) (by simp)), run_st (step 1 _ (by omega) (by simp [leB_length])), run_st (step 2 _ (by omega) (by simp [leB_length])), run_st (step 3 _ (by omega) (by simp [leB_length]))]
    refine run_en ?_
    unfold mix_Key_l1
    rfl
  rw [e, Option.bind_some]
  exact ⟨_, rfl, by simp [leB_length]⟩
def keyOf (b : List UInt8) : List UInt8 := (mix_Key b).getD []
theorem mix_Key_eq {b : List UInt8} (h : b.length ≤ 10000) : mix_Key b = some (keyOf b) := by
  obtain ⟨r, hr, -⟩ := mix_Key_tot h
  unfold keyOf; rw [hr]; rfl
theorem keyOf_length {b : List UInt8} (h : b.length ≤ 10000) : (keyOf b).length = 16 := by
  obtain ⟨r, hr, hl⟩ := mix_Key_tot h
  unfold keyOf; rw [hr]; exact hl

/-! ### Tags -/
theorem mac_inner_eq {a b c : List UInt8} (h : a.length + b.length + c.length ≤ 10000) : mac_inner [a, b, c] = some (keyOf (a ++ b ++ c)) := by
  unfold mac_inner
  rw [concat_eq _ (by simp) (by simp; omega), Option.bind_some, show [a, b, c].flatten = a ++ b ++ c by simp, mix_Key_eq (by simp; omega)]; rfl
def tagB (key b : List UInt8) : UInt32 := sumOf (key ++ [2] ++ keyOf (key ++ [1] ++ b))
theorem mac_Tag_eq {key b : List UInt8} (hk : key.length = 16) (hb : b.length ≤ 9000) : mac_Tag key b = some (tagB key b, 0) := by
  unfold mac_Tag tagB
  have hl := keyOf_length (b := key ++ [1] ++ b) (by simp; omega)
  rw [show (!decide ((key.length : Int) = 16)) = false by rw [hk]; rfl, cond_false, mac_inner_eq (by simp; omega), Option.bind_some, concat_eq _ (by simp) (by simp only [List.map_cons, List.map_nil, List.sum_cons, List.sum_nil, hl, List.length_cons, List.length_nil]; omega), Option.bind_some]
  rw [show [key, [(2 : UInt8)], keyOf (key ++ [1] ++ b)].flatten = key ++ [2] ++ keyOf (key ++ [1] ++ b) by simp, mix_Sum_eq (by rw [List.length_append, List.length_append, hl]; simp; omega), Option.bind_some]

/-! ### Streams -/
def pieceK (key : List UInt8) (iv : UInt32) (j : Nat) : List UInt8 := keyOf (key ++ leB iv.toNat 4 ++ leB j 4)
theorem pieceK_length {key : List UInt8} {iv : UInt32} {j : Nat} (hk : key.length = 16) : (pieceK key iv j).length = 16 := keyOf_length (by simp [leB_length]; omega)
/-- the bytes of the first j pieces -/
def pieces (key : List UInt8) (iv : UInt32) : Nat → List UInt8
  | 0 => []
  | j + 1 => pieces key iv j ++ pieceK key iv j
theorem pieces_length {key : List UInt8} {iv : UInt32} (hk : key.length = 16) : ∀ j, (pieces key iv j).length = 16 * j
  | 0 => rfl
  | j + 1 => by rw [pieces, List.length_append, pieces_length hk j, pieceK_length hk]; omega
theorem pieces_loop {key : List UInt8} {iv : UInt32} (hk : key.length = 16) {n : Nat} (hn : n ≤ 4096) : ∀ (k j f : Nat), j + k = (n + 15) / 16 → k < f →
    run (cipher_pieces_1_l1 (cipher_Stream_r1 (n : Int)) key (leB iv.toNat 4)) f (pieces key iv j, (j : Int)) = some (pieces key iv ((n + 15) / 16))
  | k, j, 0, _, hf => by omega
  | k, j, f + 1, hj, hf => by
    have hpl := pieces_length (iv := iv) hk j
    have hput : code_Put ((j : Nat) : Int) 4 = some (leB j 4, 0) := code_Put_eq (n := j) (k := 4) (by omega) (by omega) (by omega)
    have hcc : slices_Concat_byte [key, leB iv.toNat 4, leB j 4] = some (key ++ leB iv.toNat 4 ++ leB j 4) := by
      rw [concat_eq _ (by simp) (by simp [leB_length]; omega)]; simp
    have hkey : mix_Key (key ++ leB iv.toNat 4 ++ leB j 4) = some (pieceK key iv j) := mix_Key_eq (by simp [leB_length]; omega)
    show Option.bind (cipher_pieces_1_l1 _ _ _ _) _ = _
    unfold cipher_pieces_1_l1
    rw [hput, Option.bind_some, hcc, Option.bind_some, hkey, Option.bind_some]
    unfold cipher_Stream_r1
    by_cases c : n ≤ 16 * j
    · rw [decide_eq_true (by rw [hpl]; omega), cond_true]
      have : j = (n + 15) / 16 := by omega
      rw [← this]; rfl
    · rw [decide_eq_false (by rw [hpl]; omega), cond_false, app_eq (lim_le (by rw [hpl, pieceK_length hk]; omega))]
      obtain ⟨k, rfl⟩ : ∃ m, k = m + 1 := ⟨k - 1, by omega⟩
      simp only [Option.bind_some, Sum.elim_inl]
      rw [w64_of (by omega) (by omega)]
      have := pieces_loop (iv := iv) hk hn k (j + 1) f (by omega) (by omega)
      rw [show ((j + 1 : Nat) : Int) = (j : Int) + 1 by omega] at this
      exact this
def streamB (key : List UInt8) (iv : UInt32) (n : Nat) : List UInt8 := (pieces key iv ((n + 15) / 16)).take n
theorem streamB_length {key : List UInt8} {iv : UInt32} {n : Nat} (hk : key.length = 16) : (streamB key iv n).length = n := by
  unfold streamB; rw [List.length_take, pieces_length hk]; omega
theorem cipher_Stream_eq {key : List UInt8} {iv : UInt32} {n : Nat} (hk : key.length = 16) (hn : n ≤ 4096) : cipher_Stream key iv (n : Int) = some (streamB key iv n, 0) := by
  unfold cipher_Stream
  rw [show (!decide ((key.length : Int) = 16)) = false by rw [hk]; rfl, cond_false, decide_eq_false (by omega), cond_false, decide_eq_false (by omega), cond_false]
  unfold cipher_pieces
  rw [put4, Option.bind_some, Option.bind_some]
  unfold cipher_pieces_1
  have := pieces_loop (iv := iv) hk hn ((n + 15) / 16) 0 FUEL (by omega) (Nat.lt_of_le_of_lt (by omega) (show 1000 < FUEL by decide))
  rw [show loop (cipher_pieces_1_l1 (cipher_Stream_r1 (n : Int)) (key, (leB iv.toNat 4, (0 : Int)).1).1 (key, (leB iv.toNat 4, (0 : Int)).1).2) ([], 0) = _ from this]
  simp only [Option.bind_some, Sum.elim_inr]
  rw [slc_eq (by omega) (by omega) (by rw [pieces_length hk]; omega)]
  unfold slices_Clone_byte
  have hl := streamB_length (iv := iv) (n := n) hk
  have hc : cut (pieces key iv ((n + 15) / 16)) 0 (n : Int) = streamB key iv n := by simp [cut, streamB]
  rw [hc, app_eq (lim_le (by simp only [List.length_nil]; omega))]; rfl
/-- bytes turned by a stream, and back -/
def turnB (key : List UInt8) (iv : UInt32) (b : List UInt8) : List UInt8 := List.zipWith (· ^^^ ·) (streamB key iv b.length) b
theorem turnB_length {key : List UInt8} {iv : UInt32} {b : List UInt8} (hk : key.length = 16) : (turnB key iv b).length = b.length := by
  unfold turnB; rw [List.length_zipWith, streamB_length hk, Nat.min_self]
theorem xor_xor : ∀ (l m : List UInt8), l.length = m.length → List.zipWith (· ^^^ ·) l (List.zipWith (· ^^^ ·) l m) = m
  | [], [], _ => rfl
  | a :: l, b :: m, h => by
    rw [List.zipWith_cons_cons, List.zipWith_cons_cons, xor_xor l m (by simpa using h), ← UInt8.xor_assoc, UInt8.xor_self, UInt8.zero_xor]
theorem turnB_turnB {key : List UInt8} {iv : UInt32} {b : List UInt8} (hk : key.length = 16) : turnB key iv (turnB key iv b) = b := by
  have hl := turnB_length (iv := iv) (b := b) hk
  have hs := streamB_length (iv := iv) (n := b.length) hk
  have e : turnB key iv (turnB key iv b) = List.zipWith (· ^^^ ·) (streamB key iv (turnB key iv b).length) (turnB key iv b) := rfl
  rw [e, hl]
  exact xor_xor _ _ hs
theorem turn_loop {b s : List UInt8} (hs : s.length = b.length) (hb : b.length ≤ 4096) : loop (cipher_Turn_l1 b) (s, 0) = some (List.zipWith (· ^^^ ·) s b) := by
  have key : ∀ (k i n : Nat), i + k = b.length → k < n → run (cipher_Turn_l1 b) n ((List.zipWith (· ^^^ ·) s b).take i ++ s.drop i, i) = some (List.zipWith (· ^^^ ·) s b) := by
    intro k
    induction k with
    | zero =>
      intro i n hi hn
      obtain ⟨n, rfl⟩ : ∃ m, n = m + 1 := ⟨n - 1, by omega⟩
      refine run_en ?_
      unfold cipher_Turn_l1
      rw [cI, if_neg (by omega), List.drop_eq_nil_of_le (by omega), List.append_nil, List.take_of_length_le (by rw [List.length_zipWith]; omega)]
    | succ k ih =>
      intro i n hi hn
      obtain ⟨n, rfl⟩ : ∃ m, n = m + 1 := ⟨n - 1, by omega⟩
      have hlt : i < b.length := by omega
      have hzl : (List.zipWith (· ^^^ ·) s b).length = b.length := by rw [List.length_zipWith]; omega
      have hal : ((List.zipWith (· ^^^ ·) s b).take i ++ s.drop i).length = b.length := by rw [List.length_append, List.length_take, List.length_drop]; omega
      have hat : ((List.zipWith (· ^^^ ·) s b).take i ++ s.drop i)[i]'(by omega) = s[i]'(by omega) := by
        rw [List.getElem_append_right (by rw [List.length_take]; omega)]
        simp only [List.length_take, hzl, Nat.min_eq_left (Nat.le_of_lt hlt), Nat.sub_self, List.getElem_drop, Nat.add_zero]
      rw [run_st (s' := ((List.zipWith (· ^^^ ·) s b).take (i + 1) ++ s.drop (i + 1), i + 1))]
      · exact ih (i + 1) n (by omega) (by omega)
      · unfold cipher_Turn_l1
        dsimp only
        rw [cI, if_pos hlt, idx_nat _ hlt, idx_nat _ (by omega), chk_eq ⟨by omega, by simp only [Int.toNat_natCast]; omega⟩, setI_eq (by omega) (by simp only [Int.toNat_natCast]; omega), hat]
        congr 3
        rw [Int.toNat_natCast, List.set_append_right _ _ (by rw [List.length_take]; omega), List.length_take, hzl, Nat.min_eq_left (Nat.le_of_lt hlt), Nat.sub_self, List.drop_eq_getElem_cons (by omega), List.set_cons_zero, List.take_succ_eq_append_getElem (by omega), List.getElem_zipWith, List.append_assoc]
        rfl
  have := key b.length 0 FUEL (by omega) (Nat.lt_of_le_of_lt hb (by decide))
  simpa [loop] using this
theorem cipher_Turn_eq {key : List UInt8} {iv : UInt32} {b : List UInt8} (hk : key.length = 16) (hb : b.length ≤ 4096) : cipher_Turn key iv b = some (turnB key iv b, 0) := by
  unfold cipher_Turn
  rw [show (!decide ((key.length : Int) = 16)) = false by rw [hk]; rfl, cond_false, decide_eq_false (by omega), cond_false, cipher_Stream_eq hk hb, Option.bind_some, turn_loop (streamB_length hk) hb]; rfl
theorem seal_turned_eq {key : List UInt8} {iv : UInt32} {b : List UInt8} (hk : key.length = 16) (hb : b.length ≤ 256) : seal_turned key iv b = some (turnB key iv b, 0) := by
  unfold seal_turned
  rw [decide_eq_true (by omega), cond_true, decide_eq_false (by omega), cond_false, Option.bind_some, cipher_Turn_eq hk (by omega)]; rfl
def sealT (key : List UInt8) (iv : UInt32) (c : List UInt8) : UInt32 := tagB key (leB iv.toNat 4 ++ c)
theorem seal_tagged_eq {key : List UInt8} {iv : UInt32} {b : List UInt8} (hk : key.length = 16) (hb : b.length ≤ 4096) : seal_tagged key iv b = some (sealT key iv b, 0) := by
  unfold seal_tagged sealT
  rw [put4, Option.bind_some]
  rw [show (!decide ((leB iv.toNat 4, (0 : Int)).2 = 0)) = false from rfl, cond_false, concat_eq _ (by simp) (by simp [leB_length]; omega), Option.bind_some, show [leB iv.toNat 4, b].flatten = leB iv.toNat 4 ++ b by simp, mac_Tag_eq hk (by simp [leB_length]; omega)]; rfl
theorem seal_Seal_eq {key : List UInt8} {iv : UInt32} {b : List UInt8} (hk : key.length = 16) (hb : b.length ≤ 256) : seal_Seal key iv b = some (turnB key iv b, sealT key iv (turnB key iv b), 0) := by
  unfold seal_Seal
  rw [seal_turned_eq hk hb, Option.bind_some]
  rw [show (!decide ((turnB key iv b, (0 : Int)).2 = 0)) = false from rfl, cond_false, seal_tagged_eq hk (by rw [turnB_length hk]; omega)]; rfl
theorem seal_Open_eq {key : List UInt8} {iv t : UInt32} {b : List UInt8} (hk : key.length = 16) (hb : b.length ≤ 256) : seal_Open key iv b t = some (if sealT key iv b = t then (turnB key iv b, 0) else ([], 131)) := by
  unfold seal_Open
  rw [seal_turned_eq hk hb, Option.bind_some]
  rw [show (!decide ((turnB key iv b, (0 : Int)).2 = 0)) = false from rfl, cond_false, seal_tagged_eq hk (by omega), Option.bind_some]
  rw [show (!decide ((sealT key iv b, (0 : Int)).2 = 0)) = false from rfl, cond_false]
  by_cases c : sealT key iv b = t
  · rw [if_pos c, decide_eq_true c]; rfl
  · rw [if_neg c, decide_eq_false c]; rfl
end Go.Ow
