/-
  What is proved here: blocks laid, sealed, looked at, opened (store), in plain words.
-/
import Derived.Test.YtdelcjkjkhcaoaaOwPstoreH
namespace Go.Ow
set_option linter.unusedVariables false
set_option linter.unusedSimpArgs false

def noS : Store := ⟨⟨[], []⟩, [], 0, 0⟩
def noP : Ptr := ⟨0, 0, 0, 0, 0⟩
def OKSt (s : Store) : Prop := OKD s.Disk ∧ okS s.Space ∧ (1 : UInt32) ≤ s.Epoch ∧ s.Epoch ≤ 65535 ∧ s.Count ≤ 65535
instance (s : Store) : Decidable (OKSt s) := by unfold OKSt; infer_instance
theorem ndec {e : Int} (h : e ≠ 0) : (!decide (e = 0)) = true := by rw [decide_eq_false h]; rfl
theorem zdec : (!decide ((0 : Int) = 0)) = false := rfl
theorem d32lt (a b : UInt32) : decide (a < b) = !decide (b ≤ a) := by
  rw [← decide_not]; apply decide_eq_decide.2; rw [UInt32.lt_iff_toNat_lt, UInt32.le_iff_toNat_le]; omega
theorem store_Check_eq {s : Store} (h : Sized s.Disk) : store_Check s = some (if OKSt s then 0 else 8) := by
  unfold store_Check
  rw [dev_Check_eq h, Option.bind_some]
  by_cases c1 : OKD s.Disk
  · rw [if_pos c1, zdec, cond_false, space_Check_eq, Option.bind_some]
    by_cases c2 : okS s.Space
    · rw [if_pos c2, zdec, cond_false, d32lt, d32lt, d32lt]
      by_cases c3 : (1 : UInt32) ≤ s.Epoch
      · by_cases c4 : s.Epoch ≤ 65535
        · by_cases c5 : s.Count ≤ 65535
          · rw [if_pos ⟨c1, c2, c3, c4, c5⟩, decide_eq_true c3, decide_eq_true c4, decide_eq_true c5]; rfl
          · rw [if_neg (fun h => c5 h.2.2.2.2), decide_eq_true c3, decide_eq_true c4, decide_eq_false c5]; rfl
        · rw [if_neg (fun h => c4 h.2.2.2.1), decide_eq_true c3, decide_eq_false c4]; rfl
      · rw [if_neg (fun h => c3 h.2.2.1), decide_eq_false c3]; rfl
    · rw [if_neg c2, ndec (by omega), cond_true, if_neg (fun h => c2 h.2.1)]
  · rw [if_neg c1, ndec (by omega), cond_true, if_neg (fun h => c1 h.1)]
theorem OKSt.sized {s : Store} (h : OKSt s) : Sized s.Disk := h.1.sized

/-! ### What is asked -/
def birthOk (b : UInt32) : Prop := (1 : UInt32) ≤ b ∧ b ≤ 16777215
instance (b : UInt32) : Decidable (birthOk b) := by unfold birthOk; infer_instance
theorem asked_loop1 (n : Int) (a : List UInt8) : loop (store_asked_l1 [a]) (n, 0) = some (if (a.length : Int) = n then .inl () else .inr ()) := by
  refine loop_of (n := 3) (by decide) ?_
  by_cases c : (a.length : Int) = n
  · rw [if_pos c, run_st (s' := ((256 : Int), 1)) (by unfold store_asked_l1; simp [idx, c])]
    exact run_en (by unfold store_asked_l1; rfl)
  · rw [if_neg c]
    exact run_en (by unfold store_asked_l1; simp [idx, c])
theorem asked_loop2 (n : Int) (a b : List UInt8) : loop (store_asked_l1 [a, b]) (n, 0) = some (if (a.length : Int) = n ∧ b.length = 256 then .inl () else .inr ()) := by
  refine loop_of (n := 4) (by decide) ?_
  by_cases c : (a.length : Int) = n
  · rw [run_st (s' := ((256 : Int), 1)) (by unfold store_asked_l1; simp [idx, c])]
    by_cases c2 : (b.length : Int) = 256
    · rw [if_pos ⟨c, by omega⟩, run_st (s' := ((256 : Int), 2)) (by unfold store_asked_l1; simp [idx, c2])]
      exact run_en (by unfold store_asked_l1; rfl)
    · rw [if_neg (fun h => c2 (by omega))]
      exact run_en (by unfold store_asked_l1; simp [idx, c2])
  · rw [if_neg (fun h => c h.1)]
    exact run_en (by unfold store_asked_l1; simp [idx, c])
def askErr (s : Store) (birth : UInt32) (ok : Prop) [Decidable ok] : Int := if OKSt s then (if birthOk birth then (if ok then 0 else 3) else 2) else 8
theorem asked_core {s : Store} (h : Sized s.Disk) (birth : UInt32) (n : Int) (l : List (List UInt8)) (ok : Prop) [Decidable ok] (hl : loop (store_asked_l1 l) (n, 0) = some (if ok then .inl () else .inr ())) :
    store_asked s birth n l = some (askErr s birth ok) := by
  unfold store_asked askErr
  rw [store_Check_eq h, Option.bind_some]
  by_cases c1 : OKSt s
  · rw [if_pos c1, if_pos c1, zdec, cond_false, d32lt, d32lt, hl]
    by_cases c2 : birthOk birth
    · rw [if_pos c2, decide_eq_true c2.1, decide_eq_true c2.2]
      by_cases c3 : ok
      · rw [if_pos c3, if_pos c3]; rfl
      · rw [if_neg c3, if_neg c3]; rfl
    · rw [if_neg c2]
      by_cases c3 : (1 : UInt32) ≤ birth
      · rw [decide_eq_true c3, decide_eq_false (fun c4 => c2 ⟨c3, c4⟩)]; rfl
      · rw [decide_eq_false c3]; rfl
  · rw [if_neg c1, if_neg c1, ndec (by omega)]; rfl

/-! ### A block is laid -/
structure PutAt (s : Store) (p : Ptr) (b : List UInt8) (t : Store) (q : Ptr) (j : Nat) : Prop where
  ok : OKSt s
  len : b.length = 256
  free : freeFrom s.Space 0 = some j
  room : s.Disk.Waits.length ≠ 4096
  out : t = ⟨⟨s.Disk.Blocks, s.Disk.Waits ++ [⟨(j : Int), b⟩]⟩, s.Space.set j 1, s.Epoch, s.Count⟩
  ptr : q = ⟨(j : Int), p.Birth, p.Iv, p.Tag, sumOf b⟩
theorem free_high {s : List UInt8} (h : okS s) {j : Nat} (hj : s[j]? = some 0) : 12 ≤ j ∧ j < 256 := by
  have hlt : j < s.length := (List.getElem?_eq_some_iff.1 hj).1
  rw [h.1] at hlt
  refine ⟨?_, hlt⟩
  apply Nat.le_of_not_lt
  intro hc
  have : (s.take 12)[j]? = some 0 := by rw [List.getElem?_take, if_pos hc]; exact hj
  have := h.2.2 0 (List.mem_of_getElem? this)
  cases this
theorem okS_set {s : List UInt8} (h : okS s) {j : Nat} (hj : 12 ≤ j) {v : UInt8} (hv : v ≤ 2) : okS (s.set j v) := by
  refine ⟨by rw [List.length_set]; exact h.1, fun b hb => ?_, fun b hb => ?_⟩
  · rcases List.mem_or_eq_of_mem_set hb with hb | hb
    · exact h.2.1 b hb
    · subst hb; exact hv
  · rw [List.take_set_of_le hj] at hb; exact h.2.2 b hb
theorem PutAt.place {s : Store} {p : Ptr} {b : List UInt8} {t : Store} {q : Ptr} {j : Nat} (h : PutAt s p b t q j) : 12 ≤ j ∧ j < 256 := free_high h.ok.2.1 (freeFrom_some h.free).2.2
theorem PutAt.okt {s : Store} {p : Ptr} {b : List UInt8} {t : Store} {q : Ptr} {j : Nat} (h : PutAt s p b t q j) : OKSt t := by
  have hp := h.place
  rw [h.out]
  exact ⟨h.ok.1.write (at' := (j : Int)) ⟨by omega, by omega⟩ h.len h.room, okS_set h.ok.2.1 hp.1 (by decide), h.ok.2.2⟩
theorem PutAt.seen {s : Store} {p : Ptr} {b : List UInt8} {t : Store} {q : Ptr} {j : Nat} (h : PutAt s p b t q j) : seenB t.Disk = (seenB s.Disk).set j b := by
  rw [h.out]
  simp only [seenB, layW, List.foldl_append, List.foldl_cons, List.foldl_nil, Int.toNat_natCast]
theorem writeD_ok {d : Disk} (h : OKD d) {j : Nat} (hj : j < 256) {b : List UInt8} (hb : b.length = 256) : writeD d (j : Int) b = if d.Waits.length = 4096 then (noD, 9) else (⟨d.Blocks, d.Waits ++ [⟨(j : Int), b⟩]⟩, 0) := by
  unfold writeD
  rw [if_pos h, if_pos ⟨by omega, by omega⟩]
  by_cases c : d.Waits.length = 4096
  · simp [hb, c]
  · simp [hb, c]
theorem put_cases {s : Store} (h : OKSt s) (p : Ptr) {b : List UInt8} (hb : b.length = 256) :
    (store_put s p b = some (noS, noP, 9) ∧ (freeFrom s.Space 0 = none ∨ s.Disk.Waits.length = 4096)) ∨ (∃ t q j, store_put s p b = some (t, q, 0) ∧ PutAt s p b t q j) := by
  unfold store_put
  rw [space_Take_eq, Option.bind_some]
  unfold takeS
  rw [if_pos h.2.1]
  cases hf : freeFrom s.Space 0 with
  | none => exact .inl ⟨rfl, .inl rfl⟩
  | some j =>
    have hp := free_high h.2.1 (freeFrom_some hf).2.2
    dsimp only
    rw [zdec, cond_false, dev_Write_eq h.1.sized (inI64_of ⟨by omega, by omega⟩), Option.bind_some]
    rw [writeD_ok h.1 hp.2 hb]
    by_cases c : s.Disk.Waits.length = 4096
    · rw [if_pos c]; exact .inl ⟨rfl, .inr c⟩
    · rw [if_neg c]
      dsimp only
      rw [zdec, cond_false, mix_Sum_eq (by omega), Option.bind_some]
      exact .inr ⟨_, _, j, rfl, h, hb, hf, c, rfl, rfl⟩
theorem raw_cases {s : Store} (h : Sized s.Disk) (birth iv tag : UInt32) (b : List UInt8) :
    (∃ e, store_Raw s birth iv tag b = some (noS, noP, e) ∧ e ≠ 0 ∧ (OKSt s → birthOk birth → b.length = 256 → freeFrom s.Space 0 = none ∨ s.Disk.Waits.length = 4096)) ∨ (∃ t q j, store_Raw s birth iv tag b = some (t, q, 0) ∧ birthOk birth ∧ PutAt s ⟨0, birth, iv, tag, 0⟩ b t q j) := by
  unfold store_Raw
  rw [asked_core h birth 256 [b] (b.length = 256) (by rw [asked_loop1]; congr 1; by_cases c : b.length = 256 <;> simp [c] <;> omega), Option.bind_some]
  unfold askErr
  by_cases c1 : OKSt s
  · rw [if_pos c1]
    by_cases c2 : birthOk birth
    · rw [if_pos c2]
      by_cases c3 : b.length = 256
      · rw [if_pos c3, zdec, cond_false]
        rcases put_cases c1 ⟨0, birth, iv, tag, 0⟩ c3 with ⟨h1, h2⟩ | ⟨t, q, j, h1, h2⟩
        · rw [h1]; exact .inl ⟨9, rfl, by omega, fun _ _ _ => h2⟩
        · rw [h1]; exact .inr ⟨t, q, j, rfl, c2, h2⟩
      · rw [if_neg c3]; exact .inl ⟨3, rfl, by omega, fun _ _ h => absurd h c3⟩
    · rw [if_neg c2]; exact .inl ⟨2, rfl, by omega, fun _ h => absurd h c2⟩
  · rw [if_neg c1]; exact .inl ⟨8, rfl, by omega, fun h => absurd h c1⟩
theorem lay_raw (s : Store) (birth : UInt32) (b : List UInt8) : store_Lay s birth b = store_Raw s birth 0 0 b := by
  unfold store_Lay
  cases store_Raw s birth 0 0 b with
  | none => rfl
  | some r => rfl

/-! ### A block is sealed -/
def ivOf (s : Store) : UInt32 := (sl32 s.Epoch (((16 : UInt64).toNat : Int)).toNat) ||| (s.Count + (1 : UInt32))
def more (s : Store) : Store := ⟨s.Disk, s.Space, s.Epoch, s.Count + 1⟩
theorem seal_cases {s : Store} (h : Sized s.Disk) (birth : UInt32) (key b : List UInt8) :
    (∃ e, store_Seal s birth key b = some (noS, noP, e) ∧ e ≠ 0 ∧ (OKSt s → s.Count ≠ 65535 → birthOk birth → key.length = 16 → b.length = 256 → freeFrom s.Space 0 = none ∨ s.Disk.Waits.length = 4096)) ∨ (∃ t q j, store_Seal s birth key b = some (t, q, 0) ∧ OKSt s ∧ s.Count ≠ 65535 ∧ birthOk birth ∧ key.length = 16 ∧ b.length = 256 ∧ PutAt (more s) ⟨0, birth, ivOf s, sealT key (ivOf s) (turnB key (ivOf s) b), 0⟩ (turnB key (ivOf s) b) t q j) := by
  unfold store_Seal
  rw [asked_core h birth 16 [key, b] (key.length = 16 ∧ b.length = 256) (by rw [asked_loop2]; congr 1; by_cases c : key.length = 16 <;> by_cases c2 : b.length = 256 <;> simp [c, c2] <;> omega), Option.bind_some]
  unfold askErr
  by_cases c1 : OKSt s
  · rw [if_pos c1]
    by_cases c2 : birthOk birth
    · rw [if_pos c2]
      by_cases c3 : key.length = 16 ∧ b.length = 256
      · rw [if_pos c3, zdec, cond_false]
        by_cases c4 : s.Count = 65535
        · rw [decide_eq_true c4]; exact .inl ⟨132, rfl, by omega, fun _ h => absurd c4 h⟩
        · rw [decide_eq_false c4, cond_false, seal_Seal_eq c3.1 (by omega), Option.bind_some]
          dsimp only
          rw [zdec, cond_false]
          have hm : OKSt (more s) := by
            refine ⟨c1.1, c1.2.1, c1.2.2.1, c1.2.2.2.1, ?_⟩
            have := c1.2.2.2.2
            have c4' : s.Count.toNat ≠ 65535 := fun e => c4 (UInt32.toNat_inj.1 e)
            show s.Count + 1 ≤ 65535
            rw [UInt32.le_iff_toNat_le] at this ⊢
            rw [UInt32.toNat_add]
            have e1 : (65535 : UInt32).toNat = 65535 := rfl
            have e2 : (1 : UInt32).toNat = 1 := rfl
            omega
          rcases put_cases hm ⟨0, birth, ivOf s, sealT key (ivOf s) (turnB key (ivOf s) b), 0⟩ (b := turnB key (ivOf s) b) (by rw [turnB_length c3.1]; exact c3.2) with ⟨h1, h2⟩ | ⟨t, q, j, h1, h2⟩
          · refine .inl ⟨9, ?_, by omega, fun _ _ _ _ _ => h2⟩
            show Option.bind (store_put (more s) _ _) _ = _
            erw [h1]; rfl
          · refine .inr ⟨t, q, j, ?_, c1, c4, c2, c3.1, c3.2, h2⟩
            show Option.bind (store_put (more s) _ _) _ = _
            erw [h1]; rfl
      · rw [if_neg c3]; exact .inl ⟨3, rfl, by omega, fun _ _ _ h h' => absurd ⟨h, h'⟩ c3⟩
    · rw [if_neg c2]; exact .inl ⟨2, rfl, by omega, fun _ _ h => absurd h c2⟩
  · rw [if_neg c1]; exact .inl ⟨8, rfl, by omega, fun h => absurd h c1⟩

/-! ### A block is looked at, and opened -/
def lookS (s : Store) (p : Ptr) : List UInt8 × Int :=
  if OKSt s ∧ (isNone p ∨ okR p) then (if isNone p then ([], 6) else (if sumOf ((seenB s.Disk).getD p.At.toNat []) = p.Sum then ((seenB s.Disk).getD p.At.toNat [], 0) else ([], 130))) else ([], 8)
theorem seen_mem {d : Disk} (h : OKD d) {i : Nat} (hi : i < 256) : ((seenB d).getD i []).length = 256 := by
  have hl := seenB_length h
  rw [List.getD_eq_getElem?_getD, List.getElem?_eq_getElem (by omega), Option.getD_some]
  exact layW_all h.2.2.1 (fun w hw => okW_data (h.2.2.2 w hw)) _ (List.getElem_mem _)
theorem none_dec' (p : Ptr) : (decide (p.At = 0) && (decide (p.Birth = (0 : UInt32)) && (decide (p.Iv = (0 : UInt32)) && (decide (p.Tag = (0 : UInt32)) && (decide (p.Sum = (0 : UInt32)) && true))))) = decide (isNone p) := none_dec p
theorem store_Look_eq {s : Store} (h : Sized s.Disk) (p : Ptr) : store_Look s p = some (lookS s p) := by
  unfold store_Look lookS
  rw [store_Check_eq h, Option.bind_some]
  by_cases c1 : OKSt s
  · rw [if_pos c1, zdec, cond_false, ptr_Check_eq', Option.bind_some]
    by_cases c2 : isNone p ∨ okR p
    · rw [if_pos c2, zdec, cond_false, none_dec', if_pos ⟨c1, c2⟩]
      by_cases c3 : isNone p
      · rw [if_pos c3, decide_eq_true c3]; rfl
      · rw [if_neg c3, decide_eq_false c3, cond_false]
        have hr := c2.resolve_left c3
        obtain ⟨i, hi⟩ := Int.eq_ofNat_of_zero_le (show 0 ≤ p.At by have := hr.1; omega)
        have hi2 : i < 256 := by have := hr.2.1; omega
        have hl := seenB_length c1.1
        rw [show (Disk.mk s.Disk.Blocks s.Disk.Waits) = s.Disk from rfl, hi, dev_Read_eq c1.1 hi2, Option.bind_some]
        dsimp only
        have hm := seen_mem c1.1 hi2
        have e : (seenB s.Disk).getD i [] = (seenB s.Disk)[i]'(by omega) := by rw [List.getD_eq_getElem?_getD, List.getElem?_eq_getElem (by omega), Option.getD_some]
        rw [Int.toNat_natCast, e] 
        rw [e] at hm
        rw [show decide ((0 : Int) = 0) = true from rfl, cond_true, mix_Sum_eq (by omega), Option.bind_some]
        by_cases c4 : sumOf ((seenB s.Disk)[i]'(by omega)) = p.Sum
        · rw [if_pos c4, decide_eq_true c4]; rfl
        · rw [if_neg c4, decide_eq_false c4]; rfl
    · rw [if_neg c2, ndec (by omega), if_neg (fun h => c2 h.2)]; rfl
  · rw [if_neg c1, ndec (by omega), if_neg (fun h => c1 h.1)]; rfl
theorem lookS_ok {s : Store} {p : Ptr} (h : (lookS s p).2 = 0) : OKSt s ∧ ¬ isNone p ∧ okR p ∧ (lookS s p).1 = (seenB s.Disk).getD p.At.toNat [] ∧ sumOf ((seenB s.Disk).getD p.At.toNat []) = p.Sum := by
  unfold lookS at h ⊢
  by_cases c1 : OKSt s ∧ (isNone p ∨ okR p)
  · rw [if_pos c1] at h ⊢
    by_cases c2 : isNone p
    · rw [if_pos c2] at h; simp at h
    · rw [if_neg c2] at h ⊢
      by_cases c3 : sumOf ((seenB s.Disk).getD p.At.toNat []) = p.Sum
      · rw [if_pos c3]; exact ⟨c1.1, c2, c1.2.resolve_left c2, rfl, c3⟩
      · rw [if_neg c3] at h; simp at h
  · rw [if_neg c1] at h; simp at h
theorem lookS_is {s : Store} {p : Ptr} {b : List UInt8} (h1 : OKSt s) (h2 : ¬ isNone p) (h3 : okR p) (h4 : (seenB s.Disk).getD p.At.toNat [] = b) (h5 : sumOf b = p.Sum) : lookS s p = (b, 0) := by
  unfold lookS; rw [if_pos ⟨h1, .inr h3⟩, if_neg h2, h4, if_pos h5]
def openS (s : Store) (p : Ptr) (key : List UInt8) : List UInt8 × Int :=
  if (lookS s p).2 = 0 then (if key.length = 16 then (if sealT key p.Iv (lookS s p).1 = p.Tag then (turnB key p.Iv (lookS s p).1, 0) else ([], 131)) else ([], 3)) else ([], (lookS s p).2)
theorem store_Open_eq {s : Store} (h : Sized s.Disk) (p : Ptr) (key : List UInt8) : store_Open s p key = some (openS s p key) := by
  unfold store_Open openS
  rw [store_Look_eq h, Option.bind_some]
  by_cases c1 : (lookS s p).2 = 0
  · rw [if_pos c1, c1, zdec, cond_false]
    by_cases c2 : key.length = 16
    · rw [if_pos c2, show (!decide ((key.length : Int) = 16)) = false by rw [c2]; rfl, cond_false]
      obtain ⟨k1, k2, k3, k4, k5⟩ := lookS_ok c1
      have hm : ((lookS s p).1).length = 256 := by rw [k4]; exact seen_mem k1.1 (by have := k3.1; have := k3.2.1; omega)
      rw [seal_Open_eq c2 (by omega), Option.bind_some]
      by_cases c3 : sealT key p.Iv (lookS s p).1 = p.Tag
      · rw [if_pos c3]; rfl
      · rw [if_neg c3]; rfl
    · rw [if_neg c2, show (!decide ((key.length : Int) = 16)) = true by rw [decide_eq_false (by omega)]; rfl]; rfl
  · rw [if_neg c1, ndec c1]; rfl
end Go.Ow
