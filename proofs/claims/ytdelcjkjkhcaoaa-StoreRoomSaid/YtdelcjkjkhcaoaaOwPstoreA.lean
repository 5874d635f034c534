/-
  What is proved here: the disk in plain words: what may be, a twin, a write, what is seen.
-/
import Derived.Test.YtdelcjkjkhcaoaaOwPstoreq
import Derived.Test.YtdelcjkjkhcaoaaOwPG
import Derived.Test.YtdelcjkjkhcaoaaOwZ
namespace Go.Ow
set_option linter.unusedVariables false
set_option linter.unusedSimpArgs false

def okW (w : Write) : Bool := decide (0 ≤ w.At ∧ w.At < 256) && decide (w.Data.length = 256)
def OKD (d : Disk) : Prop := d.Blocks.length = 256 ∧ d.Waits.length ≤ 4096 ∧ (∀ b ∈ d.Blocks, b.length = 256) ∧ ∀ w ∈ d.Waits, okW w = true
instance (d : Disk) : Decidable (OKD d) := by unfold OKD; infer_instance
/-- no disk is larger than the machine's numbers -/
structure Sized (d : Disk) : Prop where
  blocks : d.Blocks.length ≤ 9223372036854775807
  waits : d.Waits.length ≤ 9223372036854775807
  at' : ∀ w ∈ d.Waits, InI64 w.At

theorem dev_place_eq {n : Int} (h : InI64 n) : dev_place n = some (decide (0 ≤ n ∧ n < 256)) := by
  unfold dev_place u64i
  congr 1
  apply decide_eq_decide.2
  rw [UInt64.lt_iff_toNat_lt, UInt64.toNat_ofNat']
  obtain ⟨h1, h2⟩ := h
  show _ % 18446744073709551616 < (256 : UInt64).toNat ↔ _
  rw [show (256 : UInt64).toNat = 256 from rfl]
  omega
theorem small_lt {n : Nat} (h : n ≤ 9223372036854775807) : n < FUEL := Nat.lt_of_le_of_lt h (by decide)

theorem check_l1 (d : Disk) (ok : Bool) (h : d.Blocks.length ≤ 9223372036854775807) : loop (dev_Check_l1 d) (ok, 0) = some (ok && d.Blocks.all fun b => decide (b.length = 256)) := by
  rw [loop_each' d.Blocks (fun i (r : Bool) => (r, i)) (fun b r => some (.inl (r && decide (b.length = 256)))) (fun r => r) (fun i hi r => ?_) (fun r => ?_) (small_lt h) ok, forL_map]
  · show some _ = some _
    congr 1
    generalize d.Blocks = l
    induction l generalizing ok with
    | nil => simp
    | cons b l ih => simp only [List.foldl_cons, ih, List.all_cons, Bool.and_assoc]
  · unfold dev_Check_l1
    rw [cI, if_pos hi, idx_nat _ hi]
    cases r
    · rfl
    · simp only [cond_true, Option.bind_some, goesOn, Bool.true_and]
      rw [show decide ((d.Blocks[i].length : Int) = 256) = decide (d.Blocks[i].length = 256) from decide_eq_decide.2 (by omega)]
  · unfold dev_Check_l1
    rw [cI, if_neg (by omega)]
theorem check_l2 (d : Disk) (ok : Bool) (h : Sized d) : loop (dev_Check_l2 d) (ok, 0) = some (ok && d.Waits.all okW) := by
  rw [loop_each' d.Waits (fun i (r : Bool) => (r, i)) (fun w r => some (.inl (r && (okW w)))) (fun r => r) (fun i hi r => ?_) (fun r => ?_) (small_lt h.waits) ok, forL_map]
  · show some _ = some _
    congr 1
    generalize d.Waits = l
    induction l generalizing ok with
    | nil => simp
    | cons b l ih => simp only [List.foldl_cons, ih, List.all_cons, Bool.and_assoc]
  · unfold dev_Check_l2
    rw [cI, if_pos hi, idx_nat _ hi]
    cases r
    · rfl
    · simp only [cond_true, Option.bind_some, goesOn, Bool.true_and]
      rw [dev_place_eq (h.at' _ (List.getElem_mem hi))]
      unfold okW
      by_cases c : 0 ≤ d.Waits[i].At ∧ d.Waits[i].At < 256
      · rw [decide_eq_true c]
        simp only [Option.bind_some, cond_true, Bool.true_and]
        rw [show decide ((d.Waits[i].Data.length : Int) = 256) = decide (d.Waits[i].Data.length = 256) from decide_eq_decide.2 (by omega)]
      · rw [decide_eq_false c]
        rfl
  · unfold dev_Check_l2
    rw [cI, if_neg (by omega)]
theorem dev_Check_eq {d : Disk} (h : Sized d) : dev_Check d = some (if OKD d then 0 else 8) := by
  unfold dev_Check
  rw [show (bif decide ((d.Blocks.length : Int) = 256) then some (decide ((d.Waits.length : Int) ≤ 4096)) else some false) = some (decide (d.Blocks.length = 256) && decide (d.Waits.length ≤ 4096)) from by
    by_cases c : d.Blocks.length = 256
    · rw [decide_eq_true (show (d.Blocks.length : Int) = 256 by omega), decide_eq_true c]
      simp only [cond_true, Bool.true_and]
      congr 1
      simp only [decide_eq_decide]; omega
    · rw [decide_eq_false (show ¬ (d.Blocks.length : Int) = 256 by omega), decide_eq_false c]; rfl]
  simp only [Option.bind_some]
  rw [check_l1 d _ h.blocks]
  simp only [Option.bind_some]
  rw [check_l2 d _ h]
  simp only [Option.bind_some]
  by_cases c : OKD d
  · rw [if_pos c]
    obtain ⟨c1, c2, c3, c4⟩ := c
    rw [show (decide (d.Blocks.length = 256) && decide (d.Waits.length ≤ 4096) && (d.Blocks.all fun b => decide (b.length = 256)) && d.Waits.all okW) = true from by
      simp only [Bool.and_eq_true, decide_eq_true_eq, List.all_eq_true]; exact ⟨⟨⟨c1, c2⟩, c3⟩, c4⟩]
    rfl
  · rw [if_neg c]
    rw [show (decide (d.Blocks.length = 256) && decide (d.Waits.length ≤ 4096) && (d.Blocks.all fun b => decide (b.length = 256)) && d.Waits.all okW) = false from by
      rw [Bool.eq_false_iff]; intro e
      simp only [Bool.and_eq_true, decide_eq_true_eq, List.all_eq_true] at e
      exact c ⟨e.1.1.1, e.1.1.2, e.1.2, e.2⟩]
    rfl

/-! ### A twin -/
structure Mid (d : Disk) : Prop where
  blocks : d.Blocks.length ≤ 1000
  waits : d.Waits.length ≤ 5000
  eb : ∀ b ∈ d.Blocks, b.length ≤ 1000
  ew : ∀ w ∈ d.Waits, w.Data.length ≤ 1000
theorem OKD.mid {d : Disk} (h : OKD d) : Mid d := ⟨by rw [h.1]; omega, by have := h.2.1; omega, fun b hb => by rw [h.2.2.1 b hb]; omega, fun w hw => by
  have := h.2.2.2 w hw
  simp only [okW, Bool.and_eq_true, decide_eq_true_eq] at this
  omega⟩
theorem OKD.sized {d : Disk} (h : OKD d) : Sized d := ⟨by rw [h.1]; omega, by have := h.2.1; omega, fun w hw => by
  have := h.2.2.2 w hw
  simp only [okW, Bool.and_eq_true, decide_eq_true_eq] at this
  exact ⟨by omega, by omega⟩⟩
theorem sum_le_mul {l : List Nat} {k : Nat} (h : ∀ x ∈ l, x ≤ k) : l.sum ≤ l.length * k := by
  induction l with
  | nil => simp
  | cons x l ih =>
    have := h x (by simp); have := ih (fun y hy => h y (by simp [hy]))
    simp only [List.sum_cons, List.length_cons, Nat.add_mul, Nat.one_mul]; omega
theorem twin_l1 (d : Disk) (h : d.Blocks.length ≤ 1000) : loop (dev_Twin_l1 d) (([] : List Int), 0) = some (d.Blocks.map fun b => (b.length : Int)) := by
  rw [loop_each d.Blocks (fun i (r : List Int) => (r, i)) (fun b r => some (.inl (r ++ [(b.length : Int)]))) (fun r => r) (fun i r => r.length = i) (fun i hi r hr => ?_) (fun i hi r r' hr e => ?_) (fun r _ => ?_) (small_lt (by omega)) rfl, forL_map]
  · show some _ = some _
    congr 1
    suffices H : ∀ (l : List (List UInt8)) (a : List Int), l.foldl (fun r b => r ++ [(b.length : Int)]) a = a ++ l.map fun b => (b.length : Int) by simpa using H d.Blocks []
    intro l
    induction l with
    | nil => simp
    | cons b l ih => intro a; simp [ih]
  · unfold dev_Twin_l1
    rw [cI, if_pos hi, idx_nat _ hi, app_eq (by simp only [List.length_cons, List.length_nil, LIM]; omega)]
    rfl
  · simp only [Option.some.injEq, Sum.inl.injEq] at e; subst e; simp [hr]
  · unfold dev_Twin_l1
    rw [cI, if_neg (by omega)]
theorem dev_cut_eq (bs : List (List UInt8)) (h : bs.length ≤ 1000) (hb : ∀ b ∈ bs, b.length ≤ 1000) : dev_cut (bs.map fun b => (b.length : Int)) = some (bs.map fun b => List.replicate b.length 0) := by
  unfold dev_cut
  have e1 : (bs.map fun b => (b.length : Int)).map Int.toNat = bs.map List.length := by rw [List.map_map]; rfl
  have e2 := sum_le_mul (l := bs.map List.length) (k := 1000) (fun x hx => by obtain ⟨b, h1, rfl⟩ := List.mem_map.1 hx; exact hb b h1)
  rw [List.length_map] at e2
  rw [if_pos ⟨fun n hn => by obtain ⟨b, _, rfl⟩ := List.mem_map.1 hn; omega, by rw [e1]; simp only [LIM]; omega, by simp only [List.length_map, LIM]; omega⟩, List.map_map]
  rfl
theorem twin_l2 (d : Disk) (h : d.Blocks.length ≤ 1000) : loop (dev_Twin_l2 d) (d.Blocks.map (fun b => List.replicate b.length (0 : UInt8)), 0) = some d.Blocks := by
  obtain ⟨t, h1, h2⟩ := loop_rule (body := dev_Twin_l2 d) (fun s => s.2 ≤ d.Blocks.length ∧ s.1 = d.Blocks.take s.2 ++ (d.Blocks.drop s.2).map (fun b => List.replicate b.length (0 : UInt8))) (fun s => d.Blocks.length - s.2) (fun t => t = d.Blocks) (by
    rintro ⟨r, i⟩ ⟨hi, hr⟩
    simp only at hi hr
    subst hr
    unfold dev_Twin_l2
    dsimp only
    rw [cI]
    rcases Nat.lt_or_ge i d.Blocks.length with hlt | hge
    · left
      have hl : (d.Blocks.take i ++ (d.Blocks.drop i).map (fun b => List.replicate b.length (0 : UInt8))).length = d.Blocks.length := by simp; omega
      have hg : (d.Blocks.take i ++ (d.Blocks.drop i).map (fun b => List.replicate b.length (0 : UInt8)))[i]'(by omega) = List.replicate d.Blocks[i].length 0 := by
        rw [List.getElem_append_right (by simp; omega)]
        simp [Nat.min_eq_left (Nat.le_of_lt hlt)]
      rw [if_pos hlt, idx_nat _ hlt, idx_nat _ (by omega), chk_eq (by rw [hg]; simp), setI_eq (by omega) (by simpa using (by omega : i < (d.Blocks.take i ++ (d.Blocks.drop i).map (fun b => List.replicate b.length (0 : UInt8))).length))]
      refine ⟨_, rfl, ⟨hlt, ?_⟩, by simp only; omega⟩
      simp only [Int.toNat_natCast]
      rw [List.set_append_right _ _ (by simp only [List.length_take]; omega), List.drop_eq_getElem_cons hlt]
      simp only [List.map_cons, List.length_take, Nat.min_eq_left (Nat.le_of_lt hlt), Nat.sub_self, List.set_cons_zero]
      rw [List.take_add_one, List.getElem?_eq_getElem hlt]
      simp only [Option.toList_some, List.append_assoc, List.singleton_append]
    · right
      rw [if_neg (by omega)]
      refine ⟨_, rfl, ?_⟩
      rw [List.take_of_length_le hge, List.drop_of_length_le hge]; simp) (s := (d.Blocks.map (fun b => List.replicate b.length (0 : UInt8)), 0)) ⟨Nat.zero_le _, by simp⟩ (small_lt (by simp only; omega))
  rw [h1, h2]
theorem bytes_Clone_eq {l : List UInt8} (h : l.length ≤ 1000) : bytes_Clone l = some l := by
  unfold bytes_Clone; rw [app_eq (by simp only [List.length_nil, LIM]; omega)]; rfl
theorem twin_l3 (d : Disk) (h : d.Waits.length ≤ 5000) (hw : ∀ w ∈ d.Waits, w.Data.length ≤ 1000) : loop (dev_Twin_l3 d) (([] : List Write), 0) = some d.Waits := by
  rw [loop_each d.Waits (fun i (r : List Write) => (r, i)) (fun b r => some (.inl (r ++ [b]))) (fun r => r) (fun i r => r.length = i) (fun i hi r hr => ?_) (fun i hi r r' hr e => ?_) (fun r _ => ?_) (small_lt (by omega)) rfl, forL_map]
  · show some _ = some _
    congr 1
    suffices H : ∀ (l : List Write) (a : List Write), l.foldl (fun r b => r ++ [b]) a = a ++ l by simpa using H d.Waits []
    intro l
    induction l with
    | nil => simp
    | cons b l ih => intro a; simp [ih]
  · unfold dev_Twin_l3
    rw [cI, if_pos hi, idx_nat _ hi, bytes_Clone_eq (hw _ (List.getElem_mem hi))]
    simp only [Option.bind_some]
    rw [app_eq (by simp only [List.length_cons, List.length_nil, LIM]; omega)]
    rfl
  · simp only [Option.some.injEq, Sum.inl.injEq] at e; subst e; simp [hr]
  · unfold dev_Twin_l3
    rw [cI, if_neg (by omega)]
theorem dev_Twin_eq {d : Disk} (h : Mid d) : dev_Twin d = some d := by
  unfold dev_Twin
  rw [twin_l1 d h.blocks]
  simp only [Option.bind_some]
  rw [dev_cut_eq _ h.blocks h.eb]
  simp only [Option.bind_some]
  rw [twin_l2 d h.blocks]
  simp only [Option.bind_some]
  rw [twin_l3 d h.waits h.ew]
  rfl
end Go.Ow
