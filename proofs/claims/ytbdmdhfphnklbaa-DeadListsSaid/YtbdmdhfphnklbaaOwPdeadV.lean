/-
  What is proved here: the document's answers on dead lists are those of the program: plain lists alone.
-/
import Derived.Test.YtbdmdhfphnklbaaOwPG
import Derived.Test.YtbdmdhfphnklbaaOwPdeadU
namespace Go.Ow
set_option linter.unusedVariables false
set_option linter.unusedSimpArgs false

theorem ref16_one_eq (p : Ptr) : ref16_one p = some (okP p) := by
  unfold ref16_one ref10_May ref10_None okP
  simp only [Option.bind_some]
  cases hz : (decide (p.At = 0) && (decide (p.Birth = (0 : UInt32)) && (decide (p.Iv = (0 : UInt32)) && (decide (p.Tag = (0 : UInt32)) && (decide (p.Sum = (0 : UInt32)) && true))))) with
  | true =>
    simp only [Bool.and_eq_true, decide_eq_true_eq] at hz
    simp [hz.1]
  | false =>
    simp only [cond_false]
    by_cases h1 : 12 ≤ p.At
    · by_cases h2 : p.At < 256
      · by_cases h3 : (1 : UInt32) ≤ p.Birth
        · by_cases h4 : p.Birth ≤ (16777215 : UInt32) <;> simp [h1, h2, h3, h4]
        · simp [h1, h2, h3]
      · simp [h1, h2]
    · simp [h1]

open Classical in
theorem ref16_May_eq (l : List Ptr) : ref16_May l = some (decide (Valid l)) := by
  unfold ref16_May
  by_cases hl : 240 < l.length
  · rw [decide_eq_true (show (240 : Int) < l.length by omega), cond_true, decide_eq_false (fun h => by have := h.1; omega)]
  · rw [decide_eq_false (show ¬ (240 : Int) < l.length by omega), cond_false]
    obtain ⟨t, ht, hR⟩ := loop_rule (body := ref16_May_l1 l) (fun s => s ≤ l.length ∧ ∀ i p, i < s → l[i]? = some p → okP p = true ∧ ∀ q, 0 < i → l[i - 1]? = some q → q.At < p.At) (fun s => l.length - s)
      (fun t => match t with | .inl _ => Valid l | .inr _ => ¬ Valid l) (by
        rintro s ⟨hs, hI⟩
        unfold ref16_May_l1
        by_cases hlt : s < l.length
        · rw [decide_eq_true (show ((s : Nat) : Int) < (l.length : Int) by omega), cond_true, idx_nat _ hlt, ref16_one_eq, Option.bind_some, idx_nat _ hlt]
          have hp : l[s]? = some l[s] := List.getElem?_eq_getElem hlt
          generalize l[s] = y at hp
          have bad : okP y = false → ¬ Valid l := fun h hv => by
            have := (hv.2 s y hp).1; rw [h] at this; cases this
          cases ho : okP y with
          | false => exact .inr ⟨.inr (), rfl, bad ho⟩
          | true =>
            simp only [Bool.not_true, cond_false]
            by_cases h0 : 0 < s
            · have hw : w64 (((s : Nat) : Int) - 1) = ((s - 1 : Nat) : Int) := by rw [w64_of (by omega) (by omega)]; omega
              rw [decide_eq_true (show (0 : Int) < ((s : Nat) : Int) by omega), cond_true, hw, idx_nat _ (by omega : s - 1 < l.length)]
              have hq : l[s - 1]? = some l[s - 1] := List.getElem?_eq_getElem (by omega)
              generalize l[s - 1] = q at hq
              by_cases hc : q.At < y.At
              · left
                rw [decide_eq_false (show ¬ y.At ≤ q.At by omega), cond_false]
                refine ⟨_, rfl, ⟨hlt, fun i p hi hip => ?_⟩, by omega⟩
                by_cases his : i < s
                · exact hI i p his hip
                · obtain rfl : i = s := by omega
                  rw [hp] at hip; cases hip
                  exact ⟨ho, fun q' _ hq' => by rw [hq] at hq'; cases hq'; exact hc⟩
              · right
                rw [decide_eq_true (show y.At ≤ q.At by omega), cond_true]
                exact ⟨_, rfl, fun hv => hc ((hv.2 s y hp).2 q h0 hq)⟩
            · left
              rw [decide_eq_false (show ¬ (0 : Int) < ((s : Nat) : Int) by omega), cond_false]
              refine ⟨_, rfl, ⟨hlt, fun i p hi hip => ?_⟩, by omega⟩
              obtain rfl : i = s := by omega
              rw [hp] at hip; cases hip
              exact ⟨ho, fun q hi0 => absurd hi0 h0⟩
        · right
          rw [decide_eq_false (show ¬ ((s : Nat) : Int) < (l.length : Int) by omega), cond_false]
          exact ⟨_, rfl, ⟨by omega, fun i p hip => hI i p (by have := (List.getElem?_eq_some_iff.1 hip).1; omega) hip⟩⟩)
      (s := 0) ⟨Nat.zero_le _, fun i p h => absurd h (by omega)⟩ (lt_fuel (m := 240) (by omega) rfl)
    rw [ht]
    cases t with
    | inl u => rw [decide_eq_true (show Valid l from hR)]; rfl
    | inr u => rw [decide_eq_false (show ¬ Valid l from hR)]; rfl

theorem ref16_Has_eq (l : List Ptr) (at' : Int) (hl : l.length ≤ 1000) : ref16_Has l at' = some (l.any fun q => decide (q.At = at')) := by
  unfold ref16_Has
  rw [show (0 : Nat) = (fun (i : Nat) (_ : Unit) => i) 0 () from rfl,
    loop_each' l (fun i (_ : Unit) => i) (fun y (_ : Unit) => if !decide (y.At = at') then some (.inl ()) else some (.inr (.inr ()))) (fun _ => .inl ()) (fun i h r => by
      show ref16_Has_l1 l at' i = _
      unfold ref16_Has_l1
      rw [cI, if_pos h, idx_nat _ h]
      cases decide (l[i].At = at') <;> rfl) (fun r => by
      show ref16_Has_l1 l at' l.length = _
      unfold ref16_Has_l1
      rw [cI, if_neg (Nat.lt_irrefl _)]) (lt_fuel hl rfl) (), forL_all]
  have e : l.all (fun y => !decide (y.At = at')) = !(l.any fun q => decide (q.At = at')) := by rw [List.not_any_eq_all_not]
  rw [e]
  cases l.any (fun q => decide (q.At = at')) <;> rfl

/-- one that is put in its place -/
def ins (p : Ptr) : List Ptr → List Ptr
  | [] => [p]
  | y :: r => if p.At < y.At then p :: y :: r else y :: ins p r
theorem ins_perm (p : Ptr) : ∀ (l : List Ptr), (ins p l).Perm (l ++ [p])
  | [] => List.Perm.refl _
  | y :: r => by
    unfold ins
    split
    · exact (List.perm_append_comm (l₁ := y :: r) (l₂ := [p])).symm
    · exact List.Perm.cons y (ins_perm p r)
theorem ins_sorted {p : Ptr} : ∀ {l : List Ptr}, l.Pairwise (fun p q => p.At < q.At) → (∀ q ∈ l, q.At ≠ p.At) → (ins p l).Pairwise (fun p q => p.At < q.At)
  | [], _, _ => by simp [ins]
  | y :: r, h, hn => by
    have h2 := List.pairwise_cons.1 h
    unfold ins
    split
    · rename_i hlt
      refine List.pairwise_cons.2 ⟨fun q hq => ?_, h⟩
      rcases List.mem_cons.1 hq with rfl | hq
      · exact hlt
      · have := h2.1 q hq; omega
    · rename_i hlt
      have hy := hn y (by simp)
      refine List.pairwise_cons.2 ⟨fun q hq => ?_, ins_sorted h2.2 (fun q hq => hn q (by simp [hq]))⟩
      rcases List.mem_append.1 ((ins_perm p r).subset hq) with hq | hq
      · exact h2.1 q hq
      · simp at hq; subst hq; omega
theorem ins_length (p : Ptr) (l : List Ptr) : (ins p l).length = l.length + 1 := by rw [(ins_perm p l).length_eq]; simp

def withF (p : Ptr) (y : Ptr) (s : List Ptr × Bool) : List Ptr × Bool := if s.2 = false ∧ p.At < y.At then (s.1 ++ [p] ++ [y], true) else (s.1 ++ [y], s.2)
theorem with_fold (p : Ptr) : ∀ (l : List Ptr) (a : List Ptr), (let s := l.foldl (fun s y => withF p y s) (a, false); if s.2 then s.1 else s.1 ++ [p]) = a ++ ins p l ∧
    (l.foldl (fun s y => withF p y s) (a, true)) = (a ++ l, true)
  | [], a => ⟨by simp [ins], by simp⟩
  | y :: r, a => by
    have h2 : (y :: r).foldl (fun s y => withF p y s) (a, true) = (a ++ y :: r, true) := by
      rw [List.foldl_cons, show withF p y (a, true) = (a ++ [y], true) by simp [withF], (with_fold p r (a ++ [y])).2]; simp
    refine ⟨?_, h2⟩
    rw [List.foldl_cons]
    by_cases hlt : p.At < y.At
    · rw [show withF p y (a, false) = (a ++ [p] ++ [y], true) by simp [withF, hlt], (with_fold p r (a ++ [p] ++ [y])).2]
      simp [ins, hlt]
    · rw [show withF p y (a, false) = (a ++ [y], false) by simp [withF, hlt], (with_fold p r (a ++ [y])).1]
      simp [ins, hlt]
theorem with_len (p : Ptr) (y : Ptr) (s : List Ptr × Bool) : (withF p y s).1.length ≤ s.1.length + 2 := by
  unfold withF; split <;> simp
theorem ref16_With_eq (l : List Ptr) (p : Ptr) (hl : l.length ≤ 1000) : ref16_With l p = some (ins p l) := by
  unfold ref16_With
  have hloop := loop_each l (fun i (r : List Ptr × Bool) => (r.1, r.2, i)) (body := ref16_With_l1 l p) (fun y r => some (.inl (withF p y r))) (fun r => r) (fun i r => r.1.length ≤ 2 * i) (fun i h r hI => by
      obtain ⟨a, b⟩ := r
      dsimp only at hI
      have hLIM : LIM = 1099511627776 := rfl
      unfold ref16_With_l1
      dsimp only
      rw [cI, if_pos h]
      cases b with
      | true =>
        rw [Bool.not_true, cond_false, Option.bind_some, idx_nat _ h, app_eq (by simp only [List.length_cons, List.length_nil]; omega)]
        simp [withF, goesOn]
      | false =>
        rw [Bool.not_false, cond_true, idx_nat _ h]
        by_cases hlt : p.At < l[i].At
        · rw [decide_eq_true hlt, cond_true, app_eq (by simp only [List.length_cons, List.length_nil]; omega), Option.bind_some, idx_nat _ h, app_eq (by simp only [List.length_append, List.length_cons, List.length_nil]; omega)]
          simp [withF, goesOn, hlt]
        · rw [decide_eq_false hlt, cond_false, Option.bind_some, idx_nat _ h, app_eq (by simp only [List.length_cons, List.length_nil]; omega)]
          simp [withF, goesOn, hlt]) (fun i h r r' hI hf => by
      obtain rfl : withF p l[i] r = r' := by simpa using hf
      have := with_len p l[i] r
      omega) (fun r hI => by
      unfold ref16_With_l1
      dsimp only
      rw [cI, if_neg (Nat.lt_irrefl _)]) (lt_fuel hl rfl) (r0 := (([] : List Ptr), false)) (by simp)
  dsimp only at hloop
  rw [hloop, forL_map, Option.bind_some]
  have hw := (with_fold p l []).1
  dsimp only at hw
  have hlen : (l.foldl (fun s y => withF p y s) (([] : List Ptr), false)).1.length ≤ 2 * l.length := by
    have key : ∀ (l : List Ptr) (s : List Ptr × Bool), (l.foldl (fun s y => withF p y s) s).1.length ≤ s.1.length + 2 * l.length := by
      intro l
      induction l with
      | nil => intro s; simp
      | cons y r ih => intro s; rw [List.foldl_cons]; have := ih (withF p y s); have := with_len p y s; simp only [List.length_cons]; omega
    simpa using key l ([], false)
  generalize l.foldl (fun s y => withF p y s) (([] : List Ptr), false) = s at hw hlen
  obtain ⟨a, b⟩ := s
  have hLIM : LIM = 1099511627776 := rfl
  show Option.bind (some (a, b)) _ = _
  rw [Option.bind_some]
  dsimp only at hw hlen ⊢
  cases b with
  | true => simpa using hw
  | false =>
    rw [Bool.not_false, cond_true, app_eq (by simp only [List.length_cons, List.length_nil]; omega)]
    simpa using hw

theorem sortP_ins {l : List Ptr} {p : Ptr} (hl : l.Pairwise (fun p q => p.At < q.At)) (hn : ∀ q ∈ l, q.At ≠ p.At) : sortP (l ++ [p]) = ins p l := by
  have hs := ins_sorted hl hn
  have hp := ins_perm p l
  rw [← sortP_unique hp (ND.of_pairwise hs), sortP_self hs]
theorem ND_one {l : List Ptr} {p : Ptr} (hl : l.Pairwise (fun p q => p.At < q.At)) : ND (l ++ [p]) ↔ ∀ q ∈ l, q.At ≠ p.At := by
  unfold ND
  rw [List.map_append, List.nodup_append]
  constructor
  · rintro ⟨_, _, h⟩ q hq e
    exact h q.At (List.mem_map_of_mem hq) p.At (by simp) e
  · intro h
    refine ⟨ND.of_pairwise hl, by simp, fun a ha b hb => ?_⟩
    obtain ⟨q, hq, rfl⟩ := List.mem_map.1 ha
    simp at hb; subst hb
    exact h q hq
theorem any_iff {l : List Ptr} {a : Int} : (l.any fun q => decide (q.At = a)) = false ↔ ∀ q ∈ l, q.At ≠ a := by
  simp [List.any_eq_false]

open Classical in
theorem add_same (l : List Ptr) (p : Ptr) (hl : l.length ≤ 1000) : ref16_Add l p = dead_Add l p := by
  unfold ref16_Add
  rw [ref16_May_eq, Option.bind_some, dead_Add_eq]
  by_cases hv : Valid l
  · rw [decide_eq_true hv, Bool.not_true, cond_false, ref16_one_eq, Option.bind_some]
    cases ho : okP p with
    | false => rfl
    | true =>
      rw [Bool.not_true, cond_false, if_pos rfl, ref16_Has_eq l p.At hl, Option.bind_some]
      cases ha : (l.any fun q => decide (q.At = p.At)) with
      | true =>
        rw [cond_true]
        have hn : ¬ ND (l ++ [p]) := fun h => by
          rw [any_iff.2 ((ND_one hv.pairwise).1 h)] at ha; cases ha
        unfold J
        rw [if_pos ⟨hv, valid_one.2 ho⟩, if_neg hn]
      | false =>
        have hn := any_iff.1 ha
        rw [cond_false]
        unfold J
        rw [if_pos ⟨hv, valid_one.2 ho⟩, if_pos ((ND_one hv.pairwise).2 hn)]
        by_cases h2 : 240 ≤ l.length
        · rw [decide_eq_true (show (240 : Int) ≤ (l.length : Int) by omega), cond_true, if_neg (by simp; omega)]
        · rw [decide_eq_false (show ¬ (240 : Int) ≤ (l.length : Int) by omega), cond_false, ref16_With_eq l p hl, if_pos (by simp; omega), sortP_ins hv.pairwise hn]
          rfl
  · rw [decide_eq_false hv]
    cases ho : okP p with
    | false => rfl
    | true =>
      unfold J
      rw [if_pos rfl, if_neg (fun h => hv h.1)]
      rfl

/-- Join of the document -/
theorem fold_ins {a : List Ptr} : ∀ (b : List Ptr) (c : List Ptr), ND (c ++ b) → c.Pairwise (fun p q => p.At < q.At) → (b.foldl (fun s y => ins y s) c).Perm (c ++ b) ∧ (b.foldl (fun s y => ins y s) c).Pairwise (fun p q => p.At < q.At)
  | [], c, _, h => ⟨by simp, h⟩
  | y :: b, c, hn, h => by
    have hp : (ins y c ++ b).Perm (c ++ y :: b) := by
      refine ((ins_perm y c).append_right b).trans ?_
      simp
    have hc : ∀ q ∈ c, q.At ≠ y.At := fun q hq e => by
      unfold ND at hn
      rw [List.map_append, List.nodup_append] at hn
      exact hn.2.2 q.At (List.mem_map_of_mem hq) y.At (by simp) e
    obtain ⟨h1, h2⟩ := fold_ins (a := a) b (ins y c) ((ND.perm hp).2 hn) (ins_sorted h hc)
    exact ⟨h1.trans hp, h2⟩
theorem fold_ins_len : ∀ (b : List Ptr) (c : List Ptr), (b.foldl (fun s y => ins y s) c).length = c.length + b.length
  | [], c => by simp
  | y :: b, c => by rw [List.foldl_cons, fold_ins_len b, ins_length]; simp; omega
theorem forL_join (a : List Ptr) : ∀ (b : List Ptr) (c : List Ptr),
    forL (fun y s => if !(a.any fun q => decide (q.At = y.At)) then some (.inl (ins y s)) else some (.inr (.inr () : List Ptr ⊕ Unit))) b c = if b.all (fun y => !(a.any fun q => decide (q.At = y.At))) then some (.inl (b.foldl (fun s y => ins y s) c)) else some (.inr (.inr ()))
  | [], c => rfl
  | y :: b, c => by
    cases h : (a.any fun q => decide (q.At = y.At)) with
    | true => rw [forL_stop (e := .inr ()) (by rw [h]; rfl)]; simp [h]
    | false => rw [forL_cons (s' := ins y c) (by rw [h]; rfl), forL_join a b (ins y c)]; simp [h]
open Classical in
theorem join_same (a b : List Ptr) (ha : a.length ≤ 1000) (hb : b.length ≤ 1000) : ref16_Join a b = dead_Join a b := by
  rw [join_eq]
  unfold ref16_Join
  rw [ref16_May_eq, Option.bind_some]
  by_cases va : Valid a
  · rw [decide_eq_true va, Bool.not_true, cond_false, ref16_May_eq, Option.bind_some]
    by_cases vb : Valid b
    · have hLIM : LIM = 1099511627776 := rfl
      rw [decide_eq_true vb, Bool.not_true, cond_false, app_eq (by simp only [List.length_nil]; omega), List.nil_append]
      have hloop := loop_each b (fun i (r : List Ptr) => (r, i)) (body := ref16_Join_l1 a b) (fun y s => if !(a.any fun q => decide (q.At = y.At)) then some (.inl (ins y s)) else some (.inr (.inr () : List Ptr ⊕ Unit))) (fun r => .inl r) (fun i r => r.length ≤ 240 + i) (fun i h r hI => by
        unfold ref16_Join_l1
        dsimp only
        rw [cI, if_pos h, idx_nat _ h, ref16_Has_eq a _ ha, Option.bind_some]
        cases (a.any fun q => decide (q.At = b[i].At)) with
        | true => rfl
        | false =>
          rw [cond_false, idx_nat _ h, ref16_With_eq r _ (by have := vb.1; omega), Option.bind_some]
          rfl) (fun i h r r' hI hf => by
        cases hh : (a.any fun q => decide (q.At = b[i].At)) with
        | true => rw [hh] at hf; simp at hf
        | false =>
          rw [hh] at hf
          obtain rfl : ins b[i] r = r' := by simpa using hf
          rw [ins_length]; omega) (fun r hI => by
        unfold ref16_Join_l1
        dsimp only
        rw [cI, if_neg (Nat.lt_irrefl _)]) (lt_fuel hb rfl) (r0 := a) (by have := va.1; omega)
      rw [hloop, forL_join]
      have hnd : (b.all fun y => !(a.any fun q => decide (q.At = y.At))) = true ↔ ND (a ++ b) := by
        unfold ND
        rw [List.map_append, List.nodup_append, List.all_eq_true]
        constructor
        · intro h
          refine ⟨ND.of_pairwise va.pairwise, ND.of_pairwise vb.pairwise, fun x hx y hy => ?_⟩
          obtain ⟨p, hp, rfl⟩ := List.mem_map.1 hx
          obtain ⟨q, hq, rfl⟩ := List.mem_map.1 hy
          have := h q hq
          rw [Bool.not_eq_true', any_iff] at this
          exact this p hp
        · rintro ⟨_, _, h⟩ q hq
          rw [Bool.not_eq_true', any_iff]
          exact fun p hp => h p.At (List.mem_map_of_mem hp) q.At (List.mem_map_of_mem hq)
      unfold J
      rw [if_pos (show Valid a ∧ Valid b from ⟨va, vb⟩)]
      by_cases hn : ND (a ++ b)
      · rw [if_pos (hnd.2 hn), if_pos hn]
        obtain ⟨h1, h2⟩ := fold_ins (a := a) b a hn va.pairwise
        have hs : sortP (a ++ b) = b.foldl (fun s y => ins y s) a := by rw [← sortP_unique h1 (ND.of_pairwise h2), sortP_self h2]
        have hlen := h1.length_eq
        rw [hs]
        generalize b.foldl (fun s y => ins y s) a = c at hlen
        show Option.bind (some (Sum.inl c)) _ = _
        rw [Option.bind_some, Sum.elim_inl]
        by_cases h240 : (a ++ b).length ≤ 240
        · rw [if_pos h240, decide_eq_false (show ¬ (240 : Int) < (c.length : Int) by omega), cond_false]
        · rw [if_neg h240, decide_eq_true (show (240 : Int) < (c.length : Int) by omega), cond_true]
      · rw [if_neg (fun h => hn (hnd.1 h)), if_neg hn]; rfl
    · rw [decide_eq_false vb]
      unfold J
      rw [if_neg (fun h => vb h.2)]; rfl
  · rw [decide_eq_false va]
    unfold J
    rw [if_neg (fun h => va h.1)]; rfl

def partF (a : UInt32) (y : Ptr) (s : List Ptr × List Ptr) : List Ptr × List Ptr := if y.Birth ≤ a then (s.1 ++ [y], s.2) else (s.1, s.2 ++ [y])
theorem part_fold (a : UInt32) : ∀ (l : List Ptr) (s : List Ptr × List Ptr), l.foldl (fun s y => partF a y s) s = (s.1 ++ oldP a l, s.2 ++ youngP a l)
  | [], s => by simp [oldP, youngP]
  | y :: r, s => by
    rw [List.foldl_cons, part_fold a r]
    unfold partF oldP youngP
    by_cases h : y.Birth ≤ a
    · have h2 : ¬ a < y.Birth := UInt32.not_lt.2 h
      simp [h, h2]
    · have h2 : a < y.Birth := UInt32.not_le.1 h
      simp [h, h2]
theorem ref16_Parts_eq (l : List Ptr) (a : UInt32) (hl : l.length ≤ 1000) : ref16_Parts l a = some (oldP a l, youngP a l) := by
  unfold ref16_Parts
  have hLIM : LIM = 1099511627776 := rfl
  have hloop := loop_each l (fun i (r : List Ptr × List Ptr) => (r.1, r.2, i)) (body := ref16_Parts_l1 l a) (fun y r => some (.inl (partF a y r))) (fun r => r) (fun i r => r.1.length ≤ i ∧ r.2.length ≤ i) (fun i h r hI => by
      unfold ref16_Parts_l1
      dsimp only
      rw [cI, if_pos h, idx_nat _ h]
      by_cases hb : l[i].Birth ≤ a
      · rw [decide_eq_true hb, cond_true, idx_nat _ h, app_eq (by simp only [List.length_cons, List.length_nil]; omega)]
        simp [partF, goesOn, hb]
      · rw [decide_eq_false hb, cond_false, idx_nat _ h, app_eq (by simp only [List.length_cons, List.length_nil]; omega)]
        simp [partF, goesOn, hb]) (fun i h r r' hI hf => by
      obtain rfl : partF a l[i] r = r' := by simpa using hf
      unfold partF; split <;> simp <;> omega) (fun r hI => by
      unfold ref16_Parts_l1
      dsimp only
      rw [cI, if_neg (Nat.lt_irrefl _)]) (lt_fuel hl rfl) (r0 := (([] : List Ptr), ([] : List Ptr))) ⟨by simp, by simp⟩
  dsimp only at hloop
  rw [hloop, forL_map, part_fold]
  rfl
open Classical in
theorem split_same (l : List Ptr) (a : UInt32) (hl : l.length ≤ 1000) : ref16_Split l a = dead_Split l a := by
  unfold ref16_Split
  rw [ref16_May_eq, Option.bind_some]
  by_cases hv : Valid l
  · rw [decide_eq_true hv, Bool.not_true, cond_false, ref16_Parts_eq l a hl, dead_Split_eq a hv]; rfl
  · rw [decide_eq_false hv, dead_Split_not a hv]; rfl
open Classical in
theorem check_same (l : List Ptr) : ref16_Check l = dead_Check l := by
  unfold ref16_Check
  rw [ref16_May_eq, Option.bind_some]
  by_cases hv : Valid l
  · rw [decide_eq_true hv, check_valid hv]; rfl
  · rw [decide_eq_false hv, check_not hv]; rfl

theorem ref10_Same_refl (l : List Ptr) (hl : l.length ≤ 2000) : ref10_Same l l = some true := by
  unfold ref10_Same
  rw [decide_eq_true rfl, Bool.not_true, cond_false, show (0 : Nat) = (fun (i : Nat) (_ : Unit) => i) 0 () from rfl,
    loop_each' l (fun i (_ : Unit) => i) (fun y (_ : Unit) => if (fun _ => true) y then some (.inl ()) else some (.inr (.inr ()))) (fun _ => .inl ()) (fun i h r => by
      show ref10_Same_l1 l l i = _
      unfold ref10_Same_l1
      rw [cI, if_pos h, idx_nat _ h, idx_nat _ h]
      show (bif !eqP _ _ then _ else _) = _
      rw [eqP_self]; rfl) (fun r => by
      show ref10_Same_l1 l l l.length = _
      unfold ref10_Same_l1
      rw [cI, if_neg (Nat.lt_irrefl _)]) (lt_fuel hl rfl) (), forL_all]
  simp [ends]

theorem spoil_some (l : List Ptr) (hl : l.length ≤ 1000) : law16_spoil l = some () := by
  unfold law16_spoil
  obtain ⟨t, ht, _⟩ := loop_rule (body := law16_spoil_l1) (fun s => s.1.length = l.length ∧ s.2 ≤ l.length) (fun s => l.length - s.2) (fun t => True) (by
    rintro ⟨m, i⟩ ⟨h1, h2⟩
    dsimp only at h1 h2
    unfold law16_spoil_l1
    dsimp only
    rw [cI]
    by_cases h : i < m.length
    · left
      rw [if_pos h, idx_nat _ h, setI_eq (by omega) (by simpa using h)]
      exact ⟨_, rfl, ⟨by simpa using h1, by dsimp only; omega⟩, by dsimp only; omega⟩
    · right
      rw [if_neg h]
      exact ⟨_, rfl, trivial⟩) (s := (l, 0)) ⟨rfl, Nat.zero_le _⟩ (lt_fuel (m := 1000) (by simpa using hl) rfl)
  rw [ht]; rfl

theorem law_DeadLists (l m : List Ptr) (p : Ptr) (a : UInt32) : law16_DeadLists l m p a = some true := by
  unfold law16_DeadLists
  by_cases h1 : 1000 < l.length
  · rw [decide_eq_true (show (1000 : Int) < (l.length : Int) by omega)]; rfl
  by_cases h2 : 1000 < m.length
  · rw [decide_eq_false (show ¬ (1000 : Int) < (l.length : Int) by omega), decide_eq_true (show (1000 : Int) < (m.length : Int) by omega)]; rfl
  have hLIM : LIM = 1099511627776 := rfl
  rw [decide_eq_false (show ¬ (1000 : Int) < (l.length : Int) by omega), decide_eq_false (show ¬ (1000 : Int) < (m.length : Int) by omega), cond_false, cond_false,
    app_eq (by simp only [List.length_nil]; omega), app_eq (by simp only [List.length_nil]; omega), List.nil_append, List.nil_append,
    add_same l p (by omega), split_same l a (by omega), join_same l m (by omega) (by omega), check_same]
  have hAdd : ∃ x, dead_Add l p = some x ∧ x.1.length ≤ 1000 := by
    rw [dead_Add_eq]
    split
    · exact ⟨_, rfl, J_len _ _⟩
    · exact ⟨_, rfl, by simp⟩
  have hSplit : ∃ x, dead_Split l a = some x ∧ x.1.length ≤ 1000 ∧ x.2.1.length ≤ 1000 := by
    by_cases hv : Valid l
    · refine ⟨_, dead_Split_eq a hv, ?_, ?_⟩
      · have := oldP_len a l; dsimp only; omega
      · have := youngP_len a l; dsimp only; omega
    · exact ⟨_, dead_Split_not a hv, by simp, by simp⟩
  have hCheck : ∃ x, dead_Check l = some x := by
    by_cases hv : Valid l
    · exact ⟨_, check_valid hv⟩
    · exact ⟨_, check_not hv⟩
  obtain ⟨x, ex, lx⟩ := hAdd
  obtain ⟨y, ey, ly1, ly2⟩ := hSplit
  obtain ⟨c, ec⟩ := hCheck
  have lz := J_len l m
  have ez := join_eq l m
  generalize J l m = z at lz ez
  rw [ex, ey, ez, ec]
  simp only [Option.bind_some]
  rw [ref10_Same_refl x.1 (by omega), ref10_Same_refl y.1 (by omega), ref10_Same_refl y.2.1 (by omega), ref10_Same_refl z.1 (by omega), spoil_some _ lx, spoil_some _ ly1, spoil_some _ ly2, spoil_some _ lz, ref10_Same_refl l (by omega), ref10_Same_refl m (by omega)]
  simp
end Go.Ow
