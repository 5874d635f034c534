/-
  What is proved here: what was put stands; only what stood in its slot is gone: the law, in plain words.
-/
import Derived.Test.YtabnbobdjckdmaaOwPlabelG
namespace Go.Ow
set_option linter.unusedVariables false
set_option linter.unusedSimpArgs false

theorem standB_some {B : List (List UInt8)} {s : Nat} {q : Label} (h : standB B s = some q) : okL q ∧ slotN q = s := by
  unfold standB at h
  split at h
  · split at h
    · rename_i c
      have := Option.some.inj h
      subst this
      exact ⟨c.1.1, c.2⟩
    · cases h
  · cases h
theorem mem_allB {B : List (List UInt8)} {q : Label} : q ∈ allB B ↔ standB B (slotN q) = some q := by
  unfold allB
  rw [List.mem_filterMap]
  constructor
  · rintro ⟨s, -, h⟩
    rw [(standB_some h).2]; exact h
  · intro h
    exact ⟨slotN q, by rw [List.mem_range]; exact slotN_lt q, h⟩
theorem allB_slots (B : List (List UInt8)) : (allB B).Pairwise (fun p q => p.Gen ≠ q.Gen) := by
  unfold allB
  refine List.Pairwise.filterMap (R := (· < ·)) _ (fun a a' hlt b hb b' hb' e => ?_) List.pairwise_lt_range
  have h1 := (standB_some hb).2
  have h2 := (standB_some hb').2
  unfold slotN at h1 h2
  rw [e] at h1
  omega
theorem was_strict (B : List (List UInt8)) : (sortG (allB B)).Pairwise (fun p q => q.Gen < p.Gen) := by
  obtain ⟨hp, hs⟩ := sortG_spec (allB B)
  have h1 : (sortG (allB B)).Pairwise (fun p q => p.Gen ≠ q.Gen) := (hp.pairwise_iff (fun {a b} h e => h e.symm)).2 (allB_slots B)
  refine (hs.and h1).imp (fun {p q} h => ?_)
  have a := UInt32.le_iff_toNat_le.1 h.1
  rw [UInt32.lt_iff_toNat_lt]
  have : p.Gen.toNat ≠ q.Gen.toNat := fun e => h.2 (UInt32.toNat_inj.1 e)
  omega
theorem mem_sortG {l : List Label} {q : Label} : q ∈ sortG l ↔ q ∈ l := (sortG_spec l).1.mem_iff
theorem allB_put {B : List (List UInt8)} {l : Label} (hl : okL l) (hB : B.length = 256) : (allB (B.set (slotN l) (blockL l))).length = ((allB B).filter fun q => !decide (slotN q = slotN l)).length + 1 := by
  have key : ∀ s, (if s = slotN l then some l else standB B s).toList.length = ((standB B s).toList.filter fun q => !decide (slotN q = slotN l)).length + (if s = slotN l then 1 else 0) := by
    intro s
    by_cases h : s = slotN l
    · rw [if_pos h, if_pos h]
      cases hq : standB B s with
      | none => rfl
      | some q =>
        have := (standB_some hq).2
        rw [h] at this
        simp [this]
    · rw [if_neg h, if_neg h]
      cases hq : standB B s with
      | none => rfl
      | some q =>
        have := (standB_some hq).2
        have h2 : ¬ slotN q = slotN l := fun e => h (this ▸ e)
        simp [h2]
  have ex : ∀ C : List (List UInt8), allB C = (standB C 0).toList ++ (standB C 1).toList ++ (standB C 2).toList ++ (standB C 3).toList := by
    intro C
    unfold allB
    rw [show List.range 4 = [0, 1, 2, 3] from rfl]
    simp only [List.filterMap_cons, List.filterMap_nil]
    cases standB C 0 <;> cases standB C 1 <;> cases standB C 2 <;> cases standB C 3 <;> rfl
  rw [ex, ex, standB_set hl hB, standB_set hl hB, standB_set hl hB, standB_set hl hB]
  simp only [List.length_append, List.filter_append, key]
  have := slotN_lt l
  have hs : slotN l = 0 ∨ slotN l = 1 ∨ slotN l = 2 ∨ slotN l = 3 := by omega
  rcases hs with h | h | h | h <;> rw [h] <;> simp <;> omega

/-! ### The law's loops -/
theorem stands_l4 (l : Label) (x : List Label × Int) (hx : x.1.length ≤ 4) : loop (law11_LabelStands_l4 l x) (false, 0) = some (x.1.any fun q => eqL q l) := by
  rw [loop_each' x.1 (fun i (r : Bool) => (r, i)) (fun q r => some (.inl (r || eqL q l))) (fun r => r) (fun i hi r => ?_) (fun r => ?_) (small_lt (by omega)) false, forL_map]
  · show some _ = some _
    congr 1
    suffices H : ∀ (l' : List Label) (a : Bool), l'.foldl (fun r q => r || eqL q l) a = (a || l'.any fun q => eqL q l) by simpa using H x.1 false
    intro l'
    induction l' with
    | nil => simp
    | cons q l' ih => intro a; simp only [List.foldl_cons, ih, List.any_cons, Bool.or_assoc]
  · unfold law11_LabelStands_l4
    rw [cI, if_pos hi]
    cases r
    · simp only [cond_false]
      rw [idx_nat _ hi]
      rfl
    · rfl
  · unfold law11_LabelStands_l4
    rw [cI, if_neg (by omega)]
theorem stands_l2 (x11 x : List Label × Int) (s : Bool × Int × Nat) (hx : x.1.length ≤ 4) (hs : s.2.2 < x11.1.length) : loop (law11_LabelStands_l2 x11 x s) (false, 0) = some (x.1.any fun q => eqL q x11.1[s.2.2]) := by
  rw [loop_each' x.1 (fun i (r : Bool) => (r, i)) (fun q r => some (.inl (r || eqL q x11.1[s.2.2]))) (fun r => r) (fun i hi r => ?_) (fun r => ?_) (small_lt (by omega)) false, forL_map]
  · show some _ = some _
    congr 1
    suffices H : ∀ (l' : List Label) (a : Bool), l'.foldl (fun r q => r || eqL q x11.1[s.2.2]) a = (a || l'.any fun q => eqL q x11.1[s.2.2]) by simpa using H x.1 false
    intro l'
    induction l' with
    | nil => simp
    | cons q l' ih => intro a; simp only [List.foldl_cons, ih, List.any_cons, Bool.or_assoc]
  · unfold law11_LabelStands_l2
    rw [cI, if_pos hi]
    cases r
    · simp only [cond_false]
      rw [idx_nat _ hi, idx_nat _ hs]
      rfl
    · rfl
  · unfold law11_LabelStands_l2
    rw [cI, if_neg (by omega)]
theorem stands_l1 (x : List Label × Int) (hx : x.1.length ≤ 4) (ok : ∀ q ∈ x.1, okL q) (hs : x.1.Pairwise (fun p q => q.Gen < p.Gen)) : loop (law11_LabelStands_l1 x) 0 = some (.inl ()) := by
  obtain ⟨t, h1, h2⟩ := loop_rule (body := law11_LabelStands_l1 x) (fun s => s ≤ x.1.length) (fun s => x.1.length - s) (fun t => t = .inl ()) (by
    intro s hsl
    unfold law11_LabelStands_l1
    rw [cI]
    rcases Nat.lt_or_ge s x.1.length with h | h
    · left
      obtain ⟨o1, o2, o3, o4, o5, o6⟩ := ok _ (List.getElem_mem h)
      rw [if_pos h, idx_nat _ h, decide_eq_false (show ¬ x.1[s].Gen < 1 from UInt32.not_lt.2 o1)]
      simp only [cond_false]
      rw [idx_nat _ h, decide_eq_false (show ¬ x.1[s].Epoch < 1 from UInt32.not_lt.2 o3)]
      simp only [cond_false]
      rw [idx_nat _ h, show Ptr.mk x.1[s].Root.At x.1[s].Root.Birth x.1[s].Root.Iv x.1[s].Root.Tag x.1[s].Root.Sum = x.1[s].Root from rfl, ptr_Check_eq', if_pos (.inr o6), Option.bind_some]
      simp only [decide_true, Bool.not_true, cond_false]
      by_cases c : 0 < (s : Int)
      · rw [decide_eq_true c]
        simp only [cond_true]
        rw [show w64 ((s : Int) - 1) = ((s - 1 : Nat) : Int) from by rw [w64_of (by omega) (by omega)]; omega, idx_nat _ (show s - 1 < x.1.length by omega), idx_nat _ h]
        have := (List.pairwise_iff_getElem.1 hs) (s - 1) s (by omega) h (by omega)
        rw [decide_eq_false (show ¬ x.1[s - 1].Gen ≤ x.1[s].Gen from UInt32.not_le.2 this)]
        exact ⟨_, rfl, h, by omega⟩
      · rw [decide_eq_false c]
        exact ⟨_, rfl, h, by omega⟩
    · right; rw [if_neg (by omega)]; exact ⟨_, rfl, rfl⟩) (s := 0) (Nat.zero_le _) (small_lt (by omega))
  rw [h1, h2]
def otherN (l : Label) (w : List Label) : Nat := (w.filter fun q => !decide (slotN q = slotN l)).length
theorem stands_l3 (l : Label) (x11 x : List Label × Int) (h11 : x11.1.length ≤ 4) (hx : x.1.length ≤ 4) (hin : ∀ q ∈ x11.1, slotN q ≠ slotN l → q ∈ x.1) :
    ∃ g : Bool, loop (law11_LabelStands_l3 l x11 x) (true, 0, 0) = some (.inl (g, ((otherN l x11.1 : Nat) : Int))) ∧ (g = true → ∀ q ∈ x11.1, q.Gen < l.Gen) := by
  obtain ⟨t, h1, h2⟩ := loop_rule (body := law11_LabelStands_l3 l x11 x) (fun s => s.2.2 ≤ x11.1.length ∧ s.2.1 = ((otherN l (x11.1.take s.2.2) : Nat) : Int) ∧ (s.1 = true → ∀ q ∈ x11.1.take s.2.2, q.Gen < l.Gen)) (fun s => x11.1.length - s.2.2) (fun t => ∃ g : Bool, t = .inl (g, ((otherN l x11.1 : Nat) : Int)) ∧ (g = true → ∀ q ∈ x11.1, q.Gen < l.Gen)) (by
    rintro ⟨g, k, i⟩ ⟨hi, hk, hg⟩
    simp only at hi hk hg
    have hs2 := stands_l2 x11 x (g, k, i) hx
    unfold law11_LabelStands_l3
    dsimp only at hs2 ⊢
    rw [cI]
    rcases Nat.lt_or_ge i x11.1.length with h | h
    · left
      have htake : x11.1.take (i + 1) = x11.1.take i ++ [x11.1[i]] := by rw [List.take_add_one, List.getElem?_eq_getElem h]; rfl
      have hkl : otherN l (x11.1.take i) ≤ 4 := Nat.le_trans (List.length_filter_le _ _) (by rw [List.length_take]; omega)
      have hnew : ∀ g' : Bool, g' = (bif decide (l.Gen ≤ x11.1[i].Gen) then false else g) → g' = true → ∀ q ∈ x11.1.take (i + 1), q.Gen < l.Gen := by
        intro g' e e' q hq
        by_cases c : l.Gen ≤ x11.1[i].Gen
        · rw [decide_eq_true c] at e; rw [e'] at e; cases e
        · rw [decide_eq_false c] at e
          rw [htake] at hq
          rcases List.mem_append.1 hq with hq | hq
          · exact hg (by rw [← e', e]; rfl) q hq
          · simp at hq; subst hq; exact UInt32.not_le.1 c
      rw [if_pos h, idx_nat _ h]
      rw [show (bif decide (l.Gen ≤ x11.1[i].Gen) then (some false) else (some g)) = some (bif decide (l.Gen ≤ x11.1[i].Gen) then false else g) from by cases decide (l.Gen ≤ x11.1[i].Gen) <;> rfl, Option.bind_some]
      generalize hg' : (bif decide (l.Gen ≤ x11.1[i].Gen) then false else g) = g'
      rw [idx_nat _ h, label_Slot_eq, Option.bind_some, label_Slot_eq, Option.bind_some]
      by_cases c : slotN x11.1[i] = slotN l
      · rw [decide_eq_true (show ((x11.1[i].Gen.toNat % 4 : Nat) : Int) = ((l.Gen.toNat % 4 : Nat) : Int) by unfold slotN at c; omega)]
        refine ⟨_, rfl, ⟨h, ?_, hnew g' hg'.symm⟩, by simp only; omega⟩
        simp only
        rw [hk, htake]
        unfold otherN
        rw [List.filter_append]
        simp [c]
      · rw [decide_eq_false (show ¬ ((x11.1[i].Gen.toNat % 4 : Nat) : Int) = ((l.Gen.toNat % 4 : Nat) : Int) from fun e => c (by unfold slotN; omega))]
        simp only [cond_false]
        rw [hs2 h, Option.bind_some]
        rw [show (x.1.any fun q => eqL q x11.1[i]) = true from List.any_eq_true.2 ⟨x11.1[i], hin _ (List.getElem_mem h) c, (eqL_iff _ _).2 rfl⟩]
        refine ⟨_, rfl, ⟨h, ?_, hnew g' hg'.symm⟩, by simp only; omega⟩
        simp only
        rw [hk, w64_of (by omega) (by omega), htake]
        unfold otherN
        rw [List.filter_append]
        simp [c]
    · right
      rw [if_neg (by omega)]
      rw [List.take_of_length_le h] at hk hg
      exact ⟨_, rfl, g, by rw [hk], hg⟩) (s := (true, 0, 0)) ⟨Nat.zero_le _, by simp [otherN], by simp⟩ (Nat.lt_of_le_of_lt (Nat.sub_le _ _) (small_lt (by omega)))
  obtain ⟨g, rfl, h3⟩ := h2
  exact ⟨g, h1, h3⟩
theorem stands_tail (l : Label) (G : List Label × Int) (gr : Bool) (k q : Int) (hlen : G.1.length ≤ 4) (hin : l ∈ G.1) (hq : q = k) (hk : (G.1.length : Int) = k) (h0 : gr = true → G.1[0]? = some l) :
    (Option.bind (loop (law11_LabelStands_l4 l G) (false, 0)) (fun t_68 => Option.bind (cond true (cond t_68 (cond (decide ((G.1.length : Int) = q)) (cond (!gr) (some true) (idx G.1 0 fun y_81 => some (eqL y_81 l))) (some false)) (some false)) (some false)) (fun t_74 => some t_74))) = some true := by
  rw [stands_l4 l G hlen, Option.bind_some, show (G.1.any fun q => eqL q l) = true from List.any_eq_true.2 ⟨l, hin, (eqL_iff _ _).2 rfl⟩, cond_true, cond_true, decide_eq_true (show (G.1.length : Int) = q by omega), cond_true]
  cases gr
  · rfl
  · rw [Bool.not_true, cond_false, idx_eq (y := l) ⟨by omega, h0 rfl⟩, (eqL_iff _ _).2 rfl]
    rfl
theorem law_LabelStands (d : Disk) (l : Label) (hd : Sized d) : law11_LabelStands d l = some true := by
  unfold law11_LabelStands
  obtain ⟨g, hg⟩ := great_tot hd
  rw [alive_eq, Option.bind_some, Bool.not_true, cond_false, label_Find_eq hd, Option.bind_some, hg, Option.bind_some]
  by_cases c : OKD d
  · have hlen := findD_len d
    have hf := findD_ok c
    generalize findD d = F at hf hlen ⊢
    have hF2 : F.2 = 0 := by rw [hf]
    have hF1 : F.1 = sortG (allB (seenB d)) := by rw [hf]
    rw [hF2]
    cases g
    case true => rfl
    rw [cond_false, decide_eq_true (show (0 : Int) = 0 from rfl), Bool.not_true, cond_false]
    rw [stands_l1 F hlen (fun q hq => by rw [hF1, mem_sortG] at hq; exact (standB_some (mem_allB.1 hq)).1) (by rw [hF1]; exact was_strict _), Option.bind_some]
    rw [Sum.elim_inl, label_Put_eq hd, Option.bind_some]
    have h4 : decide ((F.1.length : Int) ≤ 4) = true := decide_eq_true (by omega)
    rcases putD_cases d l with ⟨h1, -⟩ | ⟨a1, a2, a3, a4, a5, a6⟩
    · rw [nz_dec h1, cond_true, cond_true, h4]; rfl
    rw [show (putD d l).2 = 0 by rw [a5], decide_eq_false (show ¬ 4 < (F.1.length : Int) by omega), decide_eq_true (show (0 : Int) = 0 from rfl), Bool.not_true, cond_false, cond_false]
    rw [label_Find_eq a3.sized, Option.bind_some]
    have hlen' := findD_len (putD d l).1
    have hf' := findD_ok a3
    rw [a6] at hf'
    generalize findD (putD d l).1 = G at hf' hlen' ⊢
    have hG2 : G.2 = 0 := by rw [hf']
    have hG1 : G.1 = sortG (allB ((seenB d).set (slotN l) (blockL l))) := by rw [hf']
    have hB := seenB_length c
    have hin : l ∈ G.1 := by rw [hG1, mem_sortG, mem_allB, standB_set a2 hB, if_pos rfl]
    have hsub : ∀ q ∈ F.1, slotN q ≠ slotN l → q ∈ G.1 := fun q hq hne => by
      rw [hF1, mem_sortG, mem_allB] at hq
      rw [hG1, mem_sortG, mem_allB, standB_set a2 hB, if_neg hne]; exact hq
    have hback : ∀ q ∈ G.1, q = l ∨ q ∈ F.1 := fun q hq => by
      rw [hG1, mem_sortG, mem_allB, standB_set a2 hB] at hq
      by_cases e : slotN q = slotN l
      · rw [if_pos e] at hq; exact .inl (Option.some.inj hq).symm
      · rw [if_neg e] at hq; right; rw [hF1, mem_sortG, mem_allB]; exact hq
    have hpos : 0 < G.1.length := List.length_pos_iff.2 (fun e => by rw [e] at hin; cases hin)
    have hcount : G.1.length = otherN l F.1 + 1 := by
      rw [hG1, sortG_length, allB_put a2 hB, hF1]
      unfold otherN
      rw [((sortG_spec (allB (seenB d))).1.filter _).length_eq]
    rw [hG2, decide_eq_false (show ¬ (G.1.length : Int) = 0 by omega), decide_eq_true (show (0 : Int) = 0 from rfl), Bool.not_true, cond_false, cond_false]
    obtain ⟨gr, hl3, hgr⟩ := stands_l3 l F G hlen hlen' hsub
    have hol : otherN l F.1 ≤ 4 := Nat.le_trans (List.length_filter_le _ _) hlen
    rw [hl3, Option.bind_some, Sum.elim_inl]
    refine stands_tail l G gr ((otherN l F.1 : Nat) + 1 : Int) _ hlen' hin (w64_of (by omega) (by omega)) (by omega) (fun hgt => ?_)
    rw [List.getElem?_eq_getElem hpos]
    congr 1
    rcases hback _ (List.getElem_mem hpos) with e | e
    · exact e
    · exfalso
      have h5 := hgr hgt _ e
      obtain ⟨j, hj, hjl⟩ := List.mem_iff_getElem.1 hin
      have hst := was_strict ((seenB d).set (slotN l) (blockL l))
      rw [← hG1] at hst
      rcases Nat.eq_zero_or_pos j with hz | hz
      · subst hz; rw [hjl] at h5; exact absurd h5 (by rw [UInt32.lt_iff_toNat_lt]; omega)
      · have h6 := (List.pairwise_iff_getElem.1 hst) 0 j hpos hj hz
        rw [hjl] at h6
        rw [UInt32.lt_iff_toNat_lt] at h5 h6
        omega
  · have hf : findD d = ([], 8) := by unfold findD; rw [if_neg c]
    rw [hf]
    cases g <;> rfl
end Go.Ow
