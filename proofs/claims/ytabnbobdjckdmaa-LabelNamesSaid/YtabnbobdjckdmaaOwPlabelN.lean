/-
  What is proved here: the chapter's examples: the law, in plain words.
-/
import Derived.Test.YtabnbobdjckdmaaOwPlabelH
namespace Go.Ow
set_option linter.unusedVariables false
set_option linter.unusedSimpArgs false

def law11_LabelNames_l1 (s_51 : List (List UInt8) × List Write × UInt32) : Option ((List (List UInt8) × List Write × UInt32) ⊕ ((List (List UInt8) × List Write) ⊕ Unit)) :=
  cond (decide (s_51.2.2 < (6 : UInt32))) (Option.bind (Option.bind (law11_one s_51.2.2) fun x_64 => Option.bind (label_Put (Disk.mk s_51.1 s_51.2.1) x_64) fun x_67 => some (x_67.1.Blocks, x_67.1.Waits, x_67.2)) (fun t_61 => cond (!decide (t_61.2.2 = 0)) (some (.inr (.inr ()))) (some (.inl (t_61.1, t_61.2.1, s_51.2.2 + (1 : UInt32)))))) (some (.inr (.inl (s_51.1, s_51.2.1))))

def law11_LabelNames : Option Bool :=
  Option.bind (law11_alive) fun x_1 => cond (!x_1) (some false) (Option.bind (dev_New) fun x_5 => Option.bind (label_Find x_5) fun x_11 => Option.bind (dev_New) fun x_15 => Option.bind (law11_one (0 : UInt32)) fun x_20 => Option.bind (label_Put x_15 x_20) fun x_24 => Option.bind (dev_New) fun x_30 => Option.bind (label_Put x_30 (Label.mk (1 : UInt32) (1 : UInt32) (Ptr.mk 0 (0 : UInt32) (0 : UInt32) (0 : UInt32) (0 : UInt32)))) fun x_36 => Option.bind (dev_New) fun x_42 => Option.bind (loop law11_LabelNames_l1 (x_42.Blocks, x_42.Waits, (1 : UInt32))) (fun t_48 => Sum.elim (fun t_48a => Option.bind (label_Find (Disk.mk t_48a.1 t_48a.2)) fun x_64 => Option.bind (cond (decide (x_11.2 = 0)) (cond (decide ((x_11.1.length : Int) = 0)) (cond (decide (x_24.2 = 8)) (cond (decide (x_36.2 = 8)) (cond (decide (x_64.2 = 0)) (cond (decide ((x_64.1.length : Int) = 4)) (idx x_64.1 0 fun y_77 => cond (decide (y_77.Gen = (5 : UInt32))) (idx x_64.1 1 fun y_89 => cond (decide (y_89.Gen = (4 : UInt32))) (idx x_64.1 2 fun y_101 => cond (decide (y_101.Gen = (3 : UInt32))) (idx x_64.1 3 fun y_113 => cond (decide (y_113.Gen = (2 : UInt32))) (Option.bind (label_Slot (7 : UInt32)) fun x_125 => some (decide (x_125 = 3))) (some false)) (some false)) (some false)) (some false)) (some false)) (some false)) (some false)) (some false)) (some false)) (some false)) (fun t_68 => some t_68)) (fun t_48b => some false) t_48))
theorem strict_uniqueL : ∀ {l m : List Label}, l.Perm m → l.Pairwise (fun p q => q.Gen < p.Gen) → m.Pairwise (fun p q => q.Gen < p.Gen) → l = m
  | [], m, h, _, _ => (List.nil_perm.1 h).symm
  | p :: l, [], h, _, _ => by have := h.length_eq; simp at this
  | p :: l, q :: m, h, h1, h2 => by
    simp only [List.pairwise_cons] at h1 h2
    have hpq : p = q := by
      have hp : p ∈ q :: m := h.mem_iff.1 (by simp)
      have hq : q ∈ p :: l := h.mem_iff.2 (by simp)
      rcases List.mem_cons.1 hp with e | e
      · exact e
      · rcases List.mem_cons.1 hq with e' | e'
        · exact e'.symm
        · have a := h2.1 p e
          have b := h1.1 q e'
          rw [UInt32.lt_iff_toNat_lt] at a b
          omega
    subst hpq
    rw [strict_uniqueL ((List.perm_cons p).1 h) h1.2 h2.2]
theorem ok_one {g : UInt32} (h : okL (oneL g)) : okL (oneL g) := h
theorem put_one {d : Disk} {g : UInt32} (h : OKD d) (hg : okL (oneL g)) (hw : d.Waits.length < 100) :
    ∃ x, label_Put d (oneL g) = some (x, 0) ∧ OKD x ∧ x.Waits.length = d.Waits.length + 1 ∧ seenB x = (seenB d).set (slotN (oneL g)) (blockL (oneL g)) := by
  rw [label_Put_eq h.sized]
  rcases putD_cases d (oneL g) with ⟨h1, h2⟩ | ⟨h1, h2, h3, h4, h5, h6⟩
  · exfalso
    apply h1
    unfold putD
    rw [if_pos h, if_pos hg]
    unfold writeD
    have := slotN_lt (oneL g)
    rw [if_pos h, if_pos ⟨by omega, by omega⟩, if_pos (blockL_length _), if_neg (by omega)]
  · refine ⟨(putD d (oneL g)).1, by rw [h5], h3, ?_, h6⟩
    rw [h5]; simp
theorem names_step {d x : Disk} {g : UInt32} (hg : g < 6) (hp : label_Put d (oneL g) = some (x, 0)) : law11_LabelNames_l1 (d.Blocks, d.Waits, g) = some (.inl (x.Blocks, x.Waits, g + 1)) := by
  unfold law11_LabelNames_l1
  dsimp only
  rw [decide_eq_true hg, cond_true, show law11_one g = some (oneL g) from rfl, Option.bind_some, show Disk.mk d.Blocks d.Waits = d from rfl, hp]
  rfl
theorem putD_not {d : Disk} (l : Label) (h : ¬ okL l) : (putD d l).2 = 8 := by
  unfold putD
  by_cases c : OKD d
  · rw [if_pos c, if_neg h]
  · rw [if_neg c]
theorem law_LabelNames : law11_LabelNames = some true := by
  obtain ⟨x1, p1, o1, w1, s1⟩ := put_one (g := 1) newD_ok (by decide) (by show 0 < 100; omega)
  obtain ⟨x2, p2, o2, w2, s2⟩ := put_one (g := 2) o1 (by decide) (by rw [w1]; show 0 + 1 < 100; omega)
  obtain ⟨x3, p3, o3, w3, s3⟩ := put_one (g := 3) o2 (by decide) (by rw [w2, w1]; show 0 + 1 + 1 < 100; omega)
  obtain ⟨x4, p4, o4, w4, s4⟩ := put_one (g := 4) o3 (by decide) (by rw [w3, w2, w1]; show 0 + 1 + 1 + 1 < 100; omega)
  obtain ⟨x5, p5, o5, w5, s5⟩ := put_one (g := 5) o4 (by decide) (by rw [w4, w3, w2, w1]; show 0 + 1 + 1 + 1 + 1 < 100; omega)
  have hloop : loop law11_LabelNames_l1 (newD.Blocks, newD.Waits, (1 : UInt32)) = some (.inl (x5.Blocks, x5.Waits)) := by
    refine run5 (s1 := (x1.Blocks, x1.Waits, 2)) (s2 := (x2.Blocks, x2.Waits, 3)) (s3 := (x3.Blocks, x3.Waits, 4)) (s4 := (x4.Blocks, x4.Waits, 5)) (s5 := (x5.Blocks, x5.Waits, 6)) (names_step (by decide) p1) (names_step (by decide) p2) (names_step (by decide) p3) (names_step (by decide) p4) (names_step (by decide) p5) ?_
    unfold law11_LabelNames_l1
    rfl
  have hB := seenB_length newD_ok
  have l1 := seenB_length o1
  have l2 := seenB_length o2
  have l3 := seenB_length o3
  have l4 := seenB_length o4
  have e : ∀ s, standB (seenB x5) s = if s = 1 then some (oneL 5) else if s = 0 then some (oneL 4) else if s = 3 then some (oneL 3) else if s = 2 then some (oneL 2) else if s = 1 then some (oneL 1) else none := by
    intro s
    rw [s5, standB_set (by decide) l4, s4, standB_set (by decide) l3, s3, standB_set (by decide) l2, s2, standB_set (by decide) l1, s1, standB_set (by decide) hB, stand_new]
    rfl
  have hall : allB (seenB x5) = [oneL 4, oneL 5, oneL 2, oneL 3] := by
    unfold allB
    rw [show List.range 4 = [0, 1, 2, 3] from rfl]
    simp only [List.filterMap_cons, List.filterMap_nil, e]
    rfl
  have hsort : sortG (allB (seenB x5)) = [oneL 5, oneL 4, oneL 3, oneL 2] := by
    refine strict_uniqueL ((sortG_spec _).1.trans ?_) (was_strict _) (by
      simp only [List.pairwise_cons, List.mem_cons, List.not_mem_nil, or_false]
      refine ⟨fun q h => ?_, fun q h => ?_, fun q h => ?_, fun q h => absurd h id, .nil⟩
      · rcases h with rfl | rfl | rfl <;> decide
      · rcases h with rfl | rfl <;> decide
      · rcases h with rfl; decide)
    rw [hall]
    exact (List.Perm.swap _ _ _).trans ((List.Perm.swap _ _ _).cons _ |>.cons _)
  have hnew : findD newD = ([], 0) := by
    rw [findD_ok newD_ok]
    have : allB (seenB newD) = [] := by
      unfold allB
      rw [show List.range 4 = [0, 1, 2, 3] from rfl]
      simp only [List.filterMap_cons, List.filterMap_nil, stand_new]
    rw [this]
    have : sortG [] = [] := List.length_eq_zero_iff.1 (sortG_length [])
    rw [this]
  have h5 : label_Find x5 = some ([oneL 5, oneL 4, oneL 3, oneL 2], 0) := by rw [label_Find_eq o5.sized, findD_ok o5, hsort]
  unfold law11_LabelNames
  rw [alive_eq, Option.bind_some, Bool.not_true, cond_false, dev_New_eq, Option.bind_some, label_Find_eq newD_ok.sized, hnew, Option.bind_some, Option.bind_some, show law11_one 0 = some (oneL 0) from rfl, Option.bind_some, label_Put_eq newD_ok.sized, Option.bind_some, Option.bind_some, label_Put_eq newD_ok.sized, Option.bind_some, Option.bind_some, hloop, Option.bind_some, Sum.elim_inl,
    show Disk.mk x5.Blocks x5.Waits = x5 from rfl, h5, Option.bind_some, putD_not (oneL 0) (by decide), putD_not _ (by decide)]
  rfl
end Go.Ow
