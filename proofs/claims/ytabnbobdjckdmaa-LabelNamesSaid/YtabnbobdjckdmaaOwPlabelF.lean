/-
  What is proved here: what stands behind a put or a write; one label stands on a new disk: in plain words.
-/
import Derived.Test.YtabnbobdjckdmaaOwPlabelE
namespace Go.Ow
set_option linter.unusedVariables false
set_option linter.unusedSimpArgs false
open Go.Sort Go.Proofs

theorem sized_no : Sized noD := ⟨by simp [noD], by simp [noD], by simp [noD]⟩
theorem writeD_cases (d : Disk) (at' : Int) (b : List UInt8) : ((writeD d at' b).2 ≠ 0 ∧ (writeD d at' b).1 = noD) ∨ (OKD d ∧ (0 ≤ at' ∧ at' < 256) ∧ b.length = 256 ∧ d.Waits.length ≠ 4096 ∧ writeD d at' b = (Disk.mk d.Blocks (d.Waits ++ [Write.mk at' b]), 0)) := by
  unfold writeD
  by_cases c : OKD d
  · by_cases c1 : 0 ≤ at' ∧ at' < 256
    · by_cases c2 : b.length = 256
      · by_cases c3 : d.Waits.length = 4096
        · left; rw [if_pos c, if_pos c1, if_pos c2, if_pos c3]; exact ⟨by decide, rfl⟩
        · right; rw [if_pos c, if_pos c1, if_pos c2, if_neg c3]; exact ⟨c, c1, c2, c3, rfl⟩
      · left; rw [if_pos c, if_pos c1, if_neg c2]; exact ⟨by decide, rfl⟩
    · left; rw [if_pos c, if_neg c1]; exact ⟨by decide, rfl⟩
  · left; rw [if_neg c]; exact ⟨by decide, rfl⟩
theorem slotN_lt (l : Label) : slotN l < 4 := Nat.mod_lt _ (by omega)
theorem putD_cases (d : Disk) (l : Label) : ((putD d l).2 ≠ 0 ∧ (putD d l).1 = noD) ∨ (OKD d ∧ okL l ∧ OKD (putD d l).1 ∧ d.Waits.length ≠ 4096 ∧ putD d l = (Disk.mk d.Blocks (d.Waits ++ [Write.mk ((slotN l : Nat) : Int) (blockL l)]), 0) ∧ seenB (putD d l).1 = (seenB d).set (slotN l) (blockL l)) := by
  unfold putD
  by_cases c : OKD d
  · by_cases c1 : okL l
    · rw [if_pos c, if_pos c1]
      rcases writeD_cases d ((slotN l : Nat) : Int) (blockL l) with h | ⟨h1, h2, h3, h4, h5⟩
      · exact .inl h
      · right
        rw [h5]
        refine ⟨c, c1, c.write h2 h3 h4, h4, rfl, ?_⟩
        simp only [seenB, layW, List.foldl_append, List.foldl_cons, List.foldl_nil, Int.toNat_natCast]
    · left; rw [if_pos c, if_neg c1]; exact ⟨by decide, rfl⟩
  · left; rw [if_neg c]; exact ⟨by decide, rfl⟩
theorem putD_sized {d : Disk} (l : Label) : Sized (putD d l).1 := by
  rcases putD_cases d l with ⟨h1, h2⟩ | h
  · rw [h2]; exact sized_no
  · exact h.2.2.1.sized
theorem standB_set {B : List (List UInt8)} {l : Label} (hl : okL l) (hB : B.length = 256) (s : Nat) : standB (B.set (slotN l) (blockL l)) s = if s = slotN l then some l else standB B s := by
  unfold standB
  rw [List.getElem?_set]
  by_cases h : s = slotN l
  · subst h
    have := slotN_lt l
    rw [if_pos rfl, if_pos (by omega), if_pos rfl]
    simp only
    rw [if_pos ⟨readOk_block hl, by rw [parse_blockL hl]⟩, parse_blockL hl]
  · rw [if_neg (fun e => h e.symm), if_neg h]
theorem allB_congr {B B' : List (List UInt8)} (h : ∀ s, s < 4 → standB B s = standB B' s) : allB B = allB B' := by
  unfold allB
  rw [show List.range 4 = [0, 1, 2, 3] from rfl]
  simp only [List.filterMap_cons, List.filterMap_nil]
  rw [h 0 (by omega), h 1 (by omega), h 2 (by omega), h 3 (by omega)]
theorem allB_high {B : List (List UInt8)} {n : Nat} (hn : 4 ≤ n) (b : List UInt8) : allB (B.set n b) = allB B := allB_congr (fun s hs => by
  unfold standB
  rw [List.getElem?_set, if_neg (by omega)])
theorem sortG_length (l : List Label) : (sortG l).length = l.length := sortL_length label_Find_1_swo l
theorem sortG_spec (l : List Label) : (sortG l).Perm l ∧ (sortG l).Pairwise (fun p q => q.Gen ≤ p.Gen) := by
  have h := pdq_sorts (ltOf fun x y => (label_Find_1 x y).getD 0) label_Find_1_swo l.toArray 0 l.toArray.size (Lib.bitLen l.toArray.size) true true (Nat.zero_le _) (Nat.le_refl _) (Or.inl rfl)
  have e : (pdq (ltOf fun x y => (label_Find_1 x y).getD 0) l.toArray 0 l.toArray.size (Lib.bitLen l.toArray.size) true true) = (sortG l).toArray := by
    have e : (ltOf fun x y => (label_Find_1 x y).getD 0) = fun x y => decide ((label_Find_1 x y).getD 0 < 0) := rfl
    rw [e]; simp [sortG, sortL]
  rw [e] at h
  have hl := sortG_length l
  obtain ⟨⟨_, _, hp⟩, hs⟩ := h
  refine ⟨?_, ?_⟩
  · have e1 : ((sortG l).toArray.extract 0 l.toArray.size).toList = sortG l := by simp [← hl]
    have e2 : (l.toArray.extract 0 l.toArray.size).toList = l := by simp
    rw [e1, e2] at hp
    exact hp
  · rw [List.pairwise_iff_getElem]
    intro i j hi hj hij
    have := hs i j (Nat.zero_le _) hij (by simpa [← hl] using hj)
    rw [label_Find_1_lt] at this
    simp only [decide_eq_false_iff_not, UInt32.not_lt] at this
    have ei : (sortG l).toArray[i]! = (sortG l)[i] := by simp [hi]
    have ej : (sortG l).toArray[j]! = (sortG l)[j] := by simp [hj]
    rw [ei, ej] at this
    exact this
theorem findD_ok {d : Disk} (h : OKD d) : findD d = (sortG (allB (seenB d)), 0) := by unfold findD; rw [if_pos h]
theorem findD_len (d : Disk) : (findD d).1.length ≤ 4 := by
  unfold findD
  split
  · simp only [sortG_length]; exact allB_len _
  · simp

def eqL (p q : Label) : Bool := decide (p.Gen = q.Gen) && (decide (p.Epoch = q.Epoch) && ((decide (p.Root.At = q.Root.At) && (decide (p.Root.Birth = q.Root.Birth) && (decide (p.Root.Iv = q.Root.Iv) && (decide (p.Root.Tag = q.Root.Tag) && (decide (p.Root.Sum = q.Root.Sum) && true))))) && true))
theorem eqL_iff (p q : Label) : eqL p q = true ↔ p = q := by
  obtain ⟨a, b, ⟨c, d, e, f, g⟩⟩ := p
  obtain ⟨a', b', ⟨c', d', e', f', g'⟩⟩ := q
  simp only [eqL, Bool.and_eq_true, decide_eq_true_eq, and_true, Label.mk.injEq, Ptr.mk.injEq]
theorem same_refl (a : List Label) (ha : a.length ≤ 1000) : law11_same a a = some true := by
  unfold law11_same
  obtain ⟨t, h1, h2⟩ := loop_rule (body := law11_same_l1 a a) (fun s => s ≤ a.length) (fun s => a.length - s) (fun t => t = .inl ()) (by
    intro s hs
    unfold law11_same_l1
    rw [cI]
    rcases Nat.lt_or_ge s a.length with h | h
    · left
      rw [if_pos h, decide_eq_true (show (s : Int) < (a.length : Int) by omega)]
      simp only [cond_true]
      rw [idx_nat _ h, idx_nat _ h]
      show ∃ s', (bif !(eqL a[s] a[s]) then _ else _) = _ ∧ _
      rw [(eqL_iff _ _).2 rfl]
      exact ⟨_, rfl, h, by omega⟩
    · right; rw [if_neg (by omega)]; exact ⟨_, rfl, rfl⟩) (s := 0) (Nat.zero_le _) (small_lt (by omega))
  rw [h1, h2]
  simp only [Option.bind_some, Sum.elim_inl, decide_true]
theorem find_same (d : Disk) : law11_same (findD d).1 (findD d).1 = some true := same_refl _ (by have := findD_len d; omega)

theorem forL_tot' {α σ τ : Type} {f : α → σ → Option (σ ⊕ τ)} : ∀ {l : List α} {s : σ}, (∀ y s, ∃ o, f y s = some o) → ∃ o, forL f l s = some o
  | [], s, _ => ⟨_, rfl⟩
  | y :: l, s, h => by
    obtain ⟨o, h1⟩ := h y s
    cases o with
    | inl s' => rw [forL_cons h1]; exact forL_tot' h
    | inr e => rw [forL_stop h1]; exact ⟨_, rfl⟩
def greatF (n : Nat) (r : Int) : Option (Int ⊕ Int) := if r < 2000000 then some (.inl (w64 (r + (n : Int)))) else some (.inr r)
theorem great_tot {d : Disk} (h : Sized d) : ∃ g, ref09_Great d = some g := by
  have L1 : ∀ r0, ∃ t, loop (ref09_Great_l1 d) (r0, 0) = some t := fun r0 => by
    rw [loop_each' d.Blocks (fun i (r : Int) => (r, i)) (fun b r => greatF b.length r) (fun r => r) (fun i hi r => ?_) (fun r => ?_) (small_lt h.blocks) r0]
    · obtain ⟨o, ho⟩ := forL_tot' (f := fun (b : List UInt8) (r : Int) => greatF b.length r) (l := d.Blocks) (s := r0) (fun y s => by unfold greatF; split <;> exact ⟨_, rfl⟩)
      rw [ho]; cases o <;> exact ⟨_, rfl⟩
    · unfold ref09_Great_l1 greatF
      rw [cI, if_pos hi]
      by_cases c : r < 2000000
      · rw [decide_eq_true c, if_pos c, cond_true, idx_nat _ hi]; rfl
      · rw [decide_eq_false c, if_neg c]; rfl
    · unfold ref09_Great_l1
      rw [cI, if_neg (by omega)]
  have L2 : ∀ r0, ∃ t, loop (ref09_Great_l2 d) (r0, 0) = some t := fun r0 => by
    rw [loop_each' d.Waits (fun i (r : Int) => (r, i)) (fun b r => greatF b.Data.length r) (fun r => r) (fun i hi r => ?_) (fun r => ?_) (small_lt h.waits) r0]
    · obtain ⟨o, ho⟩ := forL_tot' (f := fun (b : Write) (r : Int) => greatF b.Data.length r) (l := d.Waits) (s := r0) (fun y s => by unfold greatF; split <;> exact ⟨_, rfl⟩)
      rw [ho]; cases o <;> exact ⟨_, rfl⟩
    · unfold ref09_Great_l2 greatF
      rw [cI, if_pos hi]
      by_cases c : r < 2000000
      · rw [decide_eq_true c, if_pos c, cond_true, idx_nat _ hi]; rfl
      · rw [decide_eq_false c, if_neg c]; rfl
    · unfold ref09_Great_l2
      rw [cI, if_neg (by omega)]
  unfold ref09_Great
  have key : ∃ t, (cond (decide (500 < (d.Blocks.length : Int))) (some (.inr ())) (cond (decide (500 < (d.Waits.length : Int))) (cond (decide ((d.Waits.length : Int) < 4096)) (some (.inr ())) (cond (decide (4106 < (d.Waits.length : Int))) (some (.inr ())) (some (.inl ())))) (cond (decide (4106 < (d.Waits.length : Int))) (some (.inr ())) (some (.inl ()))))) = some (t : Unit ⊕ Unit) := by
    generalize decide (500 < (d.Blocks.length : Int)) = b1
    generalize decide (500 < (d.Waits.length : Int)) = b2
    generalize decide ((d.Waits.length : Int) < 4096) = b3
    generalize decide (4106 < (d.Waits.length : Int)) = b4
    cases b1 <;> cases b2 <;> cases b3 <;> cases b4 <;> exact ⟨_, rfl⟩
  obtain ⟨t, ht⟩ := key
  rw [ht, Option.bind_some]
  cases t with
  | inl _ =>
    obtain ⟨t1, h1⟩ := L1 0
    obtain ⟨t2, h2⟩ := L2 t1
    simp only [Sum.elim_inl]
    rw [h1, Option.bind_some, h2, Option.bind_some]
    exact ⟨_, rfl⟩
  | inr _ => exact ⟨_, rfl⟩

/-! ### One label on a new disk -/
def zeroBl : List UInt8 := List.replicate 256 0
def newD : Disk := ⟨List.replicate 256 zeroBl, []⟩
theorem repeat_eq : slices_Repeat_int [256] 256 = some (List.replicate 256 256) := by decide +kernel
theorem zero_length : zeroBl.length = 256 := List.length_replicate
theorem new_mem {b : List UInt8} (h : b ∈ newD.Blocks) : b = zeroBl := List.eq_of_mem_replicate h
theorem new_length : newD.Blocks.length = 256 := List.length_replicate
theorem new_cut : dev_cut (List.replicate 256 (256 : Int)) = some newD.Blocks := by
  have e : List.replicate 256 (256 : Int) = newD.Blocks.map (fun b => (b.length : Int)) := by
    show _ = (List.replicate 256 zeroBl).map (fun b => (b.length : Int))
    rw [List.map_replicate, zero_length]; exact rfl
  rw [e, dev_cut_eq _ (by rw [new_length]; omega) (fun b hb => by rw [new_mem hb, zero_length]; omega)]
  show some ((List.replicate 256 zeroBl).map (fun b => List.replicate b.length (0 : UInt8))) = some (List.replicate 256 zeroBl)
  rw [List.map_replicate, zero_length]
  exact rfl
theorem dev_New_eq : dev_New = some newD := by
  unfold dev_New
  rw [repeat_eq, Option.bind_some, new_cut, Option.bind_some]
  exact rfl
theorem newD_ok : OKD newD := ⟨new_length, Nat.zero_le _, fun b hb => by rw [new_mem hb]; exact zero_length, fun w hw => by cases hw⟩
theorem zero_not : ¬ readOk zeroBl := fun h => by
  have h1 := congrArg (fun l => l[0]?) h.2
  have h2 : (blockL (parseL zeroBl))[0]? = some 67 := rfl
  have h3 : zeroBl[0]? = some 0 := rfl
  simp only [h2, h3] at h1
  exact absurd (Option.some.inj h1) (by decide)
theorem stand_new (s : Nat) : standB (seenB newD) s = none := by
  unfold standB
  rw [show seenB newD = List.replicate 256 zeroBl from rfl]
  split
  · rename_i b hb
    have : b = zeroBl := by
      rw [List.getElem?_replicate] at hb
      split at hb
      · exact (Option.some.inj hb).symm
      · cases hb
    subst this
    rw [if_neg (fun e => zero_not e.1)]
  · rfl
def oneL (g : UInt32) : Label := ⟨g, 1, ⟨20, 1, 0, 0, 0⟩⟩
theorem alive_eq : law11_alive = some true := by
  unfold law11_alive
  rw [dev_New_eq, Option.bind_some, show law11_one 5 = some (oneL 5) from rfl, Option.bind_some, label_Put_eq newD_ok.sized, Option.bind_some, label_Find_eq (putD_sized _), Option.bind_some]
  have h5 : okL (oneL 5) := by decide
  rcases putD_cases newD (oneL 5) with ⟨h1, h2⟩ | ⟨h1, h2, h3, h4, h6, h7⟩
  · exfalso
    apply h1
    unfold putD
    rw [if_pos newD_ok, if_pos h5]
    unfold writeD
    rw [if_pos newD_ok, if_pos (by decide), if_pos (blockL_length _), if_neg (by decide)]
  · rw [findD_ok h3, h7]
    have hall : allB ((seenB newD).set (slotN (oneL 5)) (blockL (oneL 5))) = [oneL 5] := by
      unfold allB
      rw [show List.range 4 = [0, 1, 2, 3] from rfl]
      simp only [List.filterMap_cons, List.filterMap_nil]
      rw [standB_set h5 (seenB_length newD_ok), standB_set h5 (seenB_length newD_ok), standB_set h5 (seenB_length newD_ok), standB_set h5 (seenB_length newD_ok), stand_new, stand_new, stand_new]
      rfl
    have hs : sortG [oneL 5] = [oneL 5] := by
      exact List.perm_singleton.1 (sortG_spec [oneL 5]).1
    rw [hall, hs, h6]
    rfl
end Go.Ow
