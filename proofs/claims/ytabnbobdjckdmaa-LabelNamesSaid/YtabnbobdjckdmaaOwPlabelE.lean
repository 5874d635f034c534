/-
  What is proved here: labels as blocks, and back; what stands on a disk: in plain words.
-/
import Derived.Test.YtabnbobdjckdmaaOwPlabelD
namespace Go.Ow
set_option linter.unusedVariables false
set_option linter.unusedSimpArgs false
open Go.Sort Go.Proofs

def okL (l : Label) : Prop := (1 : UInt32) ≤ l.Gen ∧ l.Gen ≤ 16777215 ∧ (1 : UInt32) ≤ l.Epoch ∧ l.Epoch ≤ 65535 ∧ ¬ isNone l.Root ∧ okR l.Root
instance (l : Label) : Decidable (okL l) := by unfold okL; infer_instance
theorem none_root (l : Label) : (decide (l.Root.At = 0) && (decide (l.Root.Birth = (0 : UInt32)) && (decide (l.Root.Iv = (0 : UInt32)) && (decide (l.Root.Tag = (0 : UInt32)) && (decide (l.Root.Sum = (0 : UInt32)) && true))))) = decide (isNone l.Root) := none_dec l.Root
theorem label_may_eq (l : Label) : label_may l = some (decide (okL l)) := by
  unfold label_may
  rw [none_root, show Ptr.mk l.Root.At l.Root.Birth l.Root.Iv l.Root.Tag l.Root.Sum = l.Root from rfl, ptr_Check_eq']
  by_cases h : okL l
  · rw [decide_eq_true h]
    obtain ⟨h1, h2, h3, h4, h5, h6⟩ := h
    rw [decide_eq_true h1, decide_eq_true h2, decide_eq_true h3, decide_eq_true h4, decide_eq_false h5, if_pos (.inr h6)]
    rfl
  · rw [decide_eq_false h]
    by_cases h1 : ¬ ((1 : UInt32) ≤ l.Gen)
    · rw [decide_eq_false h1]; rfl
    replace h1 := Decidable.not_not.1 h1
    rw [decide_eq_true h1]
    by_cases h2 : ¬ (l.Gen ≤ 16777215)
    · rw [decide_eq_false h2]; rfl
    replace h2 := Decidable.not_not.1 h2
    rw [decide_eq_true h2]
    by_cases h3 : ¬ ((1 : UInt32) ≤ l.Epoch)
    · rw [decide_eq_false h3]; rfl
    replace h3 := Decidable.not_not.1 h3
    rw [decide_eq_true h3]
    by_cases h4 : ¬ (l.Epoch ≤ 65535)
    · rw [decide_eq_false h4]; rfl
    replace h4 := Decidable.not_not.1 h4
    rw [decide_eq_true h4]
    by_cases h5 : isNone l.Root
    · rw [decide_eq_true h5]; rfl
    rw [decide_eq_false h5]
    by_cases h6 : okR l.Root
    · exact absurd ⟨h1, h2, h3, h4, h5, h6⟩ h
    rw [if_neg (fun e => e.elim h5 h6)]
    rfl
def headL (l : Label) : List UInt8 := [67] ++ leB l.Gen.toNat 4 ++ leB l.Epoch.toNat 4 ++ ptrB l.Root
theorem headL_length (l : Label) : (headL l).length = 25 := by simp only [headL, List.length_append, leB_length, ptrB_length, List.length_cons, List.length_nil]
def blockL (l : Label) : List UInt8 := headL l ++ leB (sumOf (headL l)).toNat 4 ++ List.replicate 227 0
theorem blockL_length (l : Label) : (blockL l).length = 256 := by simp only [blockL, List.length_append, leB_length, headL_length, List.length_replicate]
theorem put4 (a : UInt32) : code_Put (a.toNat : Int) 4 = some (leB a.toNat 4, 0) := by
  have e4 : (256 : Nat) ^ 4 = 4294967296 := by decide
  exact code_Put_eq (k := 4) (by omega) (by omega) (by have := u32_lt a; omega)
theorem lim_big {n : Nat} (h : n ≤ 1000000) : n ≤ LIM := Nat.le_trans h (by decide)
theorem block_core (a c d : List UInt8) (ha : a.length = 4) (hc : c.length = 4) (hd : d.length = 16) :
   (app ([67] : List UInt8) a fun q_16 => app q_16 c fun q_20 => app q_20 d fun q_24 => Option.bind (mix_Sum q_24) fun x_31 => Option.bind (code_Put (x_31.toNat : Int) 4) fun x_33 => app q_24 x_33.1 fun q_37 => mks 227 (0 : UInt8) fun z_43 => app q_37 z_43 fun q_44 => some q_44)
   = some (([67] ++ a ++ c ++ d) ++ leB (sumOf ([67] ++ a ++ c ++ d)).toNat 4 ++ List.replicate 227 0) := by
  rw [app_eq (lim_big (by simp only [List.length_cons, List.length_nil]; omega)), app_eq (lim_big (by simp only [List.length_append, List.length_cons, List.length_nil]; omega)), app_eq (lim_big (by simp only [List.length_append, List.length_cons, List.length_nil]; omega))]
  generalize hh : ([67] ++ a ++ c ++ d : List UInt8) = q
  have hq : q.length = 25 := by subst hh; simp only [List.length_append, List.length_cons, List.length_nil]; omega
  rw [mix_Sum_eq (by omega), Option.bind_some, put4, Option.bind_some, app_eq (lim_big (by rw [hq]; simp only [leB_length]; omega))]
  generalize hp : q ++ leB (sumOf q).toNat 4 = p
  have hpl : p.length = 29 := by subst hp; rw [List.length_append, hq, leB_length]
  have hm : ∀ (K : List UInt8 → Option (List UInt8)), mks 227 (0 : UInt8) K = K (List.replicate 227 0) := fun K => mks_eq (n := 227) (lim_big (by omega))
  rw [hm]
  exact app_eq (lim_big (by rw [hpl, List.length_replicate]; omega))
theorem label_block_eq {l : Label} (h : okL l) : label_block l = some (blockL l) := by
  unfold label_block
  rw [put4, Option.bind_some, put4, Option.bind_some, show Ptr.mk l.Root.At l.Root.Birth l.Root.Iv l.Root.Tag l.Root.Sum = l.Root from rfl, ptr_Write_eq h.2.2.2.2.2, Option.bind_some]
  exact block_core _ _ _ (leB_length _ _) (leB_length _ _) (ptrB_length _)

/-- the label that a block's bytes say -/
def parseL (b : List UInt8) : Label := ⟨u32i (numB ((b.drop 1).take 4) : Int), u32i (numB ((b.drop 5).take 4) : Int), at5 ((b.drop 9).take 16)⟩
def readOk (b : List UInt8) : Prop := okL (parseL b) ∧ blockL (parseL b) = b
instance (b : List UInt8) : Decidable (readOk b) := by unfold readOk; infer_instance
theorem parse_blockL {l : Label} (h : okL l) : parseL (blockL l) = l := by
  have e4 : (256 : Nat) ^ 4 = 4294967296 := by decide
  have q0 : blockL l = [67] ++ (leB l.Gen.toNat 4 ++ (leB l.Epoch.toNat 4 ++ (ptrB l.Root ++ (leB (sumOf (headL l)).toNat 4 ++ List.replicate 227 0)))) := by simp only [blockL, headL, List.append_assoc]
  have q1 : (blockL l).drop 1 = leB l.Gen.toNat 4 ++ (leB l.Epoch.toNat 4 ++ (ptrB l.Root ++ (leB (sumOf (headL l)).toNat 4 ++ List.replicate 227 0))) := by rw [q0]; exact drop_app _ _ rfl
  have q2 : (blockL l).drop 5 = leB l.Epoch.toNat 4 ++ (ptrB l.Root ++ (leB (sumOf (headL l)).toNat 4 ++ List.replicate 227 0)) := by rw [show 5 = 1 + 4 from rfl, ← List.drop_drop, q1]; exact drop_app _ _ (leB_length _ _)
  have q3 : (blockL l).drop 9 = ptrB l.Root ++ (leB (sumOf (headL l)).toNat 4 ++ List.replicate 227 0) := by rw [show 9 = 5 + 4 from rfl, ← List.drop_drop, q2]; exact drop_app _ _ (leB_length _ _)
  unfold parseL
  rw [q1, q2, q3, take_app _ _ (leB_length _ 4), take_app _ _ (leB_length _ 4), take_app _ _ (ptrB_length _), at5_ptrB h.2.2.2.2.2, u32i_num (by have := u32_lt l.Gen; omega), u32i_num (by have := u32_lt l.Epoch; omega)]
theorem readOk_block {l : Label} (h : okL l) : readOk (blockL l) := by
  unfold readOk; rw [parse_blockL h]; exact ⟨h, rfl⟩
/-- what is read: only told where it is a label -/
theorem label_read_eq {b : List UInt8} (hb : b.length = 256) : ∃ l, label_read b = some (l, decide (readOk b)) ∧ (readOk b → l = parseL b) := by
  unfold label_read
  rw [show code_Get b 1 4 = some ((numB ((b.drop 1).take 4) : Int), 0) from code_Get_eq (at' := 1) (k := 4) (by omega) (by omega) (by omega) (by omega),
    show code_Get b 5 4 = some ((numB ((b.drop 5).take 4) : Int), 0) from code_Get_eq (at' := 5) (k := 4) (by omega) (by omega) (by omega) (by omega)]
  simp only [Option.bind_some]
  rw [slc_eq (by omega) (by omega) (by omega)]
  have hc : cut b 9 25 = (b.drop 9).take 16 := rfl
  rw [hc, ptr_Read_eq (by simp only [List.length_take, List.length_drop]; omega)]
  simp only [Option.bind_some]
  by_cases c : isNone (at5 ((b.drop 9).take 16)) ∨ okR (at5 ((b.drop 9).take 16))
  · rw [if_pos c]
    simp only [decide_true, cond_true]
    rw [show Label.mk (u32i (numB ((b.drop 1).take 4) : Int)) (u32i (numB ((b.drop 5).take 4) : Int)) (Ptr.mk (at5 ((b.drop 9).take 16)).At (at5 ((b.drop 9).take 16)).Birth (at5 ((b.drop 9).take 16)).Iv (at5 ((b.drop 9).take 16)).Tag (at5 ((b.drop 9).take 16)).Sum) = parseL b from rfl]
    rw [label_may_eq]
    simp only [Option.bind_some]
    by_cases h : okL (parseL b)
    · rw [decide_eq_true h]
      simp only [cond_true]
      rw [label_block_eq h]
      simp only [Option.bind_some, bytes_Equal]
      refine ⟨_, ?_, fun _ => rfl⟩
      congr 2
      exact decide_eq_decide.2 ⟨fun e => ⟨h, e⟩, fun e => e.2⟩
    · rw [decide_eq_false h]
      refine ⟨_, ?_, fun _ => rfl⟩
      rw [decide_eq_false (fun e : readOk b => h e.1)]
      rfl
  · rw [if_neg c]
    refine ⟨⟨u32i (numB ((b.drop 1).take 4) : Int), u32i (numB ((b.drop 5).take 4) : Int), ⟨0, 0, 0, 0, 0⟩⟩, ?_, fun e => absurd (.inr e.1.2.2.2.2.2) c⟩
    rw [decide_eq_false (fun e : readOk b => c (.inr e.1.2.2.2.2.2))]
    rfl

/-! ### What stands -/
def slotN (l : Label) : Nat := l.Gen.toNat % 4
theorem label_Slot_eq (g : UInt32) : label_Slot g = some ((g.toNat % 4 : Nat) : Int) := by
  unfold label_Slot
  rw [UInt32.toNat_mod]; rfl
/-- what stands in a slot of some blocks -/
def standB (B : List (List UInt8)) (s : Nat) : Option Label := match B[s]? with
  | some b => if readOk b ∧ slotN (parseL b) = s then some (parseL b) else none
  | none => none
def allB (B : List (List UInt8)) : List Label := (List.range 4).filterMap (standB B)
def sortG (l : List Label) : List Label := sortL (fun x y => (label_Find_1 x y).getD 0) l
def findD (d : Disk) : List Label × Int := if OKD d then (sortG (allB (seenB d)), 0) else ([], 8)
theorem find_loop {d : Disk} (h : OKD d) : loop (label_Find_l1 d) (([] : List Label), 0) = some (allB (seenB d)) := by
  have hl := seenB_length h
  have hall : ∀ b ∈ seenB d, b.length = 256 := layW_all h.2.2.1 (fun w hw => okW_data (h.2.2.2 w hw))
  obtain ⟨t, h1, h2⟩ := loop_rule (body := label_Find_l1 d) (fun s => s.2 ≤ 4 ∧ s.1 = (List.range s.2).filterMap (standB (seenB d))) (fun s => 4 - s.2) (fun t => t = allB (seenB d)) (by
    rintro ⟨r, i⟩ ⟨hi, hr⟩
    simp only at hi hr
    unfold label_Find_l1
    dsimp only
    rcases Nat.lt_or_ge i 4 with hlt | hge
    · left
      rw [decide_eq_true (show (i : Int) < 4 by omega)]
      simp only [cond_true]
      rw [dev_Read_eq h (by omega)]
      simp only [Option.bind_some]
      obtain ⟨l, hR, hL⟩ := label_read_eq (hall _ (List.getElem_mem (l := seenB d) (n := i) (by omega)))
      rw [hR]
      simp only [Option.bind_some]
      have hg : (seenB d)[i]? = some (seenB d)[i] := List.getElem?_eq_getElem (by omega)
      have hlen : r.length ≤ 4 := by
        rw [hr]; refine Nat.le_trans (List.length_filterMap_le _ _) ?_; simp; omega
      have hnext : (List.range (i + 1)).filterMap (standB (seenB d)) = r ++ (standB (seenB d) i).toList := by
        rw [List.range_succ, List.filterMap_append, ← hr]; cases hq : standB (seenB d) i <;> simp [hq]
      by_cases c : readOk (seenB d)[i]
      · obtain rfl := hL c
        rw [decide_eq_true c]
        simp only [cond_true]
        rw [label_Slot_eq]
        simp only [Option.bind_some]
        by_cases c2 : slotN (parseL (seenB d)[i]) = i
        · rw [decide_eq_true (show (((parseL (seenB d)[i]).Gen.toNat % 4 : Nat) : Int) = (i : Int) by have := c2; unfold slotN at this; omega)]
          simp only [cond_true]
          rw [app_eq (by simp only [List.length_cons, List.length_nil, LIM]; omega)]
          refine ⟨_, rfl, ⟨hlt, ?_⟩, by simp only; omega⟩
          simp only
          rw [hnext]
          unfold standB
          rw [hg]
          simp only
          rw [if_pos ⟨c, c2⟩]; rfl
        · rw [decide_eq_false (show ¬ (((parseL (seenB d)[i]).Gen.toNat % 4 : Nat) : Int) = (i : Int) from fun e => c2 (by unfold slotN; omega))]
          simp only [cond_false]
          refine ⟨_, rfl, ⟨hlt, ?_⟩, by simp only; omega⟩
          simp only
          rw [hnext]
          unfold standB
          rw [hg]
          simp only
          rw [if_neg (fun e => c2 e.2)]; simp
      · rw [decide_eq_false c]
        simp only [cond_false]
        refine ⟨_, rfl, ⟨hlt, ?_⟩, by simp only; omega⟩
        simp only
        rw [hnext]
        unfold standB
        rw [hg]
        simp only
        rw [if_neg (fun e => c e.1)]; simp
    · right
      have : i = 4 := by omega
      subst this
      refine ⟨_, rfl, hr⟩) (s := (([] : List Label), 0)) ⟨Nat.zero_le _, by simp⟩ (Nat.lt_of_le_of_lt (Nat.sub_le _ _) (small_lt (by omega)))
  rw [h1, h2]
theorem allB_len (B : List (List UInt8)) : (allB B).length ≤ 4 := Nat.le_trans (List.length_filterMap_le _ _) (by simp)
theorem label_Find_eq {d : Disk} (h : Sized d) : label_Find d = some (findD d) := by
  unfold label_Find findD
  rw [dev_Check_eq h]
  simp only [Option.bind_some]
  by_cases c : OKD d
  · rw [if_pos c, if_pos c]
    simp only [decide_true, Bool.not_true, cond_false]
    rw [find_loop c]
    simp only [Option.bind_some]
    unfold slices_SortFunc_Label_label_Find_1
    rw [if_pos (by have := allB_len (seenB d); omega)]
    rfl
  · rw [if_neg c, if_neg c]; rfl
def putD (d : Disk) (l : Label) : Disk × Int := if OKD d then (if okL l then writeD d ((slotN l : Nat) : Int) (blockL l) else (noD, 8)) else (noD, 8)
theorem label_Put_eq {d : Disk} (h : Sized d) (l : Label) : label_Put d l = some (putD d l) := by
  unfold label_Put putD
  rw [dev_Check_eq h]
  simp only [Option.bind_some]
  by_cases c : OKD d
  · rw [if_pos c, if_pos c]
    simp only [decide_true, Bool.not_true, cond_false]
    rw [label_may_eq]
    simp only [Option.bind_some]
    by_cases c2 : okL l
    · rw [decide_eq_true c2, if_pos c2]
      simp only [Bool.not_true, cond_false]
      rw [label_Slot_eq, label_block_eq c2]
      simp only [Option.bind_some]
      rw [dev_Write_eq h ⟨by omega, by omega⟩]
      rfl
    · rw [decide_eq_false c2, if_neg c2]; rfl
  · rw [if_neg c, if_neg c]; rfl
end Go.Ow
