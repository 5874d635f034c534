/-
  What is proved here: where there is room a block is laid; where a byte is turned, it is found: the laws, in plain words.
-/
import Derived.Test.YtdelcjkjkhcaoaaOwPstoreK
namespace Go.Ow
set_option linter.unusedVariables false
set_option linter.unusedSimpArgs false

/-! ### The next free block -/
/-! ### A byte that is turned -/
theorem guarded3_eq {d : Disk} (h : Sized d) (is : Bool) : dev_guarded_v3 d is d = some (if OKD d then (if is = true then (⟨seenB d, []⟩, 0, d) else (noD, 2, d)) else (noD, 8, d)) := by
  unfold dev_guarded_v3
  rw [dev_Check_eq h, Option.bind_some]
  by_cases c : OKD d
  · rw [if_pos c, if_pos c]
    cases is
    · rfl
    · unfold dev_Flush_1; rw [dev_left_eq c]; rfl
  · rw [if_neg c, if_neg c]; rfl
theorem dev_Flush_eq {d : Disk} (h : OKD d) : dev_Flush d = some (⟨seenB d, []⟩, 0) := by
  unfold dev_Flush
  rw [guarded3_eq h.sized, if_pos h, if_pos rfl]; rfl
theorem seen_okd {d : Disk} (h : OKD d) : OKD ⟨seenB d, []⟩ := okd_lay h d.Waits (fun w hw => hw)
def turned (B : List (List UInt8)) (j i : Nat) (by' : UInt8) : List (List UInt8) := B.set j ((B.getD j []).set i (((B.getD j []).getD i 0) ^^^ by'))
theorem dev_Tamper_eq {d : Disk} (h : OKD d) {j : Nat} (hj : j < 256) {byt : Int} (hb : InI64 byt) (by' : UInt8) :
    dev_Tamper d (j : Int) byt by' = some (if 0 ≤ byt ∧ byt < 256 then (⟨turned d.Blocks j byt.toNat by', d.Waits⟩, 0) else (noD, 2)) := by
  unfold dev_Tamper
  rw [dev_place_eq (inI64_of ⟨by omega, by omega⟩), Option.bind_some, decide_eq_true (show 0 ≤ (j : Int) ∧ (j : Int) < 256 by omega), cond_true, dev_place_eq hb, Option.bind_some]
  unfold dev_guarded_v4
  rw [dev_Check_eq h.sized, Option.bind_some, if_pos h, zdec, cond_false]
  by_cases c : 0 ≤ byt ∧ byt < 256
  · rw [decide_eq_true c, if_pos c, show (!true) = false from rfl, cond_false]
    obtain ⟨i, rfl⟩ := Int.eq_ofNat_of_zero_le c.1
    have hi : i < 256 := by omega
    have hjB : j < d.Blocks.length := by rw [h.1]; exact hj
    have hbl : (d.Blocks[j]).length = 256 := h.2.2.1 _ (List.getElem_mem hjB)
    have e1 : d.Blocks.getD j [] = d.Blocks[j] := by rw [List.getD_eq_getElem?_getD, List.getElem?_eq_getElem hjB, Option.getD_some]
    have e2 : (d.Blocks[j]).getD i 0 = (d.Blocks[j])[i]'(by omega) := by rw [List.getD_eq_getElem?_getD, List.getElem?_eq_getElem (by omega), Option.getD_some]
    unfold dev_Tamper_1 turned
    rw [dev_Twin_eq h.mid, Option.bind_some, idx_nat _ hjB, idx_nat _ (by omega), chk_eq ⟨by omega, by simp only [Int.toNat_natCast]; omega⟩, setI_eq (by omega) (by simp only [Int.toNat_natCast]; omega), setI_eq (by omega) (by simp only [Int.toNat_natCast]; omega)]
    rw [Int.toNat_natCast, Int.toNat_natCast, e1, e2]; rfl
  · rw [decide_eq_false c, if_neg c]; rfl
theorem turned_okd {d : Disk} (h : OKD d) (j i : Nat) (by' : UInt8) : OKD ⟨turned d.Blocks j i by', d.Waits⟩ := by
  refine ⟨by unfold turned; rw [List.length_set]; exact h.1, h.2.1, fun b hb => ?_, h.2.2.2⟩
  by_cases hj : j < d.Blocks.length
  · rcases List.mem_or_eq_of_mem_set hb with hb | hb
    · exact h.2.2.1 b hb
    · rw [hb, List.length_set, List.getD_eq_getElem?_getD, List.getElem?_eq_getElem hj, Option.getD_some]; exact h.2.2.1 _ (List.getElem_mem hj)
  · have hb : b ∈ d.Blocks.set j ((d.Blocks.getD j []).set i (((d.Blocks.getD j []).getD i 0) ^^^ by')) := hb
    rw [List.set_eq_of_length_le (by omega)] at hb; exact h.2.2.1 b hb
theorem law_StoreFinds (s : Store) (b : List UInt8) (byt : Int) (by' : UInt8) (hs : Sized s.Disk) (hb : InI64 byt) : law13_StoreFinds s b byt by' = some true := by
  unfold law13_StoreFinds
  obtain ⟨g, hg⟩ := great13_tot hs
  rw [alive13, Option.bind_some, hg]
  rw [show (!true) = false from rfl, cond_false, Option.bind_some]
  cases g
  case true => rfl
  rw [cond_false]
  by_cases c1 : 10000 < (b.length : Int)
  · rw [decide_eq_true c1]; rfl
  rw [decide_eq_false c1, cond_false, lay_raw]
  rcases raw_cases hs 1 0 0 b with ⟨e, h1, h2, -⟩ | ⟨t, q, j, h1, h2, h7⟩
  · rw [h1, Option.bind_some, ndec h2]; rfl
  have hp := h7.place
  rw [h1, Option.bind_some, zdec, cond_false, dev_Flush_eq h7.okt.1, Option.bind_some, zdec, cond_false]
  dsimp only
  have qa : q.At = (j : Int) := by rw [h7.ptr]
  rw [qa, dev_Tamper_eq (seen_okd h7.okt.1) hp.2 hb, Option.bind_some]
  by_cases c2 : 0 ≤ byt ∧ byt < 256
  case neg =>
    rw [if_neg c2, ndec (by omega), cond_true, cond_true]
    by_cases c3 : byt < 0
    · rw [decide_eq_true c3]; rfl
    · rw [decide_eq_false c3, decide_eq_true (show 255 < byt by omega)]; rfl
  rw [if_pos c2, zdec, cond_false]
  dsimp only
  have okx := turned_okd (seen_okd h7.okt.1) j byt.toNat by'
  have ok2 : OKSt (Store.mk (Disk.mk (turned (seenB t.Disk) j byt.toNat by') []) t.Space t.Epoch t.Count) := ⟨okx, h7.okt.2⟩
  obtain ⟨o1, o2⟩ := h7.okR h2
  have hjl : j < (seenB t.Disk).length := by rw [seenB_length h7.okt.1]; exact hp.2
  have hbj : (seenB t.Disk).getD j [] = b := by rw [h7.at, if_pos rfl]
  have hx : (seenB (Disk.mk (turned (seenB t.Disk) j byt.toNat by') [])).getD q.At.toNat [] = b.set byt.toNat (b.getD byt.toNat 0 ^^^ by') := by
    show (turned (seenB t.Disk) j byt.toNat by').getD q.At.toNat [] = _
    unfold turned
    rw [qa, Int.toNat_natCast, getD_set hjl, if_pos rfl, hbj]
  rw [store_Look_eq ok2.sized, Option.bind_some]
  have hl : lookS (Store.mk (Disk.mk (turned (seenB t.Disk) j byt.toNat by') []) t.Space t.Epoch t.Count) q = (if sumOf (b.set byt.toNat (b.getD byt.toNat 0 ^^^ by')) = sumOf b then (b.set byt.toNat (b.getD byt.toNat 0 ^^^ by'), 0) else ([], 130)) := by
    unfold lookS
    rw [if_pos ⟨ok2, .inr o1⟩, if_neg o2, hx, show q.Sum = sumOf b by rw [h7.ptr]]
  rw [hl]
  have hbl : b.length = 256 := h7.len
  by_cases c4 : sumOf (b.set byt.toNat (b.getD byt.toNat 0 ^^^ by')) = sumOf b
  · rw [if_pos c4, zdec, cond_false, cond_true]
    by_cases c5 : b.set byt.toNat (b.getD byt.toNat 0 ^^^ by') = b
    · rw [decide_eq_true c5]; rfl
    · rw [decide_eq_false c5, cond_false, mix_Sum_eq (by rw [List.length_set]; omega), Option.bind_some, mix_Sum_eq (by omega), Option.bind_some, decide_eq_true c4]; rfl
  · rw [if_neg c4, ndec (by omega), cond_true, cond_true]
    have hne : by' ≠ 0 := by
      intro e
      apply c4
      rw [e, UInt8.xor_zero]
      congr 1
      rw [List.getD_eq_getElem?_getD, List.getElem?_eq_getElem (by omega), Option.getD_some, List.set_getElem_self]
    rw [show decide ((130 : Int) = 130) = true from rfl, cond_true, decide_eq_false hne]; rfl
end Go.Ow
