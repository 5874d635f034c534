/-
  What is proved here: what stands behind a put or a write; one label stands on a new disk: in plain words.
-/
import Derived.Test.YtdelcjkjkhcaoaaOwPstoreD
namespace Go.Ow
set_option linter.unusedVariables false
set_option linter.unusedSimpArgs false

theorem sized_no : Sized noD := ⟨by simp [noD], by simp [noD], by simp [noD]⟩
theorem writeD_cases (d : Disk) (at' : Int) (b : List UInt8) : ((writeD d at' b).2 ≠ 0 ∧ (writeD d at' b).1 = noD) ∨ (OKD d ∧ (0 ≤ at' ∧ at' < 256) ∧ b.length = 256 ∧ d.Waits.length ≠ 4096 ∧ writeD d at' b = (Disk.mk d.Blocks (d.Waits ++ [Write.mk at' b]), 0)) := by
  unfold writeD
  by_cases c : OKD d
  · by_cases c1 : 0 ≤ at' ∧ at' < 256
    · by_cases c2 : b.length = 256
      · by_cases c3 : d.Waits.length = 4096
        · left; rw [if_pos c, if_pos c1, if_pos c2, if_pos c3]; exact ⟨by decide, rfl⟩
        · right; rw [if_pos c, if_pos c1, if_pos c2, if_neg c3]; exact ⟨c, c1, c2, c3, rfl⟩
      · left; rw [if_pos c, if_pos c1, if_neg c2]; exact ⟨by decide, rfl⟩
    · left; rw [if_pos c, if_neg c1]; exact ⟨by decide, rfl⟩
  · left; rw [if_neg c]; exact ⟨by decide, rfl⟩
def zeroBl : List UInt8 := List.replicate 256 0
def newD : Disk := ⟨List.replicate 256 zeroBl, []⟩
theorem repeat_eq : slices_Repeat_int [256] 256 = some (List.replicate 256 256) := by decide +kernel
theorem zero_length : zeroBl.length = 256 := List.length_replicate
theorem new_mem {b : List UInt8} (h : b ∈ newD.Blocks) : b = zeroBl := List.eq_of_mem_replicate h
theorem new_length : newD.Blocks.length = 256 := List.length_replicate
theorem new_cut : dev_cut (List.replicate 256 (256 : Int)) = some newD.Blocks := by
  have e : List.replicate 256 (256 : Int) = newD.Blocks.map (fun b => (b.length : Int)) := by
    show _ = (List.replicate 256 zeroBl).map (fun b => (b.length : Int))
    rw [List.map_replicate, zero_length]; exact rfl
  rw [e, dev_cut_eq _ (by rw [new_length]; omega) (fun b hb => by rw [new_mem hb, zero_length]; omega)]
  show some ((List.replicate 256 zeroBl).map (fun b => List.replicate b.length (0 : UInt8))) = some (List.replicate 256 zeroBl)
  rw [List.map_replicate, zero_length]
  exact rfl
theorem dev_New_eq : dev_New = some newD := by
  unfold dev_New
  rw [repeat_eq, Option.bind_some, new_cut, Option.bind_some]
  exact rfl
theorem newD_ok : OKD newD := ⟨new_length, Nat.zero_le _, fun b hb => by rw [new_mem hb]; exact zero_length, fun w hw => by cases hw⟩

end Go.Ow
