/-
  What is proved here: what stands behind a put or a write; one label stands on a new disk: in plain words.
-/
import Derived.Test.YtdelcjkjkhcaoaaOwPstoreD
namespace Go.Ow
set_option linter.unusedVariables false
set_option linter.unusedSimpArgs false

def zeroBl : List UInt8 := List.replicate 256 0
def newD : Disk := ⟨List.replicate 256 zeroBl, []⟩
theorem repeat_eq : slices_Repeat_int [256] 256 = some (List.replicate 256 256) := by decide +kernel
theorem zero_length : zeroBl.length = 256 := List.length_replicate
theorem new_mem {b : List UInt8} (h : b ∈ newD.Blocks) : b = zeroBl := List.eq_of_mem_replicate h
theorem new_length : newD.Blocks.length = 256 := List.length_replicate
theorem new_cut : dev_cut (List.replicate 256 (256 : Int)) = some newD.Blocks := by
  have e : List.replicate 256 (256 : Int) = newD.Blocks.map (fun b => (b.length : Int)) := by
    show _ = (List.replicate 256 zeroBl).map (fun b => (b.length : Int))
    rw [List.map_replicate, zero_length]; exact rfl
  rw [e, dev_cut_eq _ (by rw [new_length]; omega) (fun b hb => by rw [new_mem hb, zero_length]; omega)]
  show some ((List.replicate 256 zeroBl).map (fun b => List.replicate b.length (0 : UInt8))) = some (List.replicate 256 zeroBl)
  rw [List.map_replicate, zero_length]
  exact rfl
theorem dev_New_eq : dev_New = some newD := by
  unfold dev_New
  rw [repeat_eq, Option.bind_some, new_cut, Option.bind_some]
  exact rfl
theorem newD_ok : OKD newD := ⟨new_length, Nat.zero_le _, fun b hb => by rw [new_mem hb]; exact zero_length, fun w hw => by cases hw⟩

end Go.Ow
