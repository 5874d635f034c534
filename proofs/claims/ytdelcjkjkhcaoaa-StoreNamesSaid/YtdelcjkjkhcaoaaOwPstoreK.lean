/-
  What is proved here: no two blocks are sealed by one number; limits, errors, examples: the laws, in plain words.
-/
import Derived.Test.YtdelcjkjkhcaoaaOwPstoreJ
namespace Go.Ow
set_option linter.unusedVariables false
set_option linter.unusedSimpArgs false

/-! ### Examples -/
theorem law_StoreNames : law13_StoreNames = some true := by
  unfold law13_StoreNames
  rw [alive13, Option.bind_some, show (!true) = false from rfl, cond_false, mk256, store_New_eq, Option.bind_some]
  have hs := newS_ok.sized
  rw [lay_raw]
  rcases raw_cases hs 1 0 0 zeroBl with ⟨e, -, -, h⟩ | ⟨t, q, j, h1, h2, h7⟩
  · exact absurd (h newS_ok (by decide) zero_length) newS_room
  have hj : j = 12 := by have := h7.free; rw [show newS.Space = newT from rfl, newT_free] at this; exact (Option.some.inj this).symm
  rw [h1, Option.bind_some]
  dsimp only
  rw [store_Look_eq h7.okt.sized, Option.bind_some, h7.look h2, Option.bind_some, lay_raw]
  have a1 : askErr newS 0 (zeroBl.length = 256) = 2 := by unfold askErr; rw [if_pos newS_ok, if_neg (by decide)]
  rw [raw_err hs 0 0 0 zeroBl (by rw [a1]; decide), a1, Option.bind_some, Option.bind_some, lay_raw]
  have a2 : askErr newS 1 (([1] : List UInt8).length = 256) = 3 := by unfold askErr; rw [if_pos newS_ok, if_pos (by decide), if_neg (by decide)]
  rw [raw_err hs 1 0 0 [1] (by rw [a2]; decide), a2, Option.bind_some, Option.bind_some]
  rw [store_Look_eq hs, Option.bind_some, Option.bind_some, mk16]
  have a3 : (lookS newS (Ptr.mk 0 0 0 0 0)).2 = 6 := by
    unfold lookS
    have hn : isNone (Ptr.mk 0 0 0 0 0) := ⟨rfl, rfl, rfl, rfl, rfl⟩
    rw [if_pos ⟨newS_ok, .inl hn⟩, if_pos hn]
  have hb : OKSt (Store.mk (Disk.mk newS.Disk.Blocks newS.Disk.Waits) newS.Space newS.Epoch (65535 : UInt32)) := ⟨newD_ok, newT_ok, by decide, by decide, by decide⟩
  rw [seal_full hb.sized 1 zeroK zeroBl hb (by decide) ⟨rfl, zero_length⟩ rfl, Option.bind_some, Option.bind_some]
  dsimp only
  rw [a3, show q.At = 12 by rw [h7.ptr, hj]; rfl, show q.Birth = 1 by rw [h7.ptr], show q.Iv = 0 by rw [h7.ptr], decide_eq_true (show zeroBl = zeroBl from rfl)]
  rfl
end Go.Ow
