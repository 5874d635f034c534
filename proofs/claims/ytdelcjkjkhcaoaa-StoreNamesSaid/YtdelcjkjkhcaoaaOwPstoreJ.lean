/-
  What is proved here: a store that is new; what was laid is seen, what was sealed is opened; an example.
-/
import Derived.Test.YtdelcjkjkhcaoaaOwPstoreI
namespace Go.Ow
set_option linter.unusedVariables false
set_option linter.unusedSimpArgs false

/-! ### What was laid is seen -/
theorem PutAt.okR {s : Store} {p : Ptr} {b : List UInt8} {t : Store} {q : Ptr} {j : Nat} (h : PutAt s p b t q j) (hb : birthOk p.Birth) : okR q ∧ ¬ isNone q := by
  have hp := h.place
  rw [h.ptr]
  exact ⟨⟨by show (12 : Int) ≤ (j : Int); omega, by show (j : Int) < 256; omega, hb.1, hb.2⟩, fun hn => by have : (j : Int) = 0 := hn.1; omega⟩
theorem getD_set {B : List (List UInt8)} {j : Nat} (hj : j < B.length) (b : List UInt8) (i : Nat) : (B.set j b).getD i [] = if i = j then b else B.getD i [] := by
  rw [List.getD_eq_getElem?_getD, List.getElem?_set]
  by_cases c : i = j
  · subst c; rw [if_pos rfl, if_pos hj, if_pos rfl]; rfl
  · rw [if_neg (fun e => c e.symm), if_neg c, List.getD_eq_getElem?_getD]
theorem PutAt.at {s : Store} {p : Ptr} {b : List UInt8} {t : Store} {q : Ptr} {j : Nat} (h : PutAt s p b t q j) (i : Nat) : (seenB t.Disk).getD i [] = if i = j then b else (seenB s.Disk).getD i [] := by
  have hp := h.place
  rw [h.seen, getD_set (by rw [seenB_length h.ok.1]; omega)]
theorem PutAt.look {s : Store} {p : Ptr} {b : List UInt8} {t : Store} {q : Ptr} {j : Nat} (h : PutAt s p b t q j) (hb : birthOk p.Birth) : lookS t q = (b, 0) := by
  obtain ⟨h1, h2⟩ := h.okR hb
  refine lookS_is h.okt h2 h1 ?_ (by rw [h.ptr])
  rw [h.at, show q.At.toNat = j by rw [h.ptr]; rfl, if_pos rfl]
theorem sealed_open {s : Store} {birth : UInt32} {key b : List UInt8} {t : Store} {q : Ptr} {j : Nat} (h : PutAt (more s) ⟨0, birth, ivOf s, sealT key (ivOf s) (turnB key (ivOf s) b), 0⟩ (turnB key (ivOf s) b) t q j) (hb : birthOk birth) (hk : key.length = 16) :
    openS t q key = (b, 0) := by
  unfold openS
  rw [h.look hb]
  dsimp only
  rw [if_pos rfl, if_pos hk, h.ptr]
  dsimp only
  rw [if_pos rfl, turnB_turnB hk]

/-! ### A new store -/
def newT : List UInt8 := List.replicate 12 1 ++ List.replicate 244 0
def newS : Store := ⟨newD, newT, 1, 0⟩
theorem repeat_one : bytes_Repeat [1] 12 = some (List.replicate 12 1) := by decide +kernel
theorem space_New_eq : space_New = some newT := by
  unfold space_New
  rw [repeat_one, Option.bind_some, show (244 : Int) = ((244 : Nat) : Int) from rfl, mks_eq (lim_le (by omega)), app_eq (lim_le (by rw [List.length_replicate, List.length_replicate]; omega))]; rfl
theorem store_New_eq : store_New = some newS := by
  unfold store_New
  rw [dev_New_eq, Option.bind_some, space_New_eq]; rfl
theorem newT_ok : okS newT := by decide +kernel
theorem newS_ok : OKSt newS := ⟨newD_ok, newT_ok, by decide, by decide, by decide⟩
theorem newT_free : freeFrom newT 0 = some 12 := by decide +kernel
theorem newS_room : ¬ (freeFrom newS.Space 0 = none ∨ newS.Disk.Waits.length = 4096) := by
  rintro (h | h)
  · rw [show newS.Space = newT from rfl, newT_free] at h; cases h
  · exact absurd h (by decide)
theorem mk256 {β : Type} (k : List UInt8 → Option β) : mks 256 (0 : UInt8) k = k zeroBl := by
  rw [show (256 : Int) = ((256 : Nat) : Int) from rfl, mks_eq (lim_le (by omega))]; rfl
def zeroK : List UInt8 := List.replicate 16 0
theorem mk16 {β : Type} (k : List UInt8 → Option β) : mks 16 (0 : UInt8) k = k zeroK := by
  rw [show (16 : Int) = ((16 : Nat) : Int) from rfl, mks_eq (lim_le (by omega))]; rfl
theorem alive13 : law13_alive = some true := by
  unfold law13_alive
  rw [mk256, mk16, Option.bind_some, store_New_eq, Option.bind_some]
  dsimp only
  rcases seal_cases newS_ok.sized 1 zeroK zeroBl with ⟨e, -, -, h⟩ | ⟨t, q, j, h1, h2, h3, h4, h5, h6, h7⟩
  · exact absurd (h newS_ok (by decide) (by decide) rfl zero_length) newS_room
  · rw [h1, Option.bind_some]
    dsimp only
    rw [store_Open_eq h7.okt.sized, Option.bind_some, sealed_open h7 h4 h5]
    have hj : j = 12 := by have := h7.free; rw [show (more newS).Space = newT from rfl, newT_free] at this; exact (Option.some.inj this).symm
    rw [show q.At = 12 by rw [h7.ptr, hj]; rfl, show q.Iv = 65537 by rw [h7.ptr]; rfl, show t.Count = 1 by rw [h7.out]; rfl]
    dsimp only
    rw [show decide ((0 : Int) = 0) = true from rfl, show decide ((12 : Int) = 12) = true from rfl, show decide ((65537 : UInt32) = 65537) = true from rfl, show decide ((1 : UInt32) = 1) = true from rfl, decide_eq_true (show zeroBl = zeroBl from rfl)]
    rfl
end Go.Ow
