/-
  What is proved here: a store that is new; what was laid is seen, what was sealed is opened; an example.
-/
import Derived.Test.YtdelcjkjkhcaoaaOwPstoreI
namespace Go.Ow
set_option linter.unusedVariables false
set_option linter.unusedSimpArgs false

theorem forL_tot' {α σ τ : Type} {f : α → σ → Option (σ ⊕ τ)} : ∀ {l : List α} {s : σ}, (∀ y s, ∃ o, f y s = some o) → ∃ o, forL f l s = some o
  | [], s, _ => ⟨_, rfl⟩
  | y :: l, s, h => by
    obtain ⟨o, h1⟩ := h y s
    cases o with
    | inl s' => rw [forL_cons h1]; exact forL_tot' h
    | inr e => rw [forL_stop h1]; exact ⟨_, rfl⟩
def greatF (n : Nat) (r : Int) : Option (Int ⊕ Int) := if r < 2000000 then some (.inl (w64 (r + (n : Int)))) else some (.inr r)
theorem great_tot {d : Disk} (h : Sized d) : ∃ g, ref09_Great d = some g := by
  have L1 : ∀ r0, ∃ t, loop (ref09_Great_l1 d) (r0, 0) = some t := fun r0 => by
    rw [loop_each' d.Blocks (fun i (r : Int) => (r, i)) (fun b r => greatF b.length r) (fun r => r) (fun i hi r => ?_) (fun r => ?_) (small_lt h.blocks) r0]
    · obtain ⟨o, ho⟩ := forL_tot' (f := fun (b : List UInt8) (r : Int) => greatF b.length r) (l := d.Blocks) (s := r0) (fun y s => by unfold greatF; split <;> exact ⟨_, rfl⟩)
      rw [ho]; cases o <;> exact ⟨_, rfl⟩
    · unfold ref09_Great_l1 greatF
      rw [cI, if_pos hi]
      by_cases c : r < 2000000
      · rw [decide_eq_true c, if_pos c, cond_true, idx_nat _ hi]; rfl
      · rw [decide_eq_false c, if_neg c]; rfl
    · unfold ref09_Great_l1
      rw [cI, if_neg (by omega)]
  have L2 : ∀ r0, ∃ t, loop (ref09_Great_l2 d) (r0, 0) = some t := fun r0 => by
    rw [loop_each' d.Waits (fun i (r : Int) => (r, i)) (fun b r => greatF b.Data.length r) (fun r => r) (fun i hi r => ?_) (fun r => ?_) (small_lt h.waits) r0]
    · obtain ⟨o, ho⟩ := forL_tot' (f := fun (b : Write) (r : Int) => greatF b.Data.length r) (l := d.Waits) (s := r0) (fun y s => by unfold greatF; split <;> exact ⟨_, rfl⟩)
      rw [ho]; cases o <;> exact ⟨_, rfl⟩
    · unfold ref09_Great_l2 greatF
      rw [cI, if_pos hi]
      by_cases c : r < 2000000
      · rw [decide_eq_true c, if_pos c, cond_true, idx_nat _ hi]; rfl
      · rw [decide_eq_false c, if_neg c]; rfl
    · unfold ref09_Great_l2
      rw [cI, if_neg (by omega)]
  unfold ref09_Great
  have key : ∃ t, (cond (decide (500 < (d.Blocks.length : Int))) (some (.inr ())) (cond (decide (500 < (d.Waits.length : Int))) (cond (decide ((d.Waits.length : Int) < 4096)) (some (.inr ())) (cond (decide (4106 < (d.Waits.length : Int))) (some (.inr ())) (some (.inl ())))) (cond (decide (4106 < (d.Waits.length : Int))) (some (.inr ())) (some (.inl ()))))) = some (t : Unit ⊕ Unit) := by
    generalize decide (500 < (d.Blocks.length : Int)) = b1
    generalize decide (500 < (d.Waits.length : Int)) = b2
    generalize decide ((d.Waits.length : Int) < 4096) = b3
    generalize decide (4106 < (d.Waits.length : Int)) = b4
    cases b1 <;> cases b2 <;> cases b3 <;> cases b4 <;> exact ⟨_, rfl⟩
  obtain ⟨t, ht⟩ := key
  rw [ht, Option.bind_some]
  cases t with
  | inl _ =>
    obtain ⟨t1, h1⟩ := L1 0
    obtain ⟨t2, h2⟩ := L2 t1
    simp only [Sum.elim_inl]
    rw [h1, Option.bind_some, h2, Option.bind_some]
    exact ⟨_, rfl⟩
  | inr _ => exact ⟨_, rfl⟩

theorem great13_tot {s : Store} (h : Sized s.Disk) : ∃ g, ref13_Great s = some g := by
  obtain ⟨g, hg⟩ := great_tot h
  unfold ref13_Great
  rw [show ref09_Great (Disk.mk s.Disk.Blocks s.Disk.Waits) = some g from hg, Option.bind_some]
  cases g <;> exact ⟨_, rfl⟩

/-! ### What was laid is seen -/
theorem PutAt.okR {s : Store} {p : Ptr} {b : List UInt8} {t : Store} {q : Ptr} {j : Nat} (h : PutAt s p b t q j) (hb : birthOk p.Birth) : okR q ∧ ¬ isNone q := by
  have hp := h.place
  rw [h.ptr]
  exact ⟨⟨by show (12 : Int) ≤ (j : Int); omega, by show (j : Int) < 256; omega, hb.1, hb.2⟩, fun hn => by have : (j : Int) = 0 := hn.1; omega⟩
theorem getD_set {B : List (List UInt8)} {j : Nat} (hj : j < B.length) (b : List UInt8) (i : Nat) : (B.set j b).getD i [] = if i = j then b else B.getD i [] := by
  rw [List.getD_eq_getElem?_getD, List.getElem?_set]
  by_cases c : i = j
  · subst c; rw [if_pos rfl, if_pos hj, if_pos rfl]; rfl
  · rw [if_neg (fun e => c e.symm), if_neg c, List.getD_eq_getElem?_getD]
theorem PutAt.at {s : Store} {p : Ptr} {b : List UInt8} {t : Store} {q : Ptr} {j : Nat} (h : PutAt s p b t q j) (i : Nat) : (seenB t.Disk).getD i [] = if i = j then b else (seenB s.Disk).getD i [] := by
  have hp := h.place
  rw [h.seen, getD_set (by rw [seenB_length h.ok.1]; omega)]
theorem PutAt.look {s : Store} {p : Ptr} {b : List UInt8} {t : Store} {q : Ptr} {j : Nat} (h : PutAt s p b t q j) (hb : birthOk p.Birth) : lookS t q = (b, 0) := by
  obtain ⟨h1, h2⟩ := h.okR hb
  refine lookS_is h.okt h2 h1 ?_ (by rw [h.ptr])
  rw [h.at, show q.At.toNat = j by rw [h.ptr]; rfl, if_pos rfl]
/-- what was looked at elsewhere is looked at as before -/
theorem PutAt.other {s : Store} {p : Ptr} {b : List UInt8} {t : Store} {q : Ptr} {j : Nat} (h : PutAt s p b t q j) {x : Ptr} (hx : (lookS s x).2 = 0) (hj : x.At.toNat ≠ j) : lookS t x = lookS s x := by
  obtain ⟨k1, k2, k3, k4, k5⟩ := lookS_ok hx
  rw [lookS_is h.okt k2 k3 (b := (seenB s.Disk).getD x.At.toNat []) (by rw [h.at, if_neg hj]) k5, lookS_is k1 k2 k3 rfl k5]
theorem sealed_open {s : Store} {birth : UInt32} {key b : List UInt8} {t : Store} {q : Ptr} {j : Nat} (h : PutAt (more s) ⟨0, birth, ivOf s, sealT key (ivOf s) (turnB key (ivOf s) b), 0⟩ (turnB key (ivOf s) b) t q j) (hb : birthOk birth) (hk : key.length = 16) :
    openS t q key = (b, 0) := by
  unfold openS
  rw [h.look hb]
  dsimp only
  rw [if_pos rfl, if_pos hk, h.ptr]
  dsimp only
  rw [if_pos rfl, turnB_turnB hk]

/-! ### A new store -/
def newT : List UInt8 := List.replicate 12 1 ++ List.replicate 244 0
def newS : Store := ⟨newD, newT, 1, 0⟩
theorem repeat_one : bytes_Repeat [1] 12 = some (List.replicate 12 1) := by decide +kernel
theorem space_New_eq : space_New = some newT := by
  unfold space_New
  rw [repeat_one, Option.bind_some, show (244 : Int) = ((244 : Nat) : Int) from rfl, mks_eq (lim_le (by omega)), app_eq (lim_le (by rw [List.length_replicate, List.length_replicate]; omega))]; rfl
theorem store_New_eq : store_New = some newS := by
  unfold store_New
  rw [dev_New_eq, Option.bind_some, space_New_eq]; rfl
theorem newT_ok : okS newT := by decide +kernel
theorem newS_ok : OKSt newS := ⟨newD_ok, newT_ok, by decide, by decide, by decide⟩
theorem newT_free : freeFrom newT 0 = some 12 := by decide +kernel
theorem newS_room : ¬ (freeFrom newS.Space 0 = none ∨ newS.Disk.Waits.length = 4096) := by
  rintro (h | h)
  · rw [show newS.Space = newT from rfl, newT_free] at h; cases h
  · exact absurd h (by decide)
theorem mk256 {β : Type} (k : List UInt8 → Option β) : mks 256 (0 : UInt8) k = k zeroBl := by
  rw [show (256 : Int) = ((256 : Nat) : Int) from rfl, mks_eq (lim_le (by omega))]; rfl
def zeroK : List UInt8 := List.replicate 16 0
theorem mk16 {β : Type} (k : List UInt8 → Option β) : mks 16 (0 : UInt8) k = k zeroK := by
  rw [show (16 : Int) = ((16 : Nat) : Int) from rfl, mks_eq (lim_le (by omega))]; rfl
theorem alive13 : law13_alive = some true := by
  unfold law13_alive
  rw [mk256, mk16, Option.bind_some, store_New_eq, Option.bind_some]
  dsimp only
  rcases seal_cases newS_ok.sized 1 zeroK zeroBl with ⟨e, -, -, h⟩ | ⟨t, q, j, h1, h2, h3, h4, h5, h6, h7⟩
  · exact absurd (h newS_ok (by decide) (by decide) rfl zero_length) newS_room
  · rw [h1, Option.bind_some]
    dsimp only
    rw [store_Open_eq h7.okt.sized, Option.bind_some, sealed_open h7 h4 h5]
    have hj : j = 12 := by have := h7.free; rw [show (more newS).Space = newT from rfl, newT_free] at this; exact (Option.some.inj this).symm
    rw [show q.At = 12 by rw [h7.ptr, hj]; rfl, show q.Iv = 65537 by rw [h7.ptr]; rfl, show t.Count = 1 by rw [h7.out]; rfl]
    dsimp only
    rw [show decide ((0 : Int) = 0) = true from rfl, show decide ((12 : Int) = 12) = true from rfl, show decide ((65537 : UInt32) = 65537) = true from rfl, show decide ((1 : UInt32) = 1) = true from rfl, decide_eq_true (show zeroBl = zeroBl from rfl)]
    rfl
end Go.Ow
