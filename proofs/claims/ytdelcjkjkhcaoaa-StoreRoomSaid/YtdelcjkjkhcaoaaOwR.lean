/-
  What is proved here: what a reading of an argument says, as a datum that lies in the memory at the law's beginning; the lift of a law's walk to its contract.
-/
import Derived.Test.YtdelcjkjkhcaoaaOwT
import Derived.Carry
import Derived.WalkKit
import Derived.ProofKit
import Derived.OpenShut
import Derived.JoinedCond
namespace Go.Ow
open Go.ChangeShapes Go.WideShapes Go.ChangeAt Go.RowKit
set_option linter.unusedVariables false
set_option linter.unusedSimpArgs false

/-- the memory at the beginning -/
def HW (W : World) : Heaplet := fun b o => W.cell? ⟨b, o, none⟩
theorem agrees_HW (W : World) : Agrees (HW W) W := fun _ _ _ h => h

/-- a seat's own 'bulk', by its equations -/
structure Bulk (H : Type) where
  one : DataW H → Nat
  all : List (DataW H) → Nat
  hstr : ∀ l : List UInt8, one (.lit (.string l)) = l.length + 1
  hsl : ∀ a b, one (.slice a b) = all a + all b + 1
  hagg : ∀ a, one (.agg a) = all a + 1
  hnil : all [] = 0
  hcons : ∀ d r, all (d :: r) = one d + all r
  hone : ∀ d, 1 ≤ one d

section
variable {H : Type} {enc : TypeId × Value → H} {P : Program} {W : World} {B : Bulk H}

theorem Bulk.append (l r : List (DataW H)) : B.all (l ++ r) = B.all l + B.all r := by
  induction l with
  | nil => simp [B.hnil]
  | cons x l ih => simp only [List.cons_append, B.hcons, ih]; omega
/-- what a reading of cells of a type says: a datum, as large as told, that is as told -/
def Reads (enc : TypeId × Value → H) (P : Program) (W : World) (B : Bulk H) (t : TypeId) {α : Type} (R : Rep α) (size : Nat) (big : α → Nat) (I : α → Prop) : Prop :=
  ∀ fuel cs d ps, DataW.trod enc P W 0 (fun _ => true) true fuel t cs = some (d, ps) → ∃ x, R (HW W) cs x ∧ cs.length = size ∧ big x ≤ B.one d ∧ I x

theorem has_iff {k : IntKind} {n : Int} (h : (Lit.int k n).wf = true) : k.min ≤ n ∧ n ≤ k.max := by
  simpa [Lit.wf] using h
theorem reads_int {t : TypeId} (ht : P.underlying t = some (.int .i64)) : Reads enc P W B t RInt 1 (fun _ => 1) InI64 := fun fuel cs d ps h => by
  obtain ⟨n, rfl, hx, hw⟩ := DataW.trod_int ht h
  exact ⟨n, rfl, rfl, B.hone _, by simpa [InI64, IntKind.min, IntKind.max, IntKind.signed, IntKind.bits] using has_iff hw⟩
theorem reads_u8 {t : TypeId} (ht : P.underlying t = some (.int .u8)) : Reads enc P W B t RU8 1 (fun _ => 1) (fun _ => True) := fun fuel cs d ps h => by
  obtain ⟨n, rfl, hx, hw⟩ := DataW.trod_int ht h
  have := has_iff hw
  simp only [IntKind.min, IntKind.max, IntKind.signed, IntKind.bits] at this
  refine ⟨UInt8.ofNat n.toNat, ?_, rfl, B.hone _, trivial⟩
  show [Value.int .u8 n] = [.int .u8 (UInt8.ofNat n.toNat).toNat]
  have h2 : n.toNat < 256 := by simp at this; omega
  rw [UInt8.toNat_ofNat_of_lt' (by simpa [UInt8.size] using h2)]
  simp at this
  congr 2; omega
theorem reads_u32 {t : TypeId} (ht : P.underlying t = some (.int .u32)) : Reads enc P W B t RU32 1 (fun _ => 1) (fun _ => True) := fun fuel cs d ps h => by
  obtain ⟨n, rfl, hx, hw⟩ := DataW.trod_int ht h
  have := has_iff hw
  simp only [IntKind.min, IntKind.max, IntKind.signed, IntKind.bits] at this
  refine ⟨UInt32.ofNat n.toNat, ?_, rfl, B.hone _, trivial⟩
  show [Value.int .u32 n] = [.int .u32 (UInt32.ofNat n.toNat).toNat]
  have h2 : n.toNat < 4294967296 := by simp at this; omega
  rw [UInt32.toNat_ofNat_of_lt' (by simpa [UInt32.size] using h2)]
  simp at this
  congr 2; omega
/-- the bulk of a list of data -/
def bigs {α : Type} (big : α → Nat) (l : List α) : Nat := (l.map big).sum + 1

theorem reads_slice {α : Type} {t e : TypeId} {R : Rep α} {size : Nat} {big : α → Nat} {I : α → Prop} (ht : P.underlying t = some (.slice e)) (hc : P.cellsOf e = size) (hpos : 0 < size) (he : Reads enc P W B e R size big I) :
    ∀ fuel cs d ps, DataW.trod enc P W 0 (fun _ => true) true fuel t cs = some (d, ps) → ∃ ao n cap, cs = [.slice ao n cap] ∧ ∃ l, IsSlice (HW W) R size (.slice ao n cap) l ∧ bigs big l ≤ B.one d ∧ ∀ x ∈ l, I x := fun fuel cs d ps h => by
  rcases DataW.trod_slice ht h with ⟨rfl, hx⟩ | ⟨a, len, cap, elems, rst, m, _, rfl, hx, _, hlc, hcm, hlen, hel, hrest, _⟩
  · exact ⟨none, 0, 0, rfl, [], IsSlice.nil _ _ _, by simp [bigs]; exact B.hone _, by simp⟩
  · have hspot : cap = 0 ∨ a.spot = none := by
      by_cases h0 : cap = 0
      · exact .inl h0
      right
      have hsome : ∃ cs', W.cells? 0 a (P.cellsOf e) = some cs' := by
        by_cases hl : len = 0
        · subst hl
          obtain ⟨hr1, hr2⟩ := hrest rfl
          have := hr2 0 (by omega)
          have h3 : (rst[0]?).isSome = true := by rw [List.getElem?_eq_getElem (by omega)]; rfl
          rw [← this] at h3
          cases h4 : W.cells? 0 (a.add ((0 + 0) * P.cellsOf e)) (P.cellsOf e) with
          | none => rw [h4] at h3; simp at h3
          | some c => exact ⟨c, by simpa [Addr.add] using h4⟩
        · have := hel 0 (by omega)
          have h3 : (elems[0]?).isSome = true := by rw [List.getElem?_eq_getElem (by omega)]; rfl
          rw [← this] at h3
          cases h4 : W.cells? 0 (a.add (0 * P.cellsOf e)) (P.cellsOf e) with
          | none => rw [h4] at h3; simp at h3
          | some c => exact ⟨c, by simpa [Addr.add] using h4⟩
      obtain ⟨cs', hcs'⟩ := hsome
      obtain ⟨_, hl', hc'⟩ := World.cells?_some hcs'
      have := hc' 0 (by omega)
      have h5 : (cs'[0]?).isSome = true := by rw [List.getElem?_eq_getElem (by omega)]; rfl
      rw [← this] at h5
      have h6 : a.add 0 = a := by simp [Addr.add]
      rw [h6] at h5
      cases hs : a.spot with
      | none => rfl
      | some s =>
        unfold World.cell? at h5
        rw [hs] at h5
        split at h5 <;> simp at h5
    have key : ∀ (k : Nat), k ≤ len → ∃ l : List α, l.length = k ∧ (l.map big).sum ≤ B.all ((elems.take k).map (·.1)) ∧ (∀ x ∈ l, I x) ∧
        ∀ i y, l[i]? = some y → ∃ cs, W.cells? 0 (a.add (i * size)) size = some cs ∧ R (HW W) cs y ∧ cs.length = size := by
      intro k
      induction k with
      | zero => intro _; exact ⟨[], rfl, by simp, by simp, by simp⟩
      | succ k ih =>
        intro hk
        obtain ⟨l, hl, hb, hI, hi⟩ := ih (by omega)
        have h1 := hel k (by omega)
        have hk' : k < elems.length := by omega
        rw [List.getElem?_eq_getElem hk'] at h1
        cases h4 : W.cells? 0 (a.add (k * P.cellsOf e)) (P.cellsOf e) with
        | none => rw [h4] at h1; simp at h1
        | some c =>
          rw [h4] at h1
          simp only [Option.bind_some] at h1
          obtain ⟨y, hy1, hy2, hy3, hy4⟩ := he m c elems[k].1 elems[k].2 h1
          refine ⟨l ++ [y], by simp [hl], ?_, ?_, ?_⟩
          · rw [List.map_append, List.sum_append, List.take_succ_eq_append_getElem hk', List.map_append, B.append]
            simp only [List.map_cons, List.map_nil, List.sum_cons, List.sum_nil, B.hcons, B.hnil]
            omega
          · intro x hx
            rcases List.mem_append.1 hx with hx | hx
            · exact hI x hx
            · simp at hx; subst hx; exact hy4
          · intro i z hz
            by_cases hi' : i < k
            · rw [List.getElem?_append_left (by omega)] at hz
              exact hi i z hz
            · have hik : i = k := by
                have := (List.getElem?_eq_some_iff.1 hz).1
                simp at this; omega
              subst hik
              rw [List.getElem?_append_right (by omega)] at hz
              simp [hl] at hz; subst hz
              exact ⟨c, by rw [← hc]; exact h4, hy1, hy2⟩
    obtain ⟨l, hl, hb, hI, hi⟩ := key len (Nat.le_refl _)
    refine ⟨some a, len, cap, rfl, l, ⟨some a, cap, by rw [hl], by omega, hcm, fun a' e' => ?_, fun e' => (by cases e'), fun i y hy => ?_⟩, ?_, hI⟩
    · cases e'; exact hspot
    · have hlt := (List.getElem?_eq_some_iff.1 hy).1
      have hsp : a.spot = none := hspot.resolve_left (by omega)
      obtain ⟨b, o, s⟩ := a
      simp at hsp; subst hsp
      obtain ⟨cs, h1, h2, h3⟩ := hi i y hy
      refine ⟨b, o, cs, rfl, h3, h2, fun j u hu => ?_⟩
      obtain ⟨_, _, h5⟩ := World.cells?_some h1
      have hj : j < size := by have := (List.getElem?_eq_some_iff.1 hu).1; omega
      have h6 := h5 j hj
      rw [hu] at h6
      have e1 : (Addr.add (Addr.add ⟨b, o, none⟩ (i * size)) j) = ⟨b, o + i * size + j, none⟩ := by
        unfold Addr.add; split <;> split <;> simp_all
      rw [e1] at h6
      exact h6
    · simp only [Prod.mk.injEq] at hx
      rw [hx.1, B.hsl]
      rw [List.take_of_length_le (by omega)] at hb
      unfold bigs; omega
theorem reads_sl {α : Type} {t e : TypeId} {R : Rep α} {size : Nat} {big : α → Nat} {I : α → Prop} (ht : P.underlying t = some (.slice e)) (hc : P.cellsOf e = size) (hpos : 0 < size) (he : Reads enc P W B e R size big I) :
    Reads enc P W B t (RSl R size) 1 (bigs big) (fun l => ∀ x ∈ l, I x) := fun fuel cs d ps h => by
  obtain ⟨ao, n, cap, rfl, l, h1, h2, h3⟩ := reads_slice ht hc hpos he fuel cs d ps h
  exact ⟨l, ⟨_, rfl, h1⟩, rfl, h2, h3⟩
end
end Go.Ow
