import Derived.Test.YtdoebbgjjlicjaaGreatOwMb
import Derived.HandedShaped
import Derived.Test.YtdoebbgjjlicjaaGreatOwMc
/-
  What is proved here: what a reading of an argument says, where no slice that is met takes more than the form's reach.
-/
namespace Go.Ow
open Go.ChangeShapes Go.WideShapes Go.ChangeAt Go.RowKit
set_option linter.unusedVariables false
set_option linter.unusedSimpArgs false

section
variable {H : Type} {enc : TypeId × Value → H} {P : Program} {W : World} {B : Bulk H}
/-- no slice that is met takes more than the reach -/
def Fits (P : Program) (t : TypeId) (d : DataW H) : Prop := (d.weights P t).all (· ≤ reachBytes) = true
def FitsEach (P : Program) (ts : List TypeId) (ds : List (DataW H)) : Prop := (DataW.weightsEach P ts ds).all (· ≤ reachBytes) = true
theorem fits_cons {t : TypeId} {ts : List TypeId} {d : DataW H} {ds : List (DataW H)} (h : FitsEach P (t :: ts) (d :: ds)) : Fits P t d ∧ FitsEach P ts ds := by
  unfold FitsEach at h
  rw [DataW.weightsEach, List.all_append, Bool.and_eq_true] at h
  exact h
theorem fits_all {e : TypeId} : ∀ {ds : List (DataW H)}, (DataW.weightsAll P e ds).all (· ≤ reachBytes) = true → ∀ d ∈ ds, Fits P e d
  | [], _, d, hd => by cases hd
  | x :: r, h, d, hd => by
    rw [DataW.weightsAll, List.all_append, Bool.and_eq_true] at h
    rcases List.mem_cons.1 hd with rfl | hd
    · exact h.1
    · exact fits_all h.2 d hd
theorem fits_slice {t e : TypeId} {a b : List (DataW H)} (ht : P.underlying t = some (.slice e)) (hb : 1 ≤ P.bytesOf e) (h : Fits P t (.slice a b)) : a.length ≤ reachBytes ∧ ∀ d ∈ a, Fits P e d := by
  unfold Fits at h
  rw [DataW.weights, ht] at h
  simp only [List.all_cons, List.all_append, Bool.and_eq_true, decide_eq_true_eq] at h
  refine ⟨?_, fits_all h.2.1⟩
  have := Nat.le_mul_of_pos_right (a.length + b.length) hb
  omega
theorem fits_agg {t : TypeId} {fs : Array Field} {parts : List (DataW H)} (ht : P.underlying t = some (.struct fs)) (h : Fits P t (.agg parts)) : FitsEach P (fs.toList.map (·.type)) parts := by
  unfold Fits at h
  rw [DataW.weights, ht] at h
  exact h
def ReadsF (enc : TypeId × Value → H) (P : Program) (W : World) (t : TypeId) {α : Type} (R : Rep α) (size : Nat) (I : α → Prop) : Prop :=
  ∀ fuel cs d ps, DataW.trod enc P W 0 (fun _ => true) true fuel t cs = some (d, ps) → Fits P t d → ∃ x, R (HW W) cs x ∧ cs.length = size ∧ I x
theorem Reads.f {α : Type} {t : TypeId} {R : Rep α} {size : Nat} {big : α → Nat} {I : α → Prop} (h : Reads enc P W B t R size big I) : ReadsF enc P W t R size I := fun fuel cs d ps e _ => by
  obtain ⟨x, h1, h2, -, h3⟩ := h fuel cs d ps e; exact ⟨x, h1, h2, h3⟩
theorem readsF_slice {α : Type} {t e : TypeId} {R : Rep α} {size : Nat} {I : α → Prop} (ht : P.underlying t = some (.slice e)) (hc : P.cellsOf e = size) (hpos : 0 < size) (hb : 1 ≤ P.bytesOf e) (he : ReadsF enc P W e R size I) :
    ∀ fuel cs d ps, DataW.trod enc P W 0 (fun _ => true) true fuel t cs = some (d, ps) → Fits P t d → ∃ ao n cap, cs = [.slice ao n cap] ∧ ∃ l, IsSlice (HW W) R size (.slice ao n cap) l ∧ l.length ≤ reachBytes ∧ ∀ x ∈ l, I x := fun fuel cs d ps h hF => by
  rcases DataW.trod_slice ht h with ⟨rfl, hx⟩ | ⟨a, len, cap, elems, rst, m, _, rfl, hx, _, hlc, hcm, hlen, hel, hrest, _⟩
  · exact ⟨none, 0, 0, rfl, [], IsSlice.nil _ _ _, Nat.zero_le _, by simp⟩
  · simp only [Prod.mk.injEq] at hx
    rw [hx.1] at hF
    obtain ⟨hF1, hF2⟩ := fits_slice ht hb hF
    have hspot : cap = 0 ∨ a.spot = none := by
      by_cases h0 : cap = 0
      · exact .inl h0
      right
      have hsome : ∃ cs', W.cells? 0 a (P.cellsOf e) = some cs' := by
        by_cases hl : len = 0
        · subst hl
          obtain ⟨hr1, hr2⟩ := hrest rfl
          have := hr2 0 (by omega)
          have h3 : (rst[0]?).isSome = true := by rw [List.getElem?_eq_getElem (by omega)]; rfl
          rw [← this] at h3
          cases h4 : W.cells? 0 (a.add ((0 + 0) * P.cellsOf e)) (P.cellsOf e) with
          | none => rw [h4] at h3; simp at h3
          | some c => exact ⟨c, by simpa [Addr.add] using h4⟩
        · have := hel 0 (by omega)
          have h3 : (elems[0]?).isSome = true := by rw [List.getElem?_eq_getElem (by omega)]; rfl
          rw [← this] at h3
          cases h4 : W.cells? 0 (a.add (0 * P.cellsOf e)) (P.cellsOf e) with
          | none => rw [h4] at h3; simp at h3
          | some c => exact ⟨c, by simpa [Addr.add] using h4⟩
      obtain ⟨cs', hcs'⟩ := hsome
      obtain ⟨_, hl', hc'⟩ := World.cells?_some hcs'
      have := hc' 0 (by omega)
      have h5 : (cs'[0]?).isSome = true := by rw [List.getElem?_eq_getElem (by omega)]; rfl
      rw [← this] at h5
      have h6 : a.add 0 = a := by simp [Addr.add]
      rw [h6] at h5
      cases hs : a.spot with
      | none => rfl
      | some s =>
        unfold World.cell? at h5
        rw [hs] at h5
        split at h5 <;> simp at h5
    have key : ∀ (k : Nat), k ≤ len → ∃ l : List α, l.length = k ∧ (∀ x ∈ l, I x) ∧
        ∀ i y, l[i]? = some y → ∃ cs, W.cells? 0 (a.add (i * size)) size = some cs ∧ R (HW W) cs y ∧ cs.length = size := by
      intro k
      induction k with
      | zero => intro _; exact ⟨[], rfl, by simp, by simp⟩
      | succ k ih =>
        intro hk
        obtain ⟨l, hl, hI, hi⟩ := ih (by omega)
        have h1 := hel k (by omega)
        have hk' : k < elems.length := by omega
        rw [List.getElem?_eq_getElem hk'] at h1
        cases h4 : W.cells? 0 (a.add (k * P.cellsOf e)) (P.cellsOf e) with
        | none => rw [h4] at h1; simp at h1
        | some c =>
          rw [h4] at h1
          simp only [Option.bind_some] at h1
          obtain ⟨y, hy1, hy2, hy4⟩ := he m c elems[k].1 elems[k].2 h1 (hF2 _ (List.mem_map_of_mem (List.getElem_mem hk')))
          refine ⟨l ++ [y], by simp [hl], ?_, ?_⟩
          · intro x hx
            rcases List.mem_append.1 hx with hx | hx
            · exact hI x hx
            · simp at hx; subst hx; exact hy4
          · intro i z hz
            by_cases hi' : i < k
            · rw [List.getElem?_append_left (by omega)] at hz
              exact hi i z hz
            · have hik : i = k := by
                have := (List.getElem?_eq_some_iff.1 hz).1
                simp at this; omega
              subst hik
              rw [List.getElem?_append_right (by omega)] at hz
              simp [hl] at hz; subst hz
              exact ⟨c, by rw [← hc]; exact h4, hy1, hy2⟩
    obtain ⟨l, hl, hI, hi⟩ := key len (Nat.le_refl _)
    refine ⟨some a, len, cap, rfl, l, ⟨some a, cap, by rw [hl], by omega, hcm, fun a' e' => ?_, fun e' => (by cases e'), fun i y hy => ?_⟩, ?_, hI⟩
    · cases e'; exact hspot
    · have hlt := (List.getElem?_eq_some_iff.1 hy).1
      have hsp : a.spot = none := hspot.resolve_left (by omega)
      obtain ⟨b, o, s⟩ := a
      simp at hsp; subst hsp
      obtain ⟨cs, h1, h2, h3⟩ := hi i y hy
      refine ⟨b, o, cs, rfl, h3, h2, fun j u hu => ?_⟩
      obtain ⟨_, _, h5⟩ := World.cells?_some h1
      have hj : j < size := by have := (List.getElem?_eq_some_iff.1 hu).1; omega
      have h6 := h5 j hj
      rw [hu] at h6
      have e1 : (Addr.add (Addr.add ⟨b, o, none⟩ (i * size)) j) = ⟨b, o + i * size + j, none⟩ := by
        unfold Addr.add; split <;> split <;> simp_all
      rw [e1] at h6
      exact h6
    · rw [List.length_map] at hF1; omega
theorem readsF_sl {α : Type} {t e : TypeId} {R : Rep α} {size : Nat} {I : α → Prop} (ht : P.underlying t = some (.slice e)) (hc : P.cellsOf e = size) (hpos : 0 < size) (hb : 1 ≤ P.bytesOf e) (he : ReadsF enc P W e R size I) :
    ReadsF enc P W t (RSl R size) 1 (fun l => l.length ≤ reachBytes ∧ ∀ x ∈ l, I x) := fun fuel cs d ps h hF => by
  obtain ⟨ao, n, cap, rfl, l, h1, h2, h3⟩ := readsF_slice ht hc hpos hb he fuel cs d ps h hF
  exact ⟨l, ⟨_, rfl, h1⟩, rfl, h2, h3⟩
def fit_Write (x : Write) : Prop := InI64 x.At ∧ x.Data.length ≤ reachBytes ∧ ∀ y ∈ x.Data, True
theorem readsF_Write {t : TypeId} {fs : Array Field} {f0 f1 : Field} (ht : P.underlying t = some (.struct fs)) (hN : P.cellsOf t = 2) (hk : fs.size = 2) (hl : fs.toList = [f0, f1])
    (g0 : fs[0]? = some f0 ∧ f0.offset = 0 ∧ P.cellsOf f0.type = 1) (r0 : ReadsF enc P W f0.type RInt 1 InI64)
    (g1 : fs[1]? = some f1 ∧ f1.offset = 1 ∧ P.cellsOf f1.type = 1) (r1 : ReadsF enc P W f1.type (RSl RU8 1) 1 (fun l => l.length ≤ reachBytes ∧ ∀ x ∈ l, (fun _ => True) x)) :
    ReadsF enc P W t R_Write 2 fit_Write := fun fuel cs d ps h hF => by
  obtain ⟨xs, n, _, hx, hlen, hxl, hf⟩ := DataW.trod_struct ht h
  rw [hN] at hlen
  rw [hk] at hxl
  match xs, hxl with
  | [x0, x1], _ =>
  match cs, hlen with
  | [c0, c1], _ =>
  simp only [Prod.mk.injEq] at hx
  rw [hx.1] at hF
  have hF := fits_agg ht hF
  rw [hl] at hF
  obtain ⟨F0, hF⟩ := fits_cons hF
  obtain ⟨F1, -⟩ := fits_cons hF
  obtain ⟨y0, a0, _, i0⟩ := r0 n [c0] x0.1 x0.2 (by have e := hf 0 _ g0.1; rw [g0.2.1, g0.2.2] at e; exact e) F0
  obtain rfl : c0 = .int .i64 y0 := by have e : [c0] = [.int .i64 y0] := a0; simpa using e
  obtain ⟨y1, a1, _, i1⟩ := r1 n [c1] x1.1 x1.2 (by have e := hf 1 _ g1.1; rw [g1.2.1, g1.2.2] at e; exact e) F1
  obtain ⟨u1, e, a1⟩ := a1
  obtain rfl : c1 = u1 := by simpa using e
  exact ⟨⟨y0, y1⟩, ⟨_, rfl, a1⟩, rfl, ⟨i0, i1⟩⟩
def fit_Disk (x : Disk) : Prop := (x.Blocks.length ≤ reachBytes ∧ ∀ b ∈ x.Blocks, b.length ≤ reachBytes ∧ ∀ y ∈ b, True) ∧ (x.Waits.length ≤ reachBytes ∧ ∀ w ∈ x.Waits, fit_Write w)
theorem readsF_Disk {t : TypeId} {fs : Array Field} {f0 f1 : Field} (ht : P.underlying t = some (.struct fs)) (hN : P.cellsOf t = 2) (hk : fs.size = 2) (hl : fs.toList = [f0, f1])
    (g0 : fs[0]? = some f0 ∧ f0.offset = 0 ∧ P.cellsOf f0.type = 1) (r0 : ReadsF enc P W f0.type (RSl (RSl RU8 1) 1) 1 (fun l => l.length ≤ reachBytes ∧ ∀ x ∈ l, (fun l => l.length ≤ reachBytes ∧ ∀ x ∈ l, (fun _ => True) x) x))
    (g1 : fs[1]? = some f1 ∧ f1.offset = 1 ∧ P.cellsOf f1.type = 1) (r1 : ReadsF enc P W f1.type (RSl R_Write 2) 1 (fun l => l.length ≤ reachBytes ∧ ∀ x ∈ l, fit_Write x)) :
    ReadsF enc P W t R_Disk 2 fit_Disk := fun fuel cs d ps h hF => by
  obtain ⟨xs, n, _, hx, hlen, hxl, hf⟩ := DataW.trod_struct ht h
  rw [hN] at hlen
  rw [hk] at hxl
  match xs, hxl with
  | [x0, x1], _ =>
  match cs, hlen with
  | [c0, c1], _ =>
  simp only [Prod.mk.injEq] at hx
  rw [hx.1] at hF
  have hF := fits_agg ht hF
  rw [hl] at hF
  obtain ⟨F0, hF⟩ := fits_cons hF
  obtain ⟨F1, -⟩ := fits_cons hF
  obtain ⟨y0, a0, _, i0⟩ := r0 n [c0] x0.1 x0.2 (by have e := hf 0 _ g0.1; rw [g0.2.1, g0.2.2] at e; exact e) F0
  obtain ⟨u0, e, a0⟩ := a0
  obtain rfl : c0 = u0 := by simpa using e
  obtain ⟨y1, a1, _, i1⟩ := r1 n [c1] x1.1 x1.2 (by have e := hf 1 _ g1.1; rw [g1.2.1, g1.2.2] at e; exact e) F1
  obtain ⟨u1, e, a1⟩ := a1
  obtain rfl : c1 = u1 := by simpa using e
  exact ⟨⟨y0, y1⟩, ⟨_, _, rfl, a0, a1⟩, rfl, ⟨i0, i1⟩⟩
def fit_Store (x : Store) : Prop := fit_Disk x.Disk ∧ (x.Space.length ≤ reachBytes ∧ ∀ y ∈ x.Space, True) ∧ True ∧ True
theorem readsF_Store {t : TypeId} {fs : Array Field} {f0 f1 f2 f3 : Field} (ht : P.underlying t = some (.struct fs)) (hN : P.cellsOf t = 5) (hk : fs.size = 4) (hl : fs.toList = [f0, f1, f2, f3])
    (g0 : fs[0]? = some f0 ∧ f0.offset = 0 ∧ P.cellsOf f0.type = 2) (r0 : ReadsF enc P W f0.type R_Disk 2 fit_Disk)
    (g1 : fs[1]? = some f1 ∧ f1.offset = 2 ∧ P.cellsOf f1.type = 1) (r1 : ReadsF enc P W f1.type (RSl RU8 1) 1 (fun l => l.length ≤ reachBytes ∧ ∀ x ∈ l, (fun _ => True) x))
    (g2 : fs[2]? = some f2 ∧ f2.offset = 3 ∧ P.cellsOf f2.type = 1) (r2 : ReadsF enc P W f2.type RU32 1 (fun _ => True))
    (g3 : fs[3]? = some f3 ∧ f3.offset = 4 ∧ P.cellsOf f3.type = 1) (r3 : ReadsF enc P W f3.type RU32 1 (fun _ => True)) :
    ReadsF enc P W t R_Store 5 fit_Store := fun fuel cs d ps h hF => by
  obtain ⟨xs, n, _, hx, hlen, hxl, hf⟩ := DataW.trod_struct ht h
  rw [hN] at hlen
  rw [hk] at hxl
  match xs, hxl with
  | [x0, x1, x2, x3], _ =>
  match cs, hlen with
  | [c0, c1, c2, c3, c4], _ =>
  simp only [Prod.mk.injEq] at hx
  rw [hx.1] at hF
  have hF := fits_agg ht hF
  rw [hl] at hF
  obtain ⟨F0, hF⟩ := fits_cons hF
  obtain ⟨F1, hF⟩ := fits_cons hF
  obtain ⟨F2, hF⟩ := fits_cons hF
  obtain ⟨F3, -⟩ := fits_cons hF
  obtain ⟨y0, a0, _, i0⟩ := r0 n [c0, c1] x0.1 x0.2 (by have e := hf 0 _ g0.1; rw [g0.2.1, g0.2.2] at e; exact e) F0
  obtain ⟨w0_0, w0_1, e, h0_0, h0_1⟩ := a0
  simp only [List.cons.injEq, and_true] at e
  obtain ⟨rfl, rfl⟩ := e
  obtain ⟨y1, a1, _, i1⟩ := r1 n [c2] x1.1 x1.2 (by have e := hf 1 _ g1.1; rw [g1.2.1, g1.2.2] at e; exact e) F1
  obtain ⟨u1, e, a1⟩ := a1
  obtain rfl : c2 = u1 := by simpa using e
  obtain ⟨y2, a2, _, i2⟩ := r2 n [c3] x2.1 x2.2 (by have e := hf 2 _ g2.1; rw [g2.2.1, g2.2.2] at e; exact e) F2
  obtain rfl : c3 = .int .u32 (y2.toNat : Int) := by have e : [c3] = [.int .u32 (y2.toNat : Int)] := a2; simpa using e
  obtain ⟨y3, a3, _, i3⟩ := r3 n [c4] x3.1 x3.2 (by have e := hf 3 _ g3.1; rw [g3.2.1, g3.2.2] at e; exact e) F3
  obtain rfl : c4 = .int .u32 (y3.toNat : Int) := by have e : [c4] = [.int .u32 (y3.toNat : Int)] := a3; simpa using e
  exact ⟨⟨y0, y1, y2, y3⟩, ⟨_, _, _, rfl, h0_0, h0_1, a1⟩, rfl, ⟨i0, i1, i2, i3⟩⟩
theorem argF_struct {r : Reach} {b0 : Nat} {t : TypeId} {v : Value} {d : DataW H} {ps : List MemPlace} {α : Type} {fs : Array Field} {R : Rep α} {size : Nat} {I : α → Prop} (ht : P.underlying t = some (.struct fs)) (he : ReadsF enc P W t R size I)
    (hval : Value.okWide P W r b0 t v) (hd : DataW.Trod enc P W 0 (fun _ => true) true t v d ps) (hF : Fits P t d) :
    ∃ cs : Array Value, v = .agg cs ∧ ∃ x, R (HW W) cs.toList x ∧ I x := by
  obtain ⟨cs, rfl, _⟩ := okWide_struct ht hval
  obtain ⟨fuel, hf⟩ := hd
  obtain ⟨x, h1, h2, h3⟩ := he fuel _ d ps hf hF
  exact ⟨cs, rfl, x, by simpa [Value.cells] using h1, h3⟩
end
end Go.Ow

/-
  What is proved here: pointers as bytes and back, rows of pointers (ptr), in plain words.
-/
namespace Go.Ow
set_option linter.unusedVariables false
set_option linter.unusedSimpArgs false

def ptrB (p : Ptr) : List UInt8 := leB p.At.toNat 1 ++ leB p.Birth.toNat 3 ++ leB p.Iv.toNat 4 ++ leB p.Tag.toNat 4 ++ leB p.Sum.toNat 4
theorem ptrB_length (p : Ptr) : (ptrB p).length = 16 := by simp only [ptrB, List.length_append, leB_length]
def at5 (b : List UInt8) : Ptr := ⟨(numB ((b.drop 0).take 1) : Int), u32i (numB ((b.drop 1).take 3) : Int), u32i (numB ((b.drop 4).take 4) : Int), u32i (numB ((b.drop 8).take 4) : Int), u32i (numB ((b.drop 12).take 4) : Int)⟩
theorem ptr_Read_eq {b : List UInt8} (h : b.length = 16) : ptr_Read b = some (if isNone (at5 b) ∨ okR (at5 b) then (at5 b, 0) else (⟨0, 0, 0, 0, 0⟩, 8)) := by
  have g : ∀ (a k : Nat), 1 ≤ k → k ≤ 4 → a + k ≤ 16 → code_Get b (a : Int) (k : Int) = some ((numB ((b.drop a).take k) : Int), 0) := fun a k h1 h4 h5 => code_Get_eq h1 h4 (by omega) (by omega)
  have hloop : loop (ptr_Read_l1 b (A5.mk 1 3 4 4 4)) (0, 0, 0, 0, 0, 0, 0) = some ((numB ((b.drop 0).take 1) : Int), (numB ((b.drop 1).take 3) : Int), (numB ((b.drop 4).take 4) : Int), (numB ((b.drop 8).take 4) : Int), (numB ((b.drop 12).take 4) : Int)) := by
    have g0 := g 0 1 (by omega) (by omega) (by omega)
    have g1 := g 1 3 (by omega) (by omega) (by omega)
    have g2 := g 4 4 (by omega) (by omega) (by omega)
    have g3 := g 8 4 (by omega) (by omega) (by omega)
    have g4 := g 12 4 (by omega) (by omega) (by omega)
    generalize (numB ((b.drop 0).take 1) : Int) = n0 at g0 ⊢
    generalize (numB ((b.drop 1).take 3) : Int) = n1 at g1 ⊢
    generalize (numB ((b.drop 4).take 4) : Int) = n2 at g2 ⊢
    generalize (numB ((b.drop 8).take 4) : Int) = n3 at g3 ⊢
    generalize (numB ((b.drop 12).take 4) : Int) = n4 at g4 ⊢
    refine run5 (s1 := (n0, 0, 0, 0, 0, 1, 1)) (s2 := (n0, n1, 0, 0, 0, 4, 2)) (s3 := (n0, n1, n2, 0, 0, 8, 3)) (s4 := (n0, n1, n2, n3, 0, 12, 4)) (s5 := (n0, n1, n2, n3, n4, 16, 5)) ?_ ?_ ?_ ?_ ?_ ?_
    · unfold ptr_Read_l1
      show Option.bind (code_Get b 0 1) _ = _
      rw [show code_Get b 0 1 = some (n0, 0) from g0]; rfl
    · unfold ptr_Read_l1
      show Option.bind (code_Get b 1 3) _ = _
      rw [show code_Get b 1 3 = some (n1, 0) from g1]; rfl
    · unfold ptr_Read_l1
      show Option.bind (code_Get b 4 4) _ = _
      rw [show code_Get b 4 4 = some (n2, 0) from g2]; rfl
    · unfold ptr_Read_l1
      show Option.bind (code_Get b 8 4) _ = _
      rw [show code_Get b 8 4 = some (n3, 0) from g3]; rfl
    · unfold ptr_Read_l1
      show Option.bind (code_Get b 12 4) _ = _
      rw [show code_Get b 12 4 = some (n4, 0) from g4]; rfl
    · unfold ptr_Read_l1; rfl
  unfold ptr_Read
  rw [decide_eq_true (show (b.length : Int) = 16 by omega)]
  simp only [Bool.not_true, cond_false, ptr_sizes, Option.bind_some]
  rw [hloop]
  simp only [Option.bind_some]
  rw [show (Ptr.mk (numB ((b.drop 0).take 1) : Int) (u32i (numB ((b.drop 1).take 3) : Int)) (u32i (numB ((b.drop 4).take 4) : Int)) (u32i (numB ((b.drop 8).take 4) : Int)) (u32i (numB ((b.drop 12).take 4) : Int))) = at5 b from rfl, ptr_Check_eq']
  by_cases c : isNone (at5 b) ∨ okR (at5 b)
  · rw [if_pos c, if_pos c]; rfl
  · rw [if_neg c, if_neg c]; rfl
theorem drop_app {α : Type} (a b : List α) {n : Nat} (h : a.length = n) : (a ++ b).drop n = b := by subst h; exact List.drop_left
theorem take_app {α : Type} (a b : List α) {n : Nat} (h : a.length = n) : (a ++ b).take n = a := by subst h; exact List.take_left
theorem u32i_num {a : UInt32} {k : Nat} (h : a.toNat < 256 ^ k) : u32i (numB (leB a.toNat k) : Int) = a := by
  rw [numB_leB h]
  unfold u32i
  apply UInt32.toNat_inj.1
  rw [UInt32.toNat_ofNat']
  have := u32_lt a
  omega
theorem at5_ptrB {p : Ptr} (h : okR p) : at5 (ptrB p) = p := by
  obtain ⟨h1, h2, h3, h4⟩ := h
  have hb : p.Birth.toNat < 256 ^ 3 := by
    have := UInt32.le_iff_toNat_le.1 h4
    have e : (16777215 : UInt32).toNat = 16777215 := rfl
    rw [e] at this
    have e3 : (256 : Nat) ^ 3 = 16777216 := by decide
    omega
  have e4 : (256 : Nat) ^ 4 = 4294967296 := by decide
  have q0 : ptrB p = leB p.At.toNat 1 ++ (leB p.Birth.toNat 3 ++ (leB p.Iv.toNat 4 ++ (leB p.Tag.toNat 4 ++ leB p.Sum.toNat 4))) := by simp only [ptrB, List.append_assoc]
  have q1 : (ptrB p).drop 1 = leB p.Birth.toNat 3 ++ (leB p.Iv.toNat 4 ++ (leB p.Tag.toNat 4 ++ leB p.Sum.toNat 4)) := by rw [q0]; exact drop_app _ _ (leB_length _ _)
  have q2 : (ptrB p).drop 4 = leB p.Iv.toNat 4 ++ (leB p.Tag.toNat 4 ++ leB p.Sum.toNat 4) := by rw [show 4 = 1 + 3 from rfl, ← List.drop_drop, q1]; exact drop_app _ _ (leB_length _ _)
  have q3 : (ptrB p).drop 8 = leB p.Tag.toNat 4 ++ leB p.Sum.toNat 4 := by rw [show 8 = 4 + 4 from rfl, ← List.drop_drop, q2]; exact drop_app _ _ (leB_length _ _)
  have q4 : (ptrB p).drop 12 = leB p.Sum.toNat 4 := by rw [show 12 = 8 + 4 from rfl, ← List.drop_drop, q3]; exact drop_app _ _ (leB_length _ _)
  unfold at5
  rw [List.drop_zero, q1, q2, q3, q4, take_app _ _ (leB_length _ 3), take_app _ _ (leB_length _ 4), take_app _ _ (leB_length _ 4), List.take_of_length_le (l := leB p.Sum.toNat 4) (by rw [leB_length]; omega), q0, take_app _ _ (leB_length _ 1)]
  rw [u32i_num hb, u32i_num (by have := u32_lt p.Iv; omega), u32i_num (by have := u32_lt p.Tag; omega), u32i_num (by have := u32_lt p.Sum; omega), numB_leB (by omega), Int.toNat_of_nonneg (by omega)]

def okP (p : Ptr) : Prop := isNone p ∨ okR p
instance (p : Ptr) : Decidable (okP p) := by unfold okP; infer_instance
theorem isNone.eq {p : Ptr} (h : isNone p) : p = noP := by
  obtain ⟨a, b, c, d, e⟩ := p
  obtain ⟨h1, h2, h3, h4, h5⟩ := h
  simp only at h1 h2 h3 h4 h5
  subst h1; subst h2; subst h3; subst h4; subst h5; rfl
theorem ptrB_no : ptrB noP = List.replicate 16 0 := by decide +kernel
theorem Ptr.ext_iff' {a b : Ptr} : a = b ↔ (a.At = b.At ∧ a.Birth = b.Birth ∧ a.Iv = b.Iv ∧ a.Tag = b.Tag ∧ a.Sum = b.Sum) := by
  constructor
  · intro h; subst h; exact ⟨rfl, rfl, rfl, rfl, rfl⟩
  · intro h
    obtain ⟨a1, a2, a3, a4, a5⟩ := a
    obtain ⟨b1, b2, b3, b4, b5⟩ := b
    simp only at h
    obtain ⟨rfl, rfl, rfl, rfl, rfl⟩ := h
    rfl
instance : DecidableEq Ptr := fun a b => decidable_of_iff _ Ptr.ext_iff'.symm
theorem ptr_dec (a b : Ptr) : (decide (a.At = b.At) && (decide (a.Birth = b.Birth) && (decide (a.Iv = b.Iv) && (decide (a.Tag = b.Tag) && (decide (a.Sum = b.Sum) && true))))) = decide (a = b) := by
  rw [Bool.eq_iff_iff]
  simp only [Bool.and_eq_true, decide_eq_true_eq, and_true]
  exact Ptr.ext_iff'.symm
theorem at5_no : at5 (ptrB noP) = noP := by decide +kernel
theorem at5_ptrB' {p : Ptr} (h : okP p) : at5 (ptrB p) = p := by
  rcases h with h | h
  · rw [h.eq]; exact at5_no
  · exact at5_ptrB h

/-! ### Rows -/
theorem flat_len (l : List Ptr) : ((l.map ptrB).flatten).length = 16 * l.length := by
  induction l with
  | nil => rfl
  | cons p r ih => rw [List.map_cons, List.flatten_cons, List.length_append, ih, ptrB_length, List.length_cons]; omega
def rowB (l : List Ptr) : List UInt8 := (l.map ptrB).flatten ++ List.replicate (256 - 16 * l.length) 0
theorem rowB_length {l : List Ptr} (h : l.length ≤ 16) : (rowB l).length = 256 := by rw [rowB, List.length_append, flat_len, List.length_replicate]; omega
def rowsF (y : List UInt8) (s : List Ptr) : Option (List Ptr ⊕ Int) := some (if okP (at5 y) then .inl (s ++ [at5 y]) else .inr 8)
theorem rows_r1 {y : List UInt8} (h : y.length = 16) {s : List Ptr} (hs : s.length ≤ 100) : ptr_Rows_r1 y s = rowsF y s := by
  unfold ptr_Rows_r1 rowsF
  rw [ptr_Read_eq h, Option.bind_some]
  by_cases c : okP (at5 y)
  · rw [if_pos (show isNone (at5 y) ∨ okR (at5 y) from c), if_pos c, zdec, cond_false, app_eq (lim_le (by simp; omega))]
  · rw [if_neg (show ¬ (isNone (at5 y) ∨ okR (at5 y)) from c), if_neg c]; rfl
theorem rows_fold : ∀ (ys : List (List UInt8)) (s : List Ptr), (∀ y ∈ ys, y.length = 16) → s.length + ys.length ≤ 100 →
    forL ptr_Rows_r1 ys s = some (if ∀ y ∈ ys, okP (at5 y) then .inl (s ++ ys.map at5) else .inr 8)
  | [], s, _, _ => by simp [forL]
  | y :: ys, s, hy, hs => by
    rw [List.length_cons] at hs
    have h1 := rows_r1 (hy y (by simp)) (s := s) (by omega)
    by_cases c : okP (at5 y)
    · rw [forL_cons (s' := s ++ [at5 y]) (by rw [h1]; unfold rowsF; rw [if_pos c]), rows_fold ys _ (fun z hz => hy z (by simp [hz])) (by simp; omega)]
      by_cases hl : ∀ q ∈ ys, okP (at5 q)
      · rw [if_pos hl, if_pos (fun q hq => by rcases List.mem_cons.1 hq with rfl | h; exact c; exact hl q h)]; simp
      · rw [if_neg hl, if_neg (fun h => hl (fun q hq => h q (by simp [hq])))]
    · rw [forL_stop (e := 8) (by rw [h1]; unfold rowsF; rw [if_neg c]), if_neg (fun h => c (h y (by simp)))]
def ptrsOf (b : List UInt8) : List Ptr := (chunks 16 b.length b).map at5
def rowsB (b : List UInt8) : List Ptr × Int := if ∀ p ∈ ptrsOf b, okP p then (ptrsOf b, 0) else ([], 8)
theorem chunks_count : ∀ (f : Nat) (b : List UInt8) (n : Nat), b.length ≤ f → b.length = 16 * n → (chunks 16 f b).length = n
  | 0, b, n, h, e => by simp [chunks]; omega
  | f + 1, b, n, h, e => by
    by_cases hb : b = []
    · subst hb; rw [chunks_nil]; simp at e ⊢; omega
    · have := List.length_pos_iff.2 hb
      obtain ⟨n, rfl⟩ : ∃ m, n = m + 1 := ⟨n - 1, by omega⟩
      rw [chunks_step hb, List.length_cons, chunks_count f (b.drop 16) n (by rw [List.length_drop]; omega) (by rw [List.length_drop]; omega)]
theorem ptrsOf_length {b : List UInt8} (h : b.length = 256) : (ptrsOf b).length = 16 := by unfold ptrsOf; rw [List.length_map, chunks_count _ b 16 (Nat.le_refl _) (by omega)]
theorem ptr_Rows_eq {b : List UInt8} (h : b.length = 256) : ptr_Rows b = some (rowsB b) := by
  unfold ptr_Rows
  rw [decide_eq_true (show (b.length : Int) = 256 by omega)]
  rw [show (!true) = false from rfl, cond_false]
  unfold slices_Chunk_byte
  rw [if_pos ⟨by omega, by omega, lim_le (by omega)⟩, Option.bind_some, show (16 : Int).toNat = 16 from rfl, rows_fold _ [] (chunks_len (by omega) _ _ (Nat.le_refl _) (by omega)) (by rw [chunks_count _ b 16 (Nat.le_refl _) (by omega)]; simp)]
  unfold rowsB ptrsOf
  by_cases hl : ∀ y ∈ chunks 16 b.length b, okP (at5 y)
  · rw [if_pos hl, if_pos (fun p hp => by obtain ⟨y, hy, rfl⟩ := List.mem_map.1 hp; exact hl y hy)]; rfl
  · rw [if_neg hl, if_neg (fun h => hl (fun y hy => h _ (List.mem_map_of_mem hy)))]; rfl
theorem chunks_row : ∀ (l : List Ptr) (k f : Nat), 16 * l.length + 16 * k ≤ f → chunks 16 f ((l.map ptrB).flatten ++ List.replicate (16 * k) 0) = l.map ptrB ++ List.replicate k (ptrB noP)
  | [], 0, f, _ => by simp [chunks_nil]
  | [], k + 1, 0, h => by omega
  | [], k + 1, f + 1, h => by
    have e : List.replicate (16 * (k + 1)) (0 : UInt8) = List.replicate 16 0 ++ List.replicate (16 * k) 0 := by rw [List.replicate_append_replicate]; congr 1; omega
    have ih := chunks_row [] k f (by simp at h ⊢; omega)
    simp only [List.map_nil, List.flatten_nil, List.nil_append] at ih ⊢
    rw [e, chunks_step (by simp), take_app _ _ (by simp), drop_app _ _ (by simp), ih, ptrB_no]; rfl
  | p :: l, k, 0, h => by simp at h
  | p :: l, k, f + 1, h => by
    have ih := chunks_row l k f (by simp at h; omega)
    rw [List.map_cons, List.flatten_cons, List.append_assoc]
    have hne : ptrB p ++ ((l.map ptrB).flatten ++ List.replicate (16 * k) 0) ≠ [] := by
      intro e
      have := congrArg List.length e
      rw [List.length_append, ptrB_length] at this
      simp at this
    rw [chunks_step hne, take_app _ _ (ptrB_length p), drop_app _ _ (ptrB_length p), ih]; rfl
theorem ptrsOf_row {l : List Ptr} (h : l.length ≤ 16) (hp : ∀ p ∈ l, okP p) : ptrsOf (rowB l) = l ++ List.replicate (16 - l.length) noP := by
  unfold ptrsOf
  rw [rowB_length h]
  unfold rowB
  rw [show 256 - 16 * l.length = 16 * (16 - l.length) by omega, chunks_row l _ _ (by omega), List.map_append, List.map_map, List.map_replicate, at5_no]
  congr 1
  conv => rhs; rw [← List.map_id l]
  exact List.map_congr_left (fun p hq => at5_ptrB' (hp p hq))
theorem okP_no : okP noP := .inl noP_none
theorem rowsB_row {l : List Ptr} (h : l.length ≤ 16) (hp : ∀ p ∈ l, okP p) : rowsB (rowB l) = (l ++ List.replicate (16 - l.length) noP, 0) := by
  unfold rowsB
  rw [ptrsOf_row h hp, if_pos]
  intro p hq
  rcases List.mem_append.1 hq with h | h
  · exact hp p h
  · rw [(List.mem_replicate.1 h).2]; exact okP_no
end Go.Ow

/-
  What is proved here: objects as blocks and back (obj), the pointers and objects below a root (set), in plain words.
-/
namespace Go.Ow
set_option linter.unusedVariables false
set_option linter.unusedSimpArgs false

/-! ### May an object be? -/
def okO (o : Object) : Prop := ((1 : Int) ≤ (o.Kind.toNat : Int) ∧ (o.Kind.toNat : Int) ≤ 7) ∧ (0 ≤ o.Links ∧ o.Links ≤ 255) ∧ (0 ≤ o.Size ∧ o.Size ≤ 3840) ∧ o.Data.length = 15 ∧ ∀ p ∈ o.Data, okP p
instance (o : Object) : Decidable (okO o) := by unfold okO; infer_instance
theorem within_eq (n a b : Int) : obj_Check_1 n a b = some (decide (a ≤ n ∧ n ≤ b)) := by
  unfold obj_Check_1
  by_cases h : a ≤ n
  · rw [decide_eq_true h, cond_true, Option.bind_some]; simp [h]
  · rw [decide_eq_false h, cond_false, Option.bind_some]; simp [h]
theorem wrong_eq (p : Ptr) : obj_Check_2 p = some (!decide (okP p)) := by
  unfold obj_Check_2
  rw [ptr_Check_eq', Option.bind_some]
  by_cases h : okP p
  · rw [if_pos (show isNone p ∨ okR p from h), decide_eq_true h]; rfl
  · rw [if_neg (show ¬ (isNone p ∨ okR p) from h), decide_eq_false h]; rfl
theorem index_run (l : List Ptr) : ∀ (k i n : Nat), i + k = l.length → k < n →
    ∃ o, run (slices_IndexFunc_Ptr_l1 l) n i = some o ∧ (if ∀ p ∈ l.drop i, okP p then o = .inl () else ∃ j : Nat, o = .inr (j : Int))
  | 0, i, n, hi, hn => by
    obtain ⟨n, rfl⟩ : ∃ m, n = m + 1 := ⟨n - 1, by omega⟩
    refine ⟨.inl (), run_en (by unfold slices_IndexFunc_Ptr_l1; rw [decide_eq_false (by omega)]; rfl), ?_⟩
    rw [List.drop_eq_nil_of_le (by omega), if_pos (by simp)]
  | k + 1, i, n, hi, hn => by
    obtain ⟨n, rfl⟩ : ∃ m, n = m + 1 := ⟨n - 1, by omega⟩
    have hlt : i < l.length := by omega
    rw [List.drop_eq_getElem_cons hlt]
    by_cases c : okP l[i]
    · obtain ⟨o, h1, h2⟩ := index_run l k (i + 1) n (by omega) (by omega)
      refine ⟨o, ?_, ?_⟩
      · rw [run_st (s' := i + 1) (by unfold slices_IndexFunc_Ptr_l1; rw [decide_eq_true (by omega), cond_true, Zk _ hlt, wrong_eq, Option.bind_some, decide_eq_true c]; rfl)]; exact h1
      · by_cases hd : ∀ p ∈ l.drop (i + 1), okP p
        · rw [if_pos hd] at h2; rw [if_pos (fun p hp => by rcases List.mem_cons.1 hp with rfl | h; exact c; exact hd p h)]; exact h2
        · rw [if_neg hd] at h2; rw [if_neg (fun h => hd (fun p hp => h p (List.mem_cons_of_mem _ hp)))]; exact h2
    · refine ⟨.inr (i : Int), run_en (by unfold slices_IndexFunc_Ptr_l1; rw [decide_eq_true (by omega), cond_true, Zk _ hlt, wrong_eq, Option.bind_some, decide_eq_false c]; rfl), ?_⟩
      rw [if_neg (fun h => c (h _ List.mem_cons_self))]; exact ⟨i, rfl⟩
theorem contains_eq {l : List Ptr} (h : l.length ≤ 1000) : slices_ContainsFunc_Ptr l = some (!decide (∀ p ∈ l, okP p)) := by
  obtain ⟨o, h1, h2⟩ := index_run l l.length 0 1001 (by omega) (by omega)
  have hl : loop (slices_IndexFunc_Ptr_l1 l) 0 = some o := loop_of (by decide) h1
  unfold slices_ContainsFunc_Ptr slices_IndexFunc_Ptr
  rw [hl, Option.bind_some]
  rw [List.drop_zero] at h2
  by_cases hd : ∀ p ∈ l, okP p
  · rw [if_pos hd] at h2; subst h2; rw [decide_eq_true hd]; rfl
  · rw [if_neg hd] at h2; obtain ⟨j, rfl⟩ := h2; rw [decide_eq_false hd]
    rw [Sum.elim_inr, Option.bind_some, decide_eq_true (by omega)]; rfl
theorem obj_Check_eq (o : Object) : obj_Check o = some (if okO o then 0 else 8) := by
  unfold obj_Check
  rw [within_eq, Option.bind_some]
  by_cases h1 : (1 : Int) ≤ (o.Kind.toNat : Int) ∧ (o.Kind.toNat : Int) ≤ 7
  · rw [decide_eq_true h1, Bool.not_true, cond_false, within_eq, Option.bind_some]
    by_cases h2 : 0 ≤ o.Links ∧ o.Links ≤ 255
    · rw [decide_eq_true h2, Bool.not_true, cond_false, within_eq, Option.bind_some]
      by_cases h3 : 0 ≤ o.Size ∧ o.Size ≤ 3840
      · rw [decide_eq_true h3, Bool.not_true, cond_false]
        by_cases h4 : o.Data.length = 15
        · rw [decide_eq_true (show (o.Data.length : Int) = 15 by omega), Bool.not_true, cond_false, contains_eq (by omega), Option.bind_some]
          by_cases h5 : ∀ p ∈ o.Data, okP p
          · rw [decide_eq_true h5, if_pos ⟨h1, h2, h3, h4, h5⟩]; rfl
          · rw [decide_eq_false h5, if_neg (fun h => h5 h.2.2.2.2)]; rfl
        · rw [decide_eq_false (show ¬ (o.Data.length : Int) = 15 by omega), if_neg (fun h => h4 h.2.2.2.1)]; rfl
      · rw [decide_eq_false h3, if_neg (fun h => h3 h.2.2.1)]; rfl
    · rw [decide_eq_false h2, if_neg (fun h => h2 h.2.1)]; rfl
  · rw [decide_eq_false h1, if_neg (fun h => h1 h.1)]; rfl

/-! ### As a block -/
def objB (o : Object) : List UInt8 := ([o.Kind, u8i o.Links] ++ leB o.Size.toNat 2) ++ List.replicate 12 0 ++ (rowB o.Data).take 240
theorem A16.first_eq {α : Type} (d : α) {l : List α} (h : 16 ≤ l.length) : ∃ m : A16 α, m.l = l.take 16 ∧ ∀ {β : Type} (k : A16 α → Option β), A16.first d l k = k m := by
  refine ⟨A16.of d (l.take 16), A16.of_l d _ (by rw [List.length_take]; omega), fun k => ?_⟩
  unfold A16.first; rw [if_pos h]
def noO : Object := ⟨0, 0, 0, []⟩
def objOf (b : List UInt8) : Object := ⟨b.getD 0 0, ((b.getD 1 0).toNat : Int), (numB ((b.drop 2).take 2) : Int), (ptrsOf (b.drop 16 ++ List.replicate 16 0)).take 15⟩
def readO (b : List UInt8) : Object × Int :=
  if (rowsB (b.drop 16 ++ List.replicate 16 0)).2 = 0 ∧ (b.take 16).drop 4 = List.replicate 12 0 ∧ okO (objOf b) then (objOf b, 0) else (noO, 8)
theorem rowsB_ok {b : List UInt8} (h : (rowsB b).2 = 0) : rowsB b = (ptrsOf b, 0) ∧ ∀ p ∈ ptrsOf b, okP p := by
  unfold rowsB at h ⊢
  by_cases c : ∀ p ∈ ptrsOf b, okP p
  · rw [if_pos c]; exact ⟨rfl, c⟩
  · rw [if_neg c] at h; cases h
theorem rowsB_err {b : List UInt8} (h : (rowsB b).2 ≠ 0) : rowsB b = ([], 8) := by
  unfold rowsB at h ⊢
  by_cases c : ∀ p ∈ ptrsOf b, okP p
  · rw [if_pos c] at h; exact absurd rfl h
  · rw [if_neg c]
theorem obj_Read_eq {b : List UInt8} (h : b.length = 256) : obj_Read b = some (readO b) := by
  unfold obj_Read
  rw [decide_eq_true (show (b.length : Int) = 256 by omega), Bool.not_true, cond_false]
  obtain ⟨m, hm, e⟩ := A16.first_eq (0 : UInt8) (l := b) (by omega)
  rw [e]
  have hdl : (b.drop 16).length = 240 := by rw [List.length_drop, h]
  have hcut : cut b 16 (b.length : Int) = b.drop 16 := by
    unfold cut
    rw [h]; exact List.take_of_length_le (by rw [List.length_drop, h]; decide)
  rw [slc_eq (by omega) (by omega) (Int.le_refl _), hcut, app_eq (lim_le (by rw [hdl]; simp)), ptr_Rows_eq (by rw [List.length_append, hdl]; rfl), Option.bind_some]
  have h12 : ([m.e4, m.e5, m.e6, m.e7, m.e8, m.e9, m.e10, m.e11, m.e12, m.e13, m.e14, m.e15] : List UInt8) = (b.take 16).drop 4 := by rw [← hm]; rfl
  have h0 : m.e0 = b.getD 0 0 := by
    have : (m.l).getD 0 0 = (b.take 16).getD 0 0 := by rw [hm]
    rw [show m.e0 = (m.l).getD 0 0 from rfl, this]; simp [List.getD_eq_getElem?_getD, List.getElem?_take]
  have h1 : m.e1 = b.getD 1 0 := by
    have : (m.l).getD 1 0 = (b.take 16).getD 1 0 := by rw [hm]
    rw [show m.e1 = (m.l).getD 1 0 from rfl, this]; simp [List.getD_eq_getElem?_getD, List.getElem?_take]
  unfold readO
  by_cases c1 : (rowsB (b.drop 16 ++ List.replicate 16 0)).2 = 0
  · obtain ⟨c2, c3⟩ := rowsB_ok c1
    rw [c2] at c1 ⊢
    rw [zdec, cond_false, h12]
    by_cases c4 : (b.take 16).drop 4 = List.replicate 12 (0 : UInt8)
    · rw [decide_eq_true (show (b.take 16).drop 4 = [(0 : UInt8), (0 : UInt8), (0 : UInt8), (0 : UInt8), (0 : UInt8), (0 : UInt8), (0 : UInt8), (0 : UInt8), (0 : UInt8), (0 : UInt8), (0 : UInt8), (0 : UInt8)] from c4), Bool.not_true, cond_false]
      have hg := code_Get_eq (b := b) (at' := 2) (k := 2) (by omega) (by omega) (by omega) (by omega)
      rw [show code_Get b 2 2 = some ((numB ((b.drop 2).take 2) : Int), 0) from hg, Option.bind_some]
      have hpl := ptrsOf_length (b := b.drop 16 ++ List.replicate 16 0) (by rw [List.length_append, hdl]; rfl)
      rw [slc_eq (by omega) (by omega) (by show (15 : Int) ≤ ((ptrsOf _).length : Int); rw [hpl]; omega)]
      have ho : (Object.mk m.e0 (m.e1.toNat : Int) (numB ((b.drop 2).take 2) : Int) (cut (ptrsOf (b.drop 16 ++ List.replicate 16 0)) 0 15)) = objOf b := by rw [h0, h1]; rfl
      rw [show (Object.mk m.e0 (m.e1.toNat : Int) ((numB ((b.drop 2).take 2) : Int), (0 : Int)).1 (cut (ptrsOf (b.drop 16 ++ List.replicate 16 0), (0 : Int)).1 0 15)) = objOf b from ho, obj_Check_eq, Option.bind_some]
      by_cases c5 : okO (objOf b)
      · rw [if_pos c5, if_pos ⟨rfl, c4, c5⟩, zdec, cond_false]
      · rw [if_neg c5, if_neg (fun h => c5 h.2.2)]; rfl
    · rw [decide_eq_false (show ¬ (b.take 16).drop 4 = [(0 : UInt8), (0 : UInt8), (0 : UInt8), (0 : UInt8), (0 : UInt8), (0 : UInt8), (0 : UInt8), (0 : UInt8), (0 : UInt8), (0 : UInt8), (0 : UInt8), (0 : UInt8)] from c4), if_neg (fun h => c4 h.2.1)]; rfl
  · rw [if_neg (fun h => c1 h.1), ndec c1]; rfl
theorem readO_ok {b : List UInt8} (h : (readO b).2 = 0) : okO (readO b).1 := by
  unfold readO at h ⊢
  split
  · rename_i c; exact c.2.2
  · rename_i c; rw [if_neg c] at h; cases h
theorem readO_cases (b : List UInt8) : (readO b).2 = 0 ∨ (readO b) = (noO, 8) := by
  unfold readO
  split
  · exact .inl rfl
  · exact .inr rfl
theorem u8i_toNat {n : Int} (h : 0 ≤ n ∧ n ≤ 255) : ((u8i n).toNat : Int) = n := by
  obtain ⟨k, rfl⟩ := Int.eq_ofNat_of_zero_le h.1
  rw [u8i_nat]
  simp only [UInt8.toNat_ofNat']
  omega
theorem readO_objB {o : Object} (h : okO o) : readO (objB o) = (o, 0) := by
  obtain ⟨h1, h2, h3, h4, h5⟩ := h
  have hw : objB o = [o.Kind, u8i o.Links] ++ (leB o.Size.toNat 2 ++ (List.replicate 12 0 ++ (rowB o.Data).take 240)) := by simp [objB]
  have d4 : (objB o).drop 4 = List.replicate 12 0 ++ (rowB o.Data).take 240 := by
    unfold objB
    rw [List.append_assoc]; exact drop_app _ _ (by rw [List.length_append, leB_length]; rfl)
  have d16 : (objB o).drop 16 = (rowB o.Data).take 240 := by
    rw [show 16 = 4 + 12 from rfl, ← List.drop_drop, d4]; exact drop_app _ _ (by simp)
  have hrow : (rowB o.Data).take 240 ++ List.replicate 16 0 = rowB o.Data := by
    unfold rowB
    rw [take_app _ _ (by rw [flat_len, h4]), h4]
  have hrs := rowsB_row (l := o.Data) (by omega) h5
  have hps := ptrsOf_row (l := o.Data) (by omega) h5
  have ho : objOf (objB o) = o := by
    obtain ⟨K, L, S, D⟩ := o
    unfold objOf
    rw [d16, hrow, hps]
    have e1 : (objB ⟨K, L, S, D⟩).getD 0 0 = K := rfl
    have e2 : (objB ⟨K, L, S, D⟩).getD 1 0 = u8i L := rfl
    have e3 : ((objB ⟨K, L, S, D⟩).drop 2).take 2 = leB S.toNat 2 := by
      rw [hw]
      show List.take 2 (leB S.toNat 2 ++ (List.replicate 12 0 ++ (rowB D).take 240)) = _
      exact take_app _ _ (leB_length _ _)
    have hS : S.toNat < 256 ^ 2 := by
      have h3' : 0 ≤ S ∧ S ≤ 3840 := h3
      have : (256 : Nat) ^ 2 = 65536 := rfl
      omega
    rw [e1, e2, e3, u8i_toNat h2, numB_leB hS, Int.toNat_of_nonneg h3.1]
    congr 1
    exact take_app D _ h4
  unfold readO
  rw [ho, if_pos]
  refine ⟨?_, ?_, h1, h2, h3, h4, h5⟩
  · rw [d16, hrow, hrs]
  · have : ((objB o).take 16).drop 4 = ((objB o).drop 4).take 12 := by rw [List.drop_take]
    rw [this, d4, take_app _ _ (by simp)]

/-! ### Below a root -/
def ptrsS (s : Store) (root : Ptr) : List Ptr × Int :=
  if OKSt s ∧ okP root then (if isNone root then (List.replicate 16 noP, 0) else if (lookS s root).2 = 0 then rowsB (lookS s root).1 else ([], (lookS s root).2)) else ([], 8)
def oneS (s : Store) (p : Ptr) : Object × Int := if (lookS s p).2 = 0 then readO (lookS s p).1 else (noO, (lookS s p).2)
theorem look_len {s : Store} {p : Ptr} (h : (lookS s p).2 = 0) : (lookS s p).1.length = 256 := by
  obtain ⟨h1, h2, h3, h4, h5⟩ := lookS_ok h
  rw [h4]; exact seen_mem h1.1 (by obtain ⟨a, b, _⟩ := h3; omega)
theorem set_one_eq {s : Store} (hs : Sized s.Disk) (p : Ptr) : set_one s p = some (oneS s p) := by
  unfold set_one oneS
  rw [store_Look_eq hs, Option.bind_some]
  by_cases h : (lookS s p).2 = 0
  · rw [if_pos h, h, zdec, cond_false, obj_Read_eq (look_len h), Option.bind_some]
    rcases readO_cases (lookS s p).1 with e | e
    · rw [e, zdec, cond_false]; exact congrArg some (Prod.ext rfl e.symm)
    · rw [e, ndec (by decide), cond_true]; rfl
  · rw [if_neg h, ndec h, cond_true]; rfl
theorem set_Ptrs_eq {s : Store} (hs : Sized s.Disk) (root : Ptr) : set_Ptrs s root = some (ptrsS s root) := by
  unfold set_Ptrs ptrsS
  rw [store_Check_eq hs, Option.bind_some]
  by_cases h1 : OKSt s
  · rw [if_pos h1, zdec, cond_false, ptr_Check_eq', Option.bind_some]
    by_cases h2 : okP root
    · rw [if_pos (show isNone root ∨ okR root from h2), zdec, cond_false, if_pos ⟨h1, h2⟩, none_dec]
      by_cases h3 : isNone root
      · rw [decide_eq_true h3, cond_true, if_pos h3]; exact mks_eq (n := 16) (by decide)
      · rw [decide_eq_false h3, cond_false, if_neg h3, store_Look_eq hs, Option.bind_some]
        by_cases h4 : (lookS s root).2 = 0
        · rw [if_pos h4, h4, zdec, cond_false, ptr_Rows_eq (look_len h4), Option.bind_some]
          by_cases h5 : (rowsB (lookS s root).1).2 = 0
          · rw [h5, zdec, cond_false]; exact congrArg some (Prod.ext rfl h5.symm)
          · rw [ndec h5, cond_true, rowsB_err h5]
        · rw [if_neg h4, ndec h4, cond_true]
    · rw [if_neg (show ¬ (isNone root ∨ okR root) from h2), if_neg (fun h => h2 h.2)]; rfl
  · rw [if_neg h1, if_neg (fun h => h1 h.1)]; rfl
theorem ptrsS_ok {s : Store} {root : Ptr} (h : (ptrsS s root).2 = 0) : OKSt s ∧ okP root ∧ (ptrsS s root).1.length = 16 ∧ ∀ p ∈ (ptrsS s root).1, okP p := by
  unfold ptrsS at h ⊢
  by_cases h1 : OKSt s ∧ okP root
  · rw [if_pos h1] at h ⊢
    refine ⟨h1.1, h1.2, ?_⟩
    by_cases h3 : isNone root
    · rw [if_pos h3] at h ⊢
      exact ⟨List.length_replicate, fun p hp => by rw [(List.mem_replicate.1 hp).2]; exact okP_no⟩
    · rw [if_neg h3] at h ⊢
      by_cases h4 : (lookS s root).2 = 0
      · rw [if_pos h4] at h ⊢
        obtain ⟨e, hp⟩ := rowsB_ok h
        rw [e]; exact ⟨ptrsOf_length (look_len h4), hp⟩
      · rw [if_neg h4] at h; exact absurd h h4
  · rw [if_neg h1] at h; cases h
theorem ptrsS_bad {s : Store} {root : Ptr} (h : (ptrsS s root).2 ≠ 0) : (ptrsS s root).1 = [] := by
  unfold ptrsS at h ⊢
  by_cases h1 : OKSt s ∧ okP root
  · rw [if_pos h1] at h ⊢
    by_cases h3 : isNone root
    · rw [if_pos h3] at h; exact absurd rfl h
    · rw [if_neg h3] at h ⊢
      by_cases h4 : (lookS s root).2 = 0
      · rw [if_pos h4] at h ⊢; rw [rowsB_err h]
      · rw [if_neg h4]
  · rw [if_neg h1]
theorem oneS_ok {s : Store} {p : Ptr} (h : (oneS s p).2 = 0) : okO (oneS s p).1 ∧ (lookS s p).2 = 0 := by
  unfold oneS at h ⊢
  by_cases h1 : (lookS s p).2 = 0
  · rw [if_pos h1] at h ⊢; exact ⟨readO_ok h, h1⟩
  · rw [if_neg h1] at h; exact absurd h h1
def objectS (s : Store) (root : Ptr) (n : Int) : Object × Int :=
  if OKSt s ∧ okP root then (if n < 0 ∨ 16 ≤ n then (noO, 2) else if (ptrsS s root).2 = 0 then oneS s ((ptrsS s root).1.getD n.toNat noP) else (noO, (ptrsS s root).2)) else (noO, 8)
theorem set_Object_eq {s : Store} (hs : Sized s.Disk) (root : Ptr) (n : Int) : set_Object s root n = some (objectS s root n) := by
  unfold set_Object objectS
  rw [store_Check_eq hs, Option.bind_some]
  by_cases h1 : OKSt s
  · rw [if_pos h1, zdec, cond_false, ptr_Check_eq', Option.bind_some]
    by_cases h2 : okP root
    · rw [if_pos (show isNone root ∨ okR root from h2), zdec, cond_false, if_pos ⟨h1, h2⟩]
      by_cases h3 : n < 0
      · rw [decide_eq_true h3, cond_true, if_pos (.inl h3)]; rfl
      · rw [decide_eq_false h3, cond_false]
        by_cases h4 : 16 ≤ n
        · rw [decide_eq_true h4, cond_true, if_pos (.inr h4)]; rfl
        · rw [decide_eq_false h4, cond_false, if_neg (fun h => h.elim h3 h4), set_Ptrs_eq hs, Option.bind_some]
          by_cases h5 : (ptrsS s root).2 = 0
          · obtain ⟨-, -, hl, -⟩ := ptrsS_ok h5
            rw [if_pos h5, h5, zdec, cond_false]
            obtain ⟨k, rfl⟩ := Int.eq_ofNat_of_zero_le (show 0 ≤ n by omega)
            have hk : k < (ptrsS s root).1.length := by omega
            rw [Zk _ hk, set_one_eq hs, Option.bind_some, Int.toNat_natCast, List.getD_eq_getElem?_getD, List.getElem?_eq_getElem hk]; rfl
          · rw [if_neg h5, ndec h5, cond_true]; rfl
    · rw [if_neg (show ¬ (isNone root ∨ okR root) from h2), if_neg (fun h => h2 h.2)]; rfl
  · rw [if_neg h1, if_neg (fun h => h1 h.1)]; rfl
end Go.Ow

/-
  What is proved here: what is told below a root (set.Walk), in plain words.
-/
namespace Go.Ow
set_option linter.unusedVariables false
set_option linter.unusedSimpArgs false

def youngs (a : UInt32) (l : List Ptr) : List Ptr := l.filter fun q => decide (a < q.Birth)
def walkL (s : Store) (a : UInt32) : List Ptr → List Ptr × Int
  | [] => ([], 0)
  | p :: r => if p.Birth ≤ a then walkL s a r else if (oneS s p).2 = 0 then (p :: youngs a (oneS s p).1.Data ++ (walkL s a r).1, (walkL s a r).2) else ([], (oneS s p).2)
def walkS (s : Store) (root : Ptr) (a : UInt32) : List Ptr × Int :=
  if OKSt s ∧ okP root then (if root.Birth ≤ a then ([], 0) else if (ptrsS s root).2 = 0 then (if (walkL s a (ptrsS s root).1).2 = 0 then (root :: (walkL s a (ptrsS s root).1).1, 0) else ([], (walkL s a (ptrsS s root).1).2)) else ([], (ptrsS s root).2)) else ([], 8)
theorem r1_eq (y : Ptr) {s : List Ptr} (h : s.length ≤ 900000) : slices_AppendSeq_Ptr_r1 y s = some (.inl (s ++ [y])) := by
  unfold slices_AppendSeq_Ptr_r1; rw [app_eq (lim_le (by simp; omega))]
def dataF (a : UInt32) (y : Ptr) (r : List Ptr) : Option (List Ptr ⊕ (List Ptr ⊕ Unit)) := if a < y.Birth then Option.bind (slices_AppendSeq_Ptr_r1 y r) (fun o => some (match o with | .inl s => .inl s | .inr t => .inr (.inr t))) else some (.inl r)
theorem data_fold (a : UInt32) : ∀ (l r : List Ptr), r.length + l.length ≤ 900000 → forL (dataF a) l r = some (.inl (r ++ youngs a l))
  | [], r, _ => by simp [forL, youngs]
  | y :: l, r, h => by
    rw [List.length_cons] at h
    by_cases c : a < y.Birth
    · rw [forL_cons (s' := r ++ [y]) (by unfold dataF; rw [if_pos c, r1_eq y (by omega)]; rfl), data_fold a l _ (by simp; omega)]
      simp [youngs, c]
    · rw [forL_cons (s' := r) (by unfold dataF; rw [if_neg c]), data_fold a l r (by omega)]
      simp [youngs, c]
theorem data_loop (a : UInt32) (x : Object × Int) (r : List Ptr) (h : r.length + x.1.Data.length ≤ 900000) (h2 : x.1.Data.length ≤ 1000) : loop (set_young_1_l1 slices_AppendSeq_Ptr_r1 a x) (r, 0) = some (.inl (r ++ youngs a x.1.Data)) := by
  rw [loop_each' (τ := List Ptr ⊕ Unit) x.1.Data (fun i r => (r, i)) (dataF a) (fun r => .inl r) (fun i hi r => by
    unfold set_young_1_l1
    dsimp only
    rw [decide_eq_true (by omega), cond_true, Zk _ hi]
    unfold dataF
    by_cases c : a < (x.1.Data[i]).Birth
    · rw [decide_eq_true c, cond_true, if_pos c]
      cases slices_AppendSeq_Ptr_r1 x.1.Data[i] r with
      | none => rfl
      | some o => cases o <;> rfl
    · rw [decide_eq_false c, cond_false, if_neg c]; rfl) (fun r => by
    unfold set_young_1_l1
    dsimp only
    rw [decide_eq_false (by omega)]; rfl) (lt_fuel h2 (by decide)) r, data_fold a _ _ h]
  rfl
def objF (s : Store) (a : UInt32) (y : Ptr) (r : List Ptr × Int) : Option ((List Ptr × Int) ⊕ ((List Ptr × Int) ⊕ ((List Ptr ⊕ Unit) × Int))) :=
  if y.Birth ≤ a then some (.inl r) else Option.bind (set_one s y) fun x => cond (!decide (x.2 = 0)) (some (.inr (.inr (.inl r.1, x.2)))) (Option.bind (slices_AppendSeq_Ptr_r1 y r.1) fun out => Sum.elim (fun q => Option.bind (loop (set_young_1_l1 slices_AppendSeq_Ptr_r1 a x) (q, 0)) (fun t => Sum.elim (fun ta => some (.inl (ta, x.2))) (fun tb => some (.inr (.inr (.inr tb, x.2)))) t)) (fun t => some (.inr (.inr (.inr t, x.2)))) out)
theorem obj_fold {s : Store} (hs : Sized s.Disk) (a : UInt32) : ∀ (l r : List Ptr), r.length + 16 * l.length ≤ 800000 →
    ∃ r', forL (objF s a) l (r, 0) = some (if (walkL s a l).2 = 0 then .inl (r ++ (walkL s a l).1, 0) else .inr (.inr (.inl r', (walkL s a l).2)))
  | [], r, _ => ⟨[], by simp [forL, walkL]⟩
  | y :: l, r, h => by
    rw [List.length_cons] at h
    by_cases c : y.Birth ≤ a
    · obtain ⟨r', e⟩ := obj_fold hs a l r (by omega)
      refine ⟨r', ?_⟩
      rw [forL_cons (s' := (r, 0)) (by unfold objF; rw [if_pos c]), e]
      have : walkL s a (y :: l) = walkL s a l := by unfold walkL; rw [if_pos c]; cases l <;> rfl
      rw [this]
    · by_cases c1 : (oneS s y).2 = 0
      · have ho := (oneS_ok c1).1
        have hl : (oneS s y).1.Data.length = 15 := ho.2.2.2.1
        obtain ⟨r', e⟩ := obj_fold hs a l (r ++ [y] ++ youngs a (oneS s y).1.Data) (by
          have : (youngs a (oneS s y).1.Data).length ≤ 15 := by rw [← hl]; exact List.length_filter_le _ _
          simp only [List.length_append, List.length_cons, List.length_nil]; omega)
        refine ⟨r', ?_⟩
        rw [forL_cons (s' := (r ++ [y] ++ youngs a (oneS s y).1.Data, 0)) (by
          unfold objF
          rw [if_neg c, set_one_eq hs, Option.bind_some, c1, zdec, cond_false, r1_eq y (s := r) (by omega), Option.bind_some, Sum.elim_inl, data_loop a _ _ (by simp only [List.length_append, List.length_cons, List.length_nil]; omega) (by omega)]; rfl), e]
        have : walkL s a (y :: l) = (y :: youngs a (oneS s y).1.Data ++ (walkL s a l).1, (walkL s a l).2) := by conv => lhs; unfold walkL; rw [if_neg c, if_pos c1]
        rw [this]; simp
      · refine ⟨r, ?_⟩
        have : walkL s a (y :: l) = ([], (oneS s y).2) := by conv => lhs; unfold walkL; rw [if_neg c, if_neg c1]
        rw [forL_stop (e := .inr (.inl r, (oneS s y).2)) (by unfold objF; rw [if_neg c, set_one_eq hs, Option.bind_some, ndec c1, cond_true]), this, if_neg c1]
theorem obj_loop {s : Store} (hs : Sized s.Disk) (a : UInt32) (l : List Ptr × Int) (r : List Ptr) (hl : l.1.length ≤ 1000) (h : r.length + 16 * l.1.length ≤ 800000) :
    ∃ r', loop (set_young_1_l2 slices_AppendSeq_Ptr_r1 a s l) (r, 0, 0) = some (if (walkL s a l.1).2 = 0 then .inl (r ++ (walkL s a l.1).1, 0) else .inr (.inl r', (walkL s a l.1).2)) := by
  obtain ⟨r', e⟩ := obj_fold hs a l.1 r h
  refine ⟨r', ?_⟩
  have := loop_each' l.1 (fun i (r : List Ptr × Int) => (r.1, r.2, i)) (body := set_young_1_l2 slices_AppendSeq_Ptr_r1 a s l) (objF s a) (fun r => .inl r) (fun i hi r => by
    unfold set_young_1_l2
    dsimp only
    rw [decide_eq_true (by omega), cond_true, Zk _ hi]
    unfold objF
    by_cases c : (l.1[i]).Birth ≤ a
    · rw [decide_eq_true c, cond_true, if_pos c]; rfl
    · rw [decide_eq_false c, cond_false, if_neg c]
      cases set_one s l.1[i] with
      | none => rfl
      | some x =>
        rw [Option.bind_some, Option.bind_some]
        cases (!decide (x.2 = 0)) with
        | true => rfl
        | false =>
          rw [cond_false, cond_false]
          cases slices_AppendSeq_Ptr_r1 l.1[i] r.1 with
          | none => rfl
          | some o =>
            rw [Option.bind_some, Option.bind_some]
            cases o with
            | inr t => rfl
            | inl q =>
              rw [Sum.elim_inl, Sum.elim_inl]
              cases loop (set_young_1_l1 slices_AppendSeq_Ptr_r1 a x) (q, 0) with
              | none => rfl
              | some t => cases t <;> rfl) (fun r => by
    unfold set_young_1_l2
    dsimp only
    rw [decide_eq_false (by omega)]; rfl) (lt_fuel hl (by decide)) (r, 0)
  rw [show loop (set_young_1_l2 slices_AppendSeq_Ptr_r1 a s l) (r, 0, 0) = _ from this, e]
  by_cases c : (walkL s a l.1).2 = 0
  · rw [if_pos c, if_pos c]; rfl
  · rw [if_neg c, if_neg c]; rfl
theorem walk_core {s : Store} (hs : Sized s.Disk) (root : Ptr) (a : UInt32) (h : OKSt s ∧ okP root) : ∃ r', set_young_1 slices_AppendSeq_Ptr_r1 [] root a s 0 = some (if (walkS s root a).2 = 0 then (.inl (walkS s root a).1, 0) else (.inl r', (walkS s root a).2)) := by
  unfold set_young_1 walkS
  rw [if_pos h]
  by_cases c : root.Birth ≤ a
  · exact ⟨[], by rw [decide_eq_true c, cond_true, if_pos c]; rfl⟩
  rw [decide_eq_false c, cond_false, if_neg c, set_Ptrs_eq hs, Option.bind_some]
  by_cases c1 : (ptrsS s root).2 = 0
  · obtain ⟨-, -, hl, -⟩ := ptrsS_ok c1
    obtain ⟨r', e⟩ := obj_loop hs a (ptrsS s root) [root] (by omega) (by simp; omega)
    rw [c1, zdec, cond_false, r1_eq root (by simp), Option.bind_some, Sum.elim_inl, List.nil_append, e, if_pos rfl]
    refine ⟨r', ?_⟩
    by_cases c2 : (walkL s a (ptrsS s root).1).2 = 0
    · rw [if_pos c2, if_pos c2, Option.bind_some, Sum.elim_inl]; rfl
    · rw [if_neg c2, if_neg c2, Option.bind_some, Sum.elim_inr, if_neg c2]
  · rw [ndec c1, cond_true, if_neg c1]
    exact ⟨[], by rw [if_neg c1]⟩
theorem set_Walk_eq {s : Store} (hs : Sized s.Disk) (root : Ptr) (a : UInt32) : set_Walk s root a = some (walkS s root a) := by
  unfold set_Walk
  rw [store_Check_eq hs, Option.bind_some]
  by_cases h1 : OKSt s
  · rw [if_pos h1, zdec, cond_false, ptr_Check_eq', Option.bind_some]
    by_cases h2 : okP root
    · rw [if_pos (show isNone root ∨ okR root from h2), zdec, cond_false]
      obtain ⟨r', e⟩ := walk_core hs root a ⟨h1, h2⟩
      have e2 : slices_Collect_Ptr root a s 0 = some (if (walkS s root a).2 = 0 then ((walkS s root a).1, root, a, s, 0) else (r', root, a, s, (walkS s root a).2)) := by
        unfold slices_Collect_Ptr slices_AppendSeq_Ptr
        rw [e]
        by_cases c : (walkS s root a).2 = 0
        · rw [if_pos c, if_pos c]; rfl
        · rw [if_neg c, if_neg c]; rfl
      show Option.bind (slices_Collect_Ptr root a s 0) _ = _
      rw [e2]
      by_cases c : (walkS s root a).2 = 0
      · rw [if_pos c, Option.bind_some, zdec, cond_false]; exact congrArg some (Prod.ext rfl c.symm)
      · rw [if_neg c, Option.bind_some, ndec c, cond_true]
        unfold walkS at c ⊢
        rw [if_pos ⟨h1, h2⟩] at c ⊢
        by_cases d1 : root.Birth ≤ a
        · rw [if_pos d1] at c; exact absurd rfl c
        rw [if_neg d1] at c ⊢
        by_cases d2 : (ptrsS s root).2 = 0
        · rw [if_pos d2] at c ⊢
          by_cases d3 : (walkL s a (ptrsS s root).1).2 = 0
          · rw [if_pos d3] at c; exact absurd rfl c
          · rw [if_neg d3]
        · rw [if_neg d2]
    · rw [if_neg (show ¬ (isNone root ∨ okR root) from h2)]
      unfold walkS; rw [if_neg (fun h => h2 h.2)]; rfl
  · rw [if_neg h1]
    unfold walkS; rw [if_neg (fun h => h1 h.1)]; rfl
theorem walkS_bad {s : Store} {root : Ptr} {a : UInt32} (h : (walkS s root a).2 ≠ 0) : (walkS s root a).1 = [] := by
  unfold walkS at h ⊢
  split
  · rename_i c0
    rw [if_pos c0] at h
    split
    · rfl
    · rename_i c1
      rw [if_neg c1] at h
      split
      · rename_i c2
        rw [if_pos c2] at h
        split
        · rename_i c3; rw [if_pos c3] at h; exact absurd rfl h
        · rfl
      · rfl
  · rfl
/-- where all is told -/
theorem walkS_ok {s : Store} {root : Ptr} {a : UInt32} (h : (walkS s root a).2 = 0) : OKSt s ∧ okP root ∧ ((root.Birth ≤ a ∧ (walkS s root a).1 = []) ∨
    (¬ root.Birth ≤ a ∧ (ptrsS s root).2 = 0 ∧ (walkL s a (ptrsS s root).1).2 = 0 ∧ (walkS s root a).1 = root :: (walkL s a (ptrsS s root).1).1)) := by
  unfold walkS at h ⊢
  by_cases c0 : OKSt s ∧ okP root
  · rw [if_pos c0] at h ⊢
    refine ⟨c0.1, c0.2, ?_⟩
    by_cases c1 : root.Birth ≤ a
    · rw [if_pos c1]; exact .inl ⟨c1, rfl⟩
    · rw [if_neg c1] at h ⊢
      by_cases c2 : (ptrsS s root).2 = 0
      · rw [if_pos c2] at h ⊢
        by_cases c3 : (walkL s a (ptrsS s root).1).2 = 0
        · rw [if_pos c3]; exact .inr ⟨c1, c2, c3, rfl⟩
        · rw [if_neg c3] at h; exact absurd h c3
      · rw [if_neg c2] at h; exact absurd h c2
  · rw [if_neg c0] at h; cases h
end Go.Ow

/-
  What is proved here: the chapter's dataset is made, and told; the law SetNames, in plain words.
-/
namespace Go.Ow
set_option linter.unusedVariables false
set_option linter.unusedSimpArgs false

theorem PutAt.space {s : Store} {p : Ptr} {b : List UInt8} {t : Store} {q : Ptr} {j : Nat} (h : PutAt s p b t q j) : t.Space = s.Space.set j 1 := by rw [h.out]
theorem PutAt.waits {s : Store} {p : Ptr} {b : List UInt8} {t : Store} {q : Ptr} {j : Nat} (h : PutAt s p b t q j) : t.Disk.Waits.length = s.Disk.Waits.length + 1 := by rw [h.out]; simp
def dataM (p q : Ptr) : List Ptr := [p, noP, noP, noP, q, noP, noP, noP, noP, noP, noP, noP, noP, noP, noP]
structure Made (s : Store) (root at' p q : Ptr) : Prop where
  ok : OKSt s
  hr : okR root
  ha : okR at'
  hp : okR p
  hq : okR q
  rb : root.Birth = 5
  ab : at'.Birth = 5
  pb : p.Birth = 3
  qb : q.Birth = 5
  lr : lookS s root = (rowB [noP, noP, at'], 0)
  la : lookS s at' = (objB ⟨1, 0, 0, dataM p q⟩, 0)
theorem okO_data {p q : Ptr} (hp : okR p) (hq : okR q) : okO ⟨1, 0, 0, dataM p q⟩ := by
  refine ⟨⟨by show (1 : Int) ≤ ((1 : UInt8).toNat : Int); decide, by show ((1 : UInt8).toNat : Int) ≤ 7; decide⟩, ⟨Int.le_refl _, by show (0 : Int) ≤ 255; decide⟩, ⟨Int.le_refl _, by show (0 : Int) ≤ 3840; decide⟩, rfl, fun x hx => ?_⟩
  have : x = p ∨ x = q ∨ x = noP := by simp [dataM] at hx; rcases hx with h | h | h | h <;> simp [h]
  rcases this with rfl | rfl | rfl
  · exact .inr hp
  · exact .inr hq
  · exact okP_no
section told
variable {s : Store} {root at' p q : Ptr} (h : Made s root at' p q)
include h
theorem Made.one : oneS s at' = (⟨1, 0, 0, dataM p q⟩, 0) := by
  unfold oneS
  rw [h.la, if_pos rfl, readO_objB (okO_data h.hp h.hq)]
end told
end Go.Ow

/-
  What is proved here: the law SetYoung, in plain words.
-/
namespace Go.Ow
set_option linter.unusedVariables false
set_option linter.unusedSimpArgs false

theorem noP_birth (a : UInt32) : noP.Birth ≤ a := by show (0 : UInt32) ≤ a; rw [UInt32.le_iff_toNat_le]; exact Nat.zero_le _
theorem walk_len {s : Store} {a : UInt32} : ∀ {l : List Ptr}, (walkL s a l).2 = 0 → (walkL s a l).1.length ≤ 16 * l.length
  | [], _ => by simp [walkL]
  | y :: l, h => by
    by_cases c : y.Birth ≤ a
    · have e : walkL s a (y :: l) = walkL s a l := by conv => lhs; unfold walkL; rw [if_pos c]
      rw [e] at h ⊢
      have := walk_len h
      rw [List.length_cons]; omega
    · by_cases c1 : (oneS s y).2 = 0
      · have e : walkL s a (y :: l) = (y :: youngs a (oneS s y).1.Data ++ (walkL s a l).1, (walkL s a l).2) := by conv => lhs; unfold walkL; rw [if_neg c, if_pos c1]
        rw [e] at h ⊢
        have h1 := walk_len (s := s) (a := a) (l := l) h
        have hl : (oneS s y).1.Data.length = 15 := (oneS_ok c1).1.2.2.2.1
        have h2 : (youngs a (oneS s y).1.Data).length ≤ 15 := by rw [← hl]; exact List.length_filter_le _ _
        simp only [List.length_append, List.length_cons]; omega
      · have e : walkL s a (y :: l) = ([], (oneS s y).2) := by conv => lhs; unfold walkL; rw [if_neg c, if_neg c1]
        rw [e] at h; exact absurd h c1
theorem walkS_len {s : Store} {root : Ptr} {a : UInt32} : (walkS s root a).1.length ≤ 257 := by
  by_cases h : (walkS s root a).2 = 0
  · obtain ⟨-, -, h1 | ⟨-, h2, h3, h4⟩⟩ := walkS_ok h
    · rw [h1.2]; simp
    · have := walk_len h3
      have hl := (ptrsS_ok h2).2.2.1
      rw [h4, List.length_cons]; omega
  · rw [walkS_bad h]; simp
end Go.Ow

/-
  What is proved here: the law SetParts, in plain words.
-/
namespace Go.Ow
set_option linter.unusedVariables false
set_option linter.unusedSimpArgs false

end Go.Ow

/-
  What is proved here: the law SetLater, in plain words: what is told above a later birth is a part of what is told above an earlier one, in order.
-/
namespace Go.Ow
set_option linter.unusedVariables false
set_option linter.unusedSimpArgs false

end Go.Ow

/-
  What is proved here: the law SetAlone, in plain words: a block that is laid changes nothing that is told below a root whose blocks are all taken.
-/
namespace Go.Ow
set_option linter.unusedVariables false
set_option linter.unusedSimpArgs false

section
variable {s : Store} {p : Ptr} {b : List UInt8} {t : Store} {q : Ptr} {j : Nat}
end
theorem objectS_data (s : Store) (root : Ptr) (n : Int) : (objectS s root n).1.Data.length ≤ 15 := by
  have one : ∀ x, (oneS s x).1.Data.length ≤ 15 := by
    intro x
    by_cases c : (oneS s x).2 = 0
    · exact Nat.le_of_eq (oneS_ok c).1.2.2.2.1
    · unfold oneS at c ⊢
      by_cases c1 : (lookS s x).2 = 0
      · rw [if_pos c1] at c ⊢
        rcases readO_cases (lookS s x).1 with e | e
        · exact absurd e c
        · rw [e]; exact Nat.zero_le _
      · rw [if_neg c1]; exact Nat.zero_le _
  unfold objectS
  split
  · split
    · exact Nat.zero_le _
    · split
      · exact one _
      · exact Nat.zero_le _
  · exact Nat.zero_le _
end Go.Ow

/-
  What is proved here: the document's sum of bytes (charterhouseref02) is the program's (mix.Sum), in plain words.
-/
namespace Go.Ow
set_option linter.unusedVariables false
set_option linter.unusedSimpArgs false

/-! ### turning to the left -/
def rotN (x k : Nat) : Nat := x % 2 ^ (32 - k) * 2 ^ k + x / 2 ^ (32 - k)
theorem rot_step {x : Nat} (h : x < 4294967296) (i : Nat) (hi : i < 15) : 2 * rotN x i % 4294967296 + 2 * rotN x i / 4294967296 = rotN x (i + 1) ∧ rotN x i < 4294967296 := by
  have : i = 0 ∨ i = 1 ∨ i = 2 ∨ i = 3 ∨ i = 4 ∨ i = 5 ∨ i = 6 ∨ i = 7 ∨ i = 8 ∨ i = 9 ∨ i = 10 ∨ i = 11 ∨ i = 12 ∨ i = 13 ∨ i = 14 := by omega
  rcases this with rfl | rfl | rfl | rfl | rfl | rfl | rfl | rfl | rfl | rfl | rfl | rfl | rfl | rfl | rfl <;>
    (simp only [rotN, Nat.reduceSub, Nat.reducePow, Nat.reduceAdd]; omega)
theorem left_step {y : Nat} (h : y < 4294967296) : w64 (((w64 ((y : Int) * 2)).tmod 4294967296) + (w64 ((w64 ((y : Int) * 2)).tdiv 4294967296))) = ((2 * y % 4294967296 + 2 * y / 4294967296 : Nat) : Int) := by
  have e : (y : Int) * 2 = ((2 * y : Nat) : Int) := by omega
  rw [e, YF (n := ((2 * y : Nat) : Int)) (by omega) (by omega), Int.tmod_eq_emod_of_nonneg (by omega), Int.tdiv_eq_ediv_of_nonneg (by omega), YF (n := ((2 * y : Nat) : Int) / 4294967296) (by omega) (by omega), YF (by omega) (by omega)]
  omega
theorem ref_left_run {x n : Nat} (h : x < 4294967296) (hn : n ≤ 15) : ∀ (k i f : Nat), i + k = n → k < f → run (ref02_left_l1 (n : Int)) f ((rotN x i : Int), (i : Int)) = some (rotN x n : Int)
  | 0, i, f, hi, hf => by
    obtain ⟨f, rfl⟩ : ∃ q, f = q + 1 := ⟨f - 1, by omega⟩
    refine run_en ?_
    unfold ref02_left_l1
    dsimp only
    rw [decide_eq_false (by omega), cond_false, show i = n by omega]
  | k + 1, i, f, hi, hf => by
    obtain ⟨f, rfl⟩ : ∃ q, f = q + 1 := ⟨f - 1, by omega⟩
    obtain ⟨h1, h2⟩ := rot_step h i (by omega)
    rw [run_st (s' := ((rotN x (i + 1) : Int), ((i + 1 : Nat) : Int))) (by
      unfold ref02_left_l1
      dsimp only
      rw [decide_eq_true (by omega), cond_true, left_step h2, h1, YF (n := (i : Int) + 1) (by omega) (by omega)]
      rfl)]
    exact ref_left_run h hn k (i + 1) f (by omega) (by omega)
theorem rotN_zero {x : Nat} (h : x < 4294967296) : rotN x 0 = x := by
  simp only [rotN, Nat.reduceSub, Nat.reducePow]; omega
theorem u32i_nat' (n : Nat) : u32i (n : Int) = UInt32.ofNat n := by
  unfold u32i
  apply UInt32.toNat_inj.1
  rw [UInt32.toNat_ofNat', UInt32.toNat_ofNat']; omega
theorem ref_left_eq (p : UInt32) {n : Nat} (hn : n ≤ 15) : ref02_left p (n : Int) = some (UInt32.ofNat (rotN p.toNat n)) := by
  have h : p.toNat < 4294967296 := p.toNat_lt
  unfold ref02_left
  have := ref_left_run h hn n 0 17 (by omega) (by omega)
  rw [rotN_zero h] at this
  rw [show loop (ref02_left_l1 (n : Int)) ((p.toNat : Int), 0) = some (rotN p.toNat n : Int) from loop_of (by decide) this, Option.bind_some, u32i_nat']
theorem or_rot (p : UInt32) {k : Nat} (h1 : 1 ≤ k) (hk : k ≤ 15) : sl32 p k ||| sr32 p (32 - k) = UInt32.ofNat (rotN p.toNat k) := by
  have h : p.toNat < 4294967296 := p.toNat_lt
  apply UInt32.toNat_inj.1
  rw [UInt32.toNat_or]
  unfold sl32 sr32
  rw [UInt32.toNat_ofNat', UInt32.toNat_ofNat', UInt32.toNat_ofNat', Nat.min_eq_left (by omega), Nat.min_eq_left (by omega)]
  have e : (2 : Nat) ^ 32 = 2 ^ k * 2 ^ (32 - k) := by rw [← Nat.pow_add, show k + (32 - k) = 32 by omega]
  have h2 : p.toNat / 2 ^ (32 - k) < 2 ^ k := by rw [Nat.div_lt_iff_lt_mul (Nat.two_pow_pos _), ← e]; exact h
  have h3 : p.toNat * 2 ^ k % 2 ^ 32 = 2 ^ k * (p.toNat % 2 ^ (32 - k)) := by rw [e, Nat.mul_comm p.toNat, Nat.mul_mod_mul_left]
  have h4 : p.toNat / 2 ^ (32 - k) % 2 ^ 32 = p.toNat / 2 ^ (32 - k) := Nat.mod_eq_of_lt (Nat.lt_of_le_of_lt (Nat.div_le_self _ _) h)
  have h5 : rotN p.toNat k < 2 ^ 32 := by
    unfold rotN
    have : p.toNat % 2 ^ (32 - k) < 2 ^ (32 - k) := Nat.mod_lt _ (Nat.two_pow_pos _)
    have := Nat.mul_le_mul_right (2 ^ k) (show p.toNat % 2 ^ (32 - k) + 1 ≤ 2 ^ (32 - k) from this)
    rw [Nat.add_mul, Nat.one_mul, Nat.mul_comm (2 ^ (32 - k)), ← e] at this
    omega
  rw [h3, h4, ← Nat.two_pow_add_eq_or_of_lt h2, Nat.mod_eq_of_lt h5]
  unfold rotN
  rw [Nat.mul_comm (2 ^ k)]
theorem rl_eq (p : UInt32) : math_bits_RotateLeft32 p 15 = some (UInt32.ofNat (rotN p.toNat 15)) ∧ math_bits_RotateLeft32 p 11 = some (UInt32.ofNat (rotN p.toNat 11)) ∧
    math_bits_RotateLeft32 p 9 = some (UInt32.ofNat (rotN p.toNat 9)) ∧ math_bits_RotateLeft32 p 6 = some (UInt32.ofNat (rotN p.toNat 6)) := by
  refine ⟨?_, ?_, ?_, ?_⟩
  · rw [← or_rot p (k := 15) (by omega) (by omega)]; rfl
  · rw [← or_rot p (k := 11) (by omega) (by omega)]; rfl
  · rw [← or_rot p (k := 9) (by omega) (by omega)]; rfl
  · rw [← or_rot p (k := 6) (by omega) (by omega)]; rfl
theorem ref_plus_eq (a b : UInt32) : ref02_plus a b = some (a + b) := by
  have ha : a.toNat < 4294967296 := a.toNat_lt
  have hb : b.toNat < 4294967296 := b.toNat_lt
  unfold ref02_plus
  rw [YF (by omega) (by omega), Int.tmod_eq_emod_of_nonneg (by omega)]
  congr 1
  rw [show (((a.toNat : Int) + (b.toNat : Int)) % 4294967296) = (((a.toNat + b.toNat) % 4294967296 : Nat) : Int) by omega, u32i_nat']
  apply UInt32.toNat_inj.1
  rw [UInt32.toNat_ofNat', UInt32.toNat_add]; omega
/-- one turn -/
def turnP (x : A4 UInt32) : A4 UInt32 :=
  let a := x.e0 + x.e1
  let d := UInt32.ofNat (rotN (x.e3 ^^^ a).toNat 15)
  let c := x.e2 + d
  let b := UInt32.ofNat (rotN (x.e1 ^^^ c).toNat 11)
  let a2 := a + b
  let d2 := UInt32.ofNat (rotN (d ^^^ a2).toNat 9)
  let c2 := c + d2
  ⟨a2, UInt32.ofNat (rotN (b ^^^ c2).toNat 6), c2, d2⟩
theorem turned_eq (x : A4 UInt32) : mix_words_turned x = some (turnP x) := by
  unfold mix_words_turned mix_words_turned_1
  simp only [(rl_eq _).1, (rl_eq _).2.1, (rl_eq _).2.2.1, (rl_eq _).2.2.2, Option.bind_some]
  rfl
theorem ref_turn_eq (x : A4 UInt32) : ref02_Turn x = some (turnP x) := by
  unfold ref02_Turn
  simp only [ref_plus_eq, Option.bind_some, show ∀ p, ref02_left p 15 = some (UInt32.ofNat (rotN p.toNat 15)) from fun p => ref_left_eq p (n := 15) (by omega), show ∀ p, ref02_left p 11 = some (UInt32.ofNat (rotN p.toNat 11)) from fun p => ref_left_eq p (n := 11) (by omega),
    show ∀ p, ref02_left p 9 = some (UInt32.ofNat (rotN p.toNat 9)) from fun p => ref_left_eq p (n := 9) (by omega), show ∀ p, ref02_left p 6 = some (UInt32.ofNat (rotN p.toNat 6)) from fun p => ref_left_eq p (n := 6) (by omega)]
  rfl
def itP : Nat → A4 UInt32 → A4 UInt32
  | 0, x => x
  | k + 1, x => itP k (turnP x)
theorem often_run {N : Nat} (hN : N ≤ 100) : ∀ (k i f : Nat) (x : A4 UInt32), i + k = N → k < f → run (mix_words_often_l1 (N : Int)) f (x.e0, x.e1, x.e2, x.e3, (i : Int)) = some ((itP k x).e0, (itP k x).e1, (itP k x).e2, (itP k x).e3)
  | 0, i, f, x, hi, hf => by
    obtain ⟨f, rfl⟩ : ∃ q, f = q + 1 := ⟨f - 1, by omega⟩
    refine run_en ?_
    unfold mix_words_often_l1
    dsimp only
    rw [decide_eq_false (by omega)]; rfl
  | k + 1, i, f, x, hi, hf => by
    obtain ⟨f, rfl⟩ : ∃ q, f = q + 1 := ⟨f - 1, by omega⟩
    rw [run_st (s' := ((turnP x).e0, (turnP x).e1, (turnP x).e2, (turnP x).e3, ((i + 1 : Nat) : Int))) (by
      unfold mix_words_often_l1
      dsimp only
      rw [decide_eq_true (by omega), cond_true, turned_eq, Option.bind_some, YF (by omega) (by omega)]; rfl)]
    exact often_run hN k (i + 1) f (turnP x) (by omega) (by omega)
theorem often_eq (x : A4 UInt32) {N : Nat} (hN : N ≤ 100) : mix_words_often x (N : Int) = some (itP N x) := by
  unfold mix_words_often
  rw [show loop (mix_words_often_l1 (N : Int)) (x.e0, x.e1, x.e2, x.e3, 0) = some ((itP N x).e0, (itP N x).e1, (itP N x).e2, (itP N x).e3) from loop_of (n := 102) (by decide) (often_run hN N 0 102 x (by omega) (by omega)), Option.bind_some]
end Go.Ow

/-
  What is proved here: the document's sum of bytes is the program's, second half: words, padding, rounds.
-/
namespace Go.Ow
set_option linter.unusedVariables false
set_option linter.unusedSimpArgs false

def padB (b : List UInt8) : List UInt8 := (b ++ [1]) ++ List.replicate (pad8 (b.length + 1)) 0
theorem padB_length (b : List UInt8) : (padB b).length % 8 = 0 ∧ b.length < (padB b).length ∧ (padB b).length ≤ b.length + 8 := by
  unfold padB pad8
  simp only [List.length_append, List.length_cons, List.length_nil, List.length_replicate]
  omega
theorem four_run : ∀ (k f : Nat) (s : List UInt8), pad8 s.length = k → k < f → s.length ≤ 100000 → run mix_four_l1 f s = some (s ++ List.replicate k 0)
  | 0, f, s, hk, hf, hs => by
    obtain ⟨f, rfl⟩ : ∃ q, f = q + 1 := ⟨f - 1, by omega⟩
    refine run_en ?_
    unfold mix_four_l1
    unfold pad8 at hk
    rw [Int.tmod_eq_emod_of_nonneg (by omega), decide_eq_true (show (s.length : Int) % 8 = 0 by omega)]
    simp
  | k + 1, f, s, hk, hf, hs => by
    obtain ⟨f, rfl⟩ : ∃ q, f = q + 1 := ⟨f - 1, by omega⟩
    have hk' := hk
    unfold pad8 at hk'
    have h8 : s.length % 8 ≠ 0 := by omega
    have hp := pad8_step h8
    rw [run_st (s' := s ++ [0]) (by
      unfold mix_four_l1
      rw [Int.tmod_eq_emod_of_nonneg (by omega), decide_eq_false (show ¬ (s.length : Int) % 8 = 0 by omega)]
      simp only [Bool.not_false, cond_true]
      rw [app_eq (by simp only [List.length_cons, List.length_nil, LIM]; omega)])]
    rcases Nat.lt_or_ge s.length 100000 with hl | hl
    · rw [four_run k f (s ++ [0]) (by simp only [List.length_append, List.length_cons, List.length_nil, Nat.zero_add]; omega) (by omega) (by simp only [List.length_append, List.length_cons, List.length_nil]; omega), List.append_assoc]
      rfl
    · have : s.length = 100000 := by omega
      rw [this] at h8; exact absurd rfl h8
theorem word_num {y0 y1 y2 y3 : UInt8} : y0.toUInt32 + (256 : UInt32) * y1.toUInt32 + (65536 : UInt32) * y2.toUInt32 + (16777216 : UInt32) * y3.toUInt32 = UInt32.ofNat (numB [y0, y1, y2, y3]) := by
  apply UInt32.toNat_inj.1
  have h0 := y0.toNat_lt; have h1 := y1.toNat_lt; have h2 := y2.toNat_lt; have h3 := y3.toNat_lt
  simp only [UInt32.toNat_add, UInt32.toNat_mul, UInt8.toNat_toUInt32, UInt32.toNat_ofNat', numB, show (256 : UInt32).toNat = 256 from rfl, show (65536 : UInt32).toNat = 65536 from rfl, show (16777216 : UInt32).toNat = 16777216 from rfl]
  omega
theorem byteAt_eq (b : List UInt8) (i : Nat) : ref02_byteAt b (i : Int) = some (((padB b).getD i 0).toUInt32) := by
  unfold ref02_byteAt
  by_cases c : i < b.length
  · rw [decide_eq_true (by omega), cond_true, Zk _ c, List.getD_eq_getElem?_getD]
    unfold padB
    rw [List.append_assoc, List.getElem?_append_left c, List.getElem?_eq_getElem c]; rfl
  · rw [decide_eq_false (by omega), cond_false]
    by_cases c1 : i = b.length
    · rw [decide_eq_true (by omega), cond_true, List.getD_eq_getElem?_getD]
      unfold padB
      rw [List.append_assoc, List.getElem?_append_right (by omega), c1, Nat.sub_self]; rfl
    · rw [decide_eq_false (by omega), cond_false, List.getD_eq_getElem?_getD]
      unfold padB
      rw [List.getElem?_append_right (by simp; omega), List.getElem?_replicate]
      split <;> rfl
theorem take4 {l : List UInt8} {i : Nat} (h : i + 4 ≤ l.length) : (l.drop i).take 4 = [l.getD i 0, l.getD (i + 1) 0, l.getD (i + 2) 0, l.getD (i + 3) 0] := by
  simp only [List.getD_eq_getElem?_getD]
  rw [List.getElem?_eq_getElem (by omega), List.getElem?_eq_getElem (by omega), List.getElem?_eq_getElem (by omega), List.getElem?_eq_getElem (by omega)]
  rw [List.drop_eq_getElem_cons (by omega : i < l.length), List.drop_eq_getElem_cons (by omega : i + 1 < l.length), List.drop_eq_getElem_cons (by omega : i + 1 + 1 < l.length), List.drop_eq_getElem_cons (by omega : i + 1 + 1 + 1 < l.length)]
  rfl
theorem ref_word_eq {b : List UInt8} (hb : b.length ≤ 100000) {i : Nat} (h : i + 4 ≤ (padB b).length) : ref02_word b (i : Int) = some (UInt32.ofNat (numB (((padB b).drop i).take 4))) := by
  have hl := (padB_length b).2.2
  unfold ref02_word
  rw [byteAt_eq, Option.bind_some, YF (n := (i : Int) + 1) (by omega) (by omega), show (i : Int) + 1 = ((i + 1 : Nat) : Int) by omega, byteAt_eq, Option.bind_some, YF (n := (i : Int) + 2) (by omega) (by omega), show (i : Int) + 2 = ((i + 2 : Nat) : Int) by omega, byteAt_eq, Option.bind_some,
    YF (n := (i : Int) + 3) (by omega) (by omega), show (i : Int) + 3 = ((i + 3 : Nat) : Int) by omega, byteAt_eq, Option.bind_some, take4 h, word_num]
theorem number_eq {b : List UInt8} (h : b.length = 4) : mix_number b = some (UInt32.ofNat (numB b)) := by
  unfold mix_number
  rw [show (0 : Int) = ((0 : Nat) : Int) from rfl, show (4 : Int) = ((4 : Nat) : Int) from rfl, code_Get_eq (by omega) (by omega) (by omega) (by omega), Option.bind_some, List.drop_zero, List.take_of_length_le (by omega), u32i_nat']
/-- one round -/
def roundP (x : A4 UInt32) (y : List UInt8) : A4 UInt32 := itP 4 ⟨x.e0 ^^^ UInt32.ofNat (numB (y.take 4)), x.e1, x.e2 ^^^ UInt32.ofNat (numB ((y.drop 4).take 4)), x.e3⟩
theorem mix_round {y : List UInt8} (h : y.length = 8) (x : A4 UInt32) : mix_four_r2 y (x.e0, x.e1, x.e2, x.e3) = some (.inl ((roundP x y).e0, (roundP x y).e1, (roundP x y).e2, (roundP x y).e3)) := by
  have h1 : cut y 0 4 = y.take 4 := by simp [cut]
  have h2 : cut y 4 (y.length : Int) = (y.drop 4).take 4 := by
    unfold cut
    rw [Int.toNat_natCast, h]; rfl
  unfold mix_four_r2
  rw [slc_eq (by omega) (by omega) (by omega), h1, number_eq (by rw [List.length_take]; omega), Option.bind_some, Option.bind_some, slc_eq (by omega) (by omega) (by omega), h2, number_eq (by rw [List.length_take, List.length_drop]; omega), Option.bind_some,
    show (4 : Int) = ((4 : Nat) : Int) from rfl, often_eq _ (by omega), Option.bind_some]
  rfl
theorem mix_rounds : ∀ (l : List (List UInt8)) (x : A4 UInt32), (∀ y ∈ l, y.length = 8) → forL mix_four_r2 l (x.e0, x.e1, x.e2, x.e3) = some (.inl ((l.foldl roundP x).e0, (l.foldl roundP x).e1, (l.foldl roundP x).e2, (l.foldl roundP x).e3))
  | [], x, _ => rfl
  | y :: l, x, h => by
    rw [forL_cons (mix_round (h y (by simp)) x), mix_rounds l _ (fun z hz => h z (by simp [hz]))]; rfl
def startP : A4 UInt32 := ⟨1, 2, 3, 4⟩
def fourP (b : List UInt8) : A4 UInt32 :=
  let s := (chunks 8 (padB b).length (padB b)).foldl roundP startP
  itP 8 ⟨s.e0, s.e1 ^^^ UInt32.ofNat b.length, s.e2, s.e3⟩
theorem mix_four_eq {b : List UInt8} (h : b.length ≤ 10000) : mix_four b = some (fourP b) := by
  obtain ⟨p1, p2, p3⟩ := padB_length b
  unfold mix_four slices_Clone_byte slices_Clip_byte
  rw [app_eq (by simp only [List.length_nil, LIM]; omega)]
  simp only [Option.bind_some, List.nil_append]
  rw [slc_eq (by omega) (by omega) (by omega)]
  simp only [Option.bind_some]
  have hc : cut b 0 (b.length : Int) = b := by simp [cut]
  have hp := pad8_le (b.length + 1)
  rw [hc, app_eq (by simp only [List.length_cons, List.length_nil, LIM]; omega)]
  have h1 : loop mix_four_l1 (b ++ [1]) = some (padB b) := loop_of (n := 10) (by decide) (four_run (pad8 (b.length + 1)) 10 (b ++ [1]) (by simp) (by omega) (by simp; omega))
  rw [h1]
  simp only [Option.bind_some]
  unfold slices_Chunk_byte
  rw [if_pos ⟨by omega, by omega, by simp only [LIM]; omega⟩]
  simp only [Option.bind_some]
  rw [show ((1 : UInt32), (2 : UInt32), (3 : UInt32), (4 : UInt32)) = (startP.e0, startP.e1, startP.e2, startP.e3) from rfl, show (8 : Int).toNat = 8 from rfl, mix_rounds _ _ (fun y hy => chunks_len (n := 8) (by omega) (padB b).length (padB b) (Nat.le_refl _) p1 y hy)]
  simp only [Option.bind_some, Sum.elim_inl]
  rw [show (8 : Int) = ((8 : Nat) : Int) from rfl, often_eq _ (by omega), Option.bind_some, u32i_nat']
  rfl
theorem ref_four_run {b : List UInt8} (hb : b.length ≤ 10000) : ∀ (k f i : Nat) (x : A4 UInt32), (i + k) * 8 = (padB b).length → k < f →
    run (ref02_Four_l1 b) f (x.e0, x.e1, x.e2, x.e3, ((8 * i : Nat) : Int)) = some (((chunks 8 (8 * k) ((padB b).drop (8 * i))).foldl roundP x).e0, ((chunks 8 (8 * k) ((padB b).drop (8 * i))).foldl roundP x).e1, ((chunks 8 (8 * k) ((padB b).drop (8 * i))).foldl roundP x).e2, ((chunks 8 (8 * k) ((padB b).drop (8 * i))).foldl roundP x).e3)
  | 0, f, i, x, hi, hf => by
    obtain ⟨p1, p2, p3⟩ := padB_length b
    obtain ⟨f, rfl⟩ : ∃ q, f = q + 1 := ⟨f - 1, by omega⟩
    refine run_en ?_
    unfold ref02_Four_l1
    dsimp only
    rw [decide_eq_false (by omega)]; rfl
  | k + 1, f, i, x, hi, hf => by
    obtain ⟨p1, p2, p3⟩ := padB_length b
    obtain ⟨f, rfl⟩ : ∃ q, f = q + 1 := ⟨f - 1, by omega⟩
    have hne : (padB b).drop (8 * i) ≠ [] := fun e => by have := congrArg List.length e; rw [List.length_drop] at this; simp at this; omega
    have hst : chunks 8 (8 * (k + 1)) ((padB b).drop (8 * i)) = ((padB b).drop (8 * i)).take 8 :: chunks 8 (8 * k) ((padB b).drop (8 * (i + 1))) := by
      rw [show 8 * (k + 1) = (8 * k + 7) + 1 by omega, chunks_step hne, List.drop_drop, show 8 * i + 8 = 8 * (i + 1) by omega]
      congr 1
      exact chunks_fuel (by decide) (by rw [List.length_drop]; omega) (by rw [List.length_drop]; omega)
    rw [hst, List.foldl_cons]
    have e0 : (((padB b).drop (8 * i)).take 8).take 4 = ((padB b).drop (8 * i)).take 4 := by rw [List.take_take]; rfl
    have e1 : ((((padB b).drop (8 * i)).take 8).drop 4).take 4 = ((padB b).drop (8 * i + 4)).take 4 := by rw [List.drop_take, List.take_take, List.drop_drop]; rfl
    have hr : roundP x (((padB b).drop (8 * i)).take 8) = turnP (turnP (turnP (turnP ⟨x.e0 ^^^ UInt32.ofNat (numB (((padB b).drop (8 * i)).take 4)), x.e1, x.e2 ^^^ UInt32.ofNat (numB (((padB b).drop (8 * i + 4)).take 4)), x.e3⟩))) := by
      unfold roundP; rw [e0, e1]; rfl
    rw [hr, run_st (s' := _) (by
      unfold ref02_Four_l1
      dsimp only
      rw [decide_eq_true (by omega), cond_true, ref_word_eq (by omega) (by omega), Option.bind_some, Option.bind_some, YF (n := ((8 * i : Nat) : Int) + 4) (by omega) (by omega), show ((8 * i : Nat) : Int) + 4 = ((8 * i + 4 : Nat) : Int) by omega, ref_word_eq (by omega) (by omega), Option.bind_some, Option.bind_some,
        ref_turn_eq, Option.bind_some, ref_turn_eq, Option.bind_some, ref_turn_eq, Option.bind_some, ref_turn_eq, Option.bind_some, YF (by omega) (by omega), show ((8 * i : Nat) : Int) + 8 = ((8 * (i + 1) : Nat) : Int) by omega])]
    exact ref_four_run hb k f (i + 1) _ (by omega) (by omega)
theorem ref_four_eq {b : List UInt8} (hb : b.length ≤ 10000) : ref02_Four b = some (fourP b) := by
  obtain ⟨p1, p2, p3⟩ := padB_length b
  unfold ref02_Four
  have h := ref_four_run hb ((padB b).length / 8) 2000 0 startP (by omega) (by omega)
  rw [show 8 * ((padB b).length / 8) = (padB b).length by omega, show 8 * 0 = 0 from rfl, List.drop_zero] at h
  rw [show loop (ref02_Four_l1 b) ((1 : UInt32), (2 : UInt32), (3 : UInt32), (4 : UInt32), 0) = _ from loop_of (by decide) h, Option.bind_some]
  simp only [ref_turn_eq, Option.bind_some, u32i_nat']
  rfl
theorem ref_sum_eq {b : List UInt8} (hb : b.length ≤ 10000) : ref02_Sum b = some (sumOf b) := by
  rw [← mix_Sum_eq hb]
  unfold ref02_Sum mix_Sum
  rw [ref_four_eq hb, mix_four_eq hb]
end Go.Ow

/-
  What is proved here: the document's copies, its bounds, and what it sees on a disk (charterhouseref09, 12, 13), in plain words.
-/
namespace Go.Ow
set_option linter.unusedVariables false
set_option linter.unusedSimpArgs false

/-- not too large -/
structure SmallD (d : Disk) : Prop where
  blocks : d.Blocks.length ≤ 2000000
  waits : d.Waits.length ≤ 2000000
  block : ∀ b ∈ d.Blocks, b.length ≤ 2000000
  wait : ∀ w ∈ d.Waits, w.Data.length ≤ 2000000
theorem lim_le' {n : Nat} (h : n ≤ 2000000) : n ≤ LIM := Nat.le_trans h (by decide)
theorem chkN_none {α β : Type} (k : Option β) : chkN (none : Option α) k = k := rfl
theorem map_same {α : Type} {f : α → α} (h : ∀ x, f x = x) (l : List α) : l.map f = l := by
  rw [show f = id from funext h, List.map_id]
theorem rtwin_l1 {d : Disk} (hs : SmallD d) : ∀ (k i f : Nat), i + k = d.Blocks.length → k < f → run (ref09_Twin_l1 d) f ((d.Blocks.take i).map some ++ List.replicate k none, i) = some (d.Blocks.map some)
  | 0, i, f, hi, hf => by
    obtain ⟨f, rfl⟩ : ∃ q, f = q + 1 := ⟨f - 1, by omega⟩
    refine run_en ?_
    unfold ref09_Twin_l1
    dsimp only
    rw [decide_eq_false (by omega), cond_false, List.take_of_length_le (by omega), List.replicate_zero, List.append_nil]
  | k + 1, i, f, hi, hf => by
    obtain ⟨f, rfl⟩ : ∃ q, f = q + 1 := ⟨f - 1, by omega⟩
    have hlt : i < d.Blocks.length := by omega
    have hb := hs.block _ (List.getElem_mem hlt)
    have hlen : ((d.Blocks.take i).map some).length = i := by rw [List.length_map, List.length_take]; omega
    have hS : ((d.Blocks.take i).map some ++ List.replicate (k + 1) (none : Option (List UInt8)))[i]? = some none := by
      rw [List.getElem?_append_right (by omega), hlen, Nat.sub_self]; rfl
    have hset : ((d.Blocks.take i).map some ++ List.replicate (k + 1) (none : Option (List UInt8))).set i (some d.Blocks[i]) = (d.Blocks.take (i + 1)).map some ++ List.replicate k none := by
      rw [List.set_append_right _ _ (by omega), hlen, Nat.sub_self, List.replicate_succ, List.set_cons_zero, List.take_succ_eq_append_getElem hlt, List.map_append, List.append_assoc]; rfl
    rw [run_st (s' := ((d.Blocks.take (i + 1)).map some ++ List.replicate k none, i + 1)) (by
      unfold ref09_Twin_l1
      dsimp only
      rw [decide_eq_true (by omega), cond_true, Zk _ hlt, idx_eq (y := none) ⟨by omega, by rw [Int.toNat_natCast]; exact hS⟩]
      rw [chkN_none, app_eq (by simp only [List.length_nil, Nat.zero_add]; exact lim_le' hb), List.nil_append, chk_eq ⟨by omega, by rw [Int.toNat_natCast, List.length_append, hlen, List.length_replicate]; omega⟩, setI_eq (by omega) (by rw [Int.toNat_natCast, List.length_append, hlen, List.length_replicate]; omega), Int.toNat_natCast, hset])]
    exact rtwin_l1 hs k (i + 1) f (by omega) (by omega)
theorem rtwin_l2 {d : Disk} (hs : SmallD d) : ∀ (k i f : Nat), i + k = d.Waits.length → k < f → run (ref09_Twin_l2 d) f ((d.Waits.take i).map (fun w => (⟨w.At, some w.Data⟩ : WriteO)) ++ List.replicate k ⟨0, none⟩, i) = some (d.Waits.map fun w => ⟨w.At, some w.Data⟩)
  | 0, i, f, hi, hf => by
    obtain ⟨f, rfl⟩ : ∃ q, f = q + 1 := ⟨f - 1, by omega⟩
    refine run_en ?_
    unfold ref09_Twin_l2
    dsimp only
    rw [decide_eq_false (by omega), cond_false, List.take_of_length_le (by omega), List.replicate_zero, List.append_nil]
  | k + 1, i, f, hi, hf => by
    obtain ⟨f, rfl⟩ : ∃ q, f = q + 1 := ⟨f - 1, by omega⟩
    have hlt : i < d.Waits.length := by omega
    have hb := hs.wait _ (List.getElem_mem hlt)
    have hlen : ((d.Waits.take i).map (fun w => (⟨w.At, some w.Data⟩ : WriteO))).length = i := by rw [List.length_map, List.length_take]; omega
    have hS : ∀ z : WriteO, ((d.Waits.take i).map (fun w => (⟨w.At, some w.Data⟩ : WriteO)) ++ z :: List.replicate k ⟨0, none⟩)[i]? = some z := fun z => by
      rw [List.getElem?_append_right (by omega), hlen, Nat.sub_self]; rfl
    have hset : ∀ z y : WriteO, ((d.Waits.take i).map (fun w => (⟨w.At, some w.Data⟩ : WriteO)) ++ z :: List.replicate k ⟨0, none⟩).set i y = (d.Waits.take i).map (fun w => (⟨w.At, some w.Data⟩ : WriteO)) ++ y :: List.replicate k ⟨0, none⟩ := fun z y => by
      rw [List.set_append_right _ _ (by omega), hlen, Nat.sub_self, List.set_cons_zero]
    have hl2 : ∀ z : WriteO, i < ((d.Waits.take i).map (fun w => (⟨w.At, some w.Data⟩ : WriteO)) ++ z :: List.replicate k ⟨0, none⟩).length := fun z => by
      rw [List.length_append, hlen, List.length_cons]; omega
    have hend : (d.Waits.take i).map (fun w => (⟨w.At, some w.Data⟩ : WriteO)) ++ (⟨d.Waits[i].At, some d.Waits[i].Data⟩ : WriteO) :: List.replicate k ⟨0, none⟩ = (d.Waits.take (i + 1)).map (fun w => (⟨w.At, some w.Data⟩ : WriteO)) ++ List.replicate k ⟨0, none⟩ := by
      rw [List.take_succ_eq_append_getElem hlt, List.map_append, List.append_assoc]; rfl
    rw [run_st (s' := ((d.Waits.take (i + 1)).map (fun w => (⟨w.At, some w.Data⟩ : WriteO)) ++ List.replicate k ⟨0, none⟩, i + 1)) (by
      unfold ref09_Twin_l2
      dsimp only
      rw [List.replicate_succ, decide_eq_true (by omega), cond_true, Zk _ hlt, idx_eq (y := ⟨0, none⟩) ⟨by omega, by rw [Int.toNat_natCast]; exact hS _⟩, setI_eq (by omega) (by rw [Int.toNat_natCast]; exact hl2 _), Int.toNat_natCast, hset,
        Zk _ hlt, idx_eq (y := ⟨d.Waits[i].At, none⟩) ⟨by omega, by rw [Int.toNat_natCast]; exact hS _⟩]
      dsimp only
      rw [chkN_none, app_eq (by simp only [List.length_nil, Nat.zero_add]; exact lim_le' hb), List.nil_append, idx_eq (y := ⟨d.Waits[i].At, none⟩) ⟨by omega, by rw [Int.toNat_natCast]; exact hS _⟩, setI_eq (by omega) (by rw [Int.toNat_natCast]; exact hl2 _), Int.toNat_natCast, hset, hend])]
    exact rtwin_l2 hs k (i + 1) f (by omega) (by omega)
theorem ref_twin9 {d : Disk} (hs : SmallD d) : ref09_Twin d = some d := by
  unfold ref09_Twin
  rw [mks_eq (lim_le' hs.blocks), mks_eq (lim_le' hs.waits), Option.bind_some]
  dsimp only
  rw [show loop (ref09_Twin_l1 d) (List.replicate d.Blocks.length none, 0) = some (d.Blocks.map some) from loop_of (n := 2000002) (by decide) (rtwin_l1 hs d.Blocks.length 0 2000002 (by omega) (by have := hs.blocks; omega)), Option.bind_some,
    show loop (ref09_Twin_l2 d) (List.replicate d.Waits.length ⟨0, none⟩, 0) = _ from loop_of (n := 2000002) (by decide) (rtwin_l2 hs d.Waits.length 0 2000002 (by omega) (by have := hs.waits; omega)), Option.bind_some]
  congr 1
  cases d with
  | mk B W =>
    congr 1
    · rw [List.map_map]; exact map_same (fun _ => rfl) _
    · rw [List.map_map]; exact map_same (fun _ => rfl) _
structure SmallS (s : Store) : Prop where
  disk : SmallD s.Disk
  space : s.Space.length ≤ 2000000
theorem ref_twin {s : Store} (hs : SmallS s) : ref13_Twin s = some s := by
  unfold ref13_Twin
  rw [show (Disk.mk s.Disk.Blocks s.Disk.Waits) = s.Disk from rfl, ref_twin9 hs.disk, Option.bind_some, app_eq (by simp only [List.length_nil, Nat.zero_add]; exact lim_le' hs.space)]
  rfl
end Go.Ow

/-
  What is proved here: the document's bounds, and what it sees on a disk (charterhouseref09, 10, 12, 13, 15), in plain words.
-/
namespace Go.Ow
set_option linter.unusedVariables false
set_option linter.unusedSimpArgs false

theorem and_dec {p q : Prop} [Decidable p] [Decidable q] (k : Option Bool) (h : k = some (decide q)) : (bif decide p then k else some false) = some (decide (p ∧ q)) := by
  by_cases c : p
  · rw [decide_eq_true c, cond_true, h]; congr 1; exact decide_eq_decide.2 ⟨fun e => ⟨c, e⟩, fun e => e.2⟩
  · rw [decide_eq_false c, cond_false, decide_eq_false (fun e => c e.1)]
theorem ref_place_eq (n : Int) : ref09_place n = some (decide (0 ≤ n ∧ n < 256)) := by
  unfold ref09_place
  rw [and_dec (p := 0 ≤ n) (q := n < 256) _ rfl]; rfl
theorem may_l1 (d : Disk) : ∀ (k i f c : Nat), i + k = min d.Blocks.length 257 → k < f → c ≤ i → ∃ c' : Nat, run (ref09_May_l1 d) f ((c : Int), i) = some (c' : Int) ∧ c' ≤ 257 ∧ (c' = 0 ↔ c = 0 ∧ ∀ b ∈ (d.Blocks.drop i).take k, b.length = 256)
  | 0, i, f, c, hi, hf, hc => by
    obtain ⟨f, rfl⟩ : ∃ q, f = q + 1 := ⟨f - 1, by omega⟩
    refine ⟨c, run_en ?_, by omega, by simp⟩
    unfold ref09_May_l1
    dsimp only
    by_cases h : i < d.Blocks.length
    · rw [decide_eq_true (by omega), cond_true, decide_eq_false (by omega)]; rfl
    · rw [decide_eq_false (by omega)]; rfl
  | k + 1, i, f, c, hi, hf, hc => by
    obtain ⟨f, rfl⟩ : ∃ q, f = q + 1 := ⟨f - 1, by omega⟩
    have hlt : i < d.Blocks.length := by omega
    rw [List.drop_eq_getElem_cons hlt, List.take_succ_cons]
    by_cases h : (d.Blocks[i]).length = 256
    · obtain ⟨c', h1, h2, h3⟩ := may_l1 d k (i + 1) f c (by omega) (by omega) (by omega)
      refine ⟨c', ?_, h2, h3.trans ⟨fun e => ⟨e.1, fun b hb => ?_⟩, fun e => ⟨e.1, fun b hb => e.2 b (List.mem_cons_of_mem _ hb)⟩⟩⟩
      · rw [run_st (s' := ((c : Int), i + 1)) (by unfold ref09_May_l1; dsimp only; rw [decide_eq_true (by omega), cond_true, decide_eq_true (by omega), cond_true, Zk _ hlt, decide_eq_true (by omega)]; rfl)]; exact h1
      · rcases List.mem_cons.1 hb with rfl | hb
        · exact h
        · exact e.2 b hb
    · obtain ⟨c', h1, h2, h3⟩ := may_l1 d k (i + 1) f (c + 1) (by omega) (by omega) (by omega)
      refine ⟨c', ?_, h2, ⟨fun e => by have := (h3.1 e).1; omega, fun e => absurd (e.2 _ (List.mem_cons_self ..)) h⟩⟩
      rw [run_st (s' := (((c + 1 : Nat) : Int), i + 1)) (by unfold ref09_May_l1; dsimp only; rw [decide_eq_true (by omega), cond_true, decide_eq_true (by omega), cond_true, Zk _ hlt, decide_eq_false (by omega), YF (by omega) (by omega)]; rfl)]; exact h1
theorem okW_iff (w : Write) : okW w = true ↔ (0 ≤ w.At ∧ w.At < 256) ∧ w.Data.length = 256 := by
  unfold okW; rw [Bool.and_eq_true, decide_eq_true_eq, decide_eq_true_eq]
theorem may_l2 (d : Disk) : ∀ (k i f c : Nat), i + k = min d.Waits.length 4097 → k < f → c ≤ i + 257 → ∃ c' : Nat, run (ref09_May_l2 d) f ((c : Int), i) = some (c' : Int) ∧ (c' = 0 ↔ c = 0 ∧ ∀ w ∈ (d.Waits.drop i).take k, okW w = true)
  | 0, i, f, c, hi, hf, hc => by
    obtain ⟨f, rfl⟩ : ∃ q, f = q + 1 := ⟨f - 1, by omega⟩
    refine ⟨c, run_en ?_, by simp⟩
    unfold ref09_May_l2
    dsimp only
    by_cases h : i < d.Waits.length
    · rw [decide_eq_true (by omega), cond_true, decide_eq_false (by omega)]; rfl
    · rw [decide_eq_false (by omega)]; rfl
  | k + 1, i, f, c, hi, hf, hc => by
    obtain ⟨f, rfl⟩ : ∃ q, f = q + 1 := ⟨f - 1, by omega⟩
    have hlt : i < d.Waits.length := by omega
    rw [List.drop_eq_getElem_cons hlt, List.take_succ_cons]
    by_cases h : okW d.Waits[i] = true
    · obtain ⟨k1, k2⟩ := (okW_iff _).1 h
      obtain ⟨c', h1, h3⟩ := may_l2 d k (i + 1) f c (by omega) (by omega) (by omega)
      refine ⟨c', ?_, h3.trans ⟨fun e => ⟨e.1, fun b hb => ?_⟩, fun e => ⟨e.1, fun b hb => e.2 b (List.mem_cons_of_mem _ hb)⟩⟩⟩
      · rw [run_st (s' := ((c : Int), i + 1)) (by unfold ref09_May_l2; dsimp only; rw [decide_eq_true (by omega), cond_true, decide_eq_true (by omega), cond_true, Zk _ hlt, decide_eq_true (by omega), Bool.not_true, cond_false, Zk _ hlt, ref_place_eq, decide_eq_true k1]; rfl)]; exact h1
      · rcases List.mem_cons.1 hb with rfl | hb
        · exact h
        · exact e.2 b hb
    · obtain ⟨c', h1, h3⟩ := may_l2 d k (i + 1) f (c + 1) (by omega) (by omega) (by omega)
      refine ⟨c', ?_, ⟨fun e => by have := (h3.1 e).1; omega, fun e => absurd (e.2 _ (List.mem_cons_self ..)) h⟩⟩
      rw [run_st (s' := (((c + 1 : Nat) : Int), i + 1)) (by
        unfold ref09_May_l2; dsimp only
        rw [decide_eq_true (by omega), cond_true, decide_eq_true (by omega), cond_true, Zk _ hlt, YF (by omega) (by omega)]
        by_cases g : (d.Waits[i]).Data.length = 256
        · rw [decide_eq_true (by omega), Bool.not_true, cond_false, Zk _ hlt, ref_place_eq, decide_eq_false (fun e => h ((okW_iff _).2 ⟨e, g⟩))]; rfl
        · rw [decide_eq_false (by omega)]; rfl)]; exact h1
theorem ref_may9 (d : Disk) : ref09_May d = some (decide (OKD d)) := by
  unfold ref09_May
  obtain ⟨c, e1, hc, e2⟩ := may_l1 d (min d.Blocks.length 257) 0 300 0 (by omega) (by omega) (by omega)
  obtain ⟨c', e3, e4⟩ := may_l2 d (min d.Waits.length 4097) 0 4100 c (by omega) (by omega) (by omega)
  rw [show loop (ref09_May_l1 d) (0, 0) = some (c : Int) from loop_of (by decide) e1, Option.bind_some, show loop (ref09_May_l2 d) ((c : Int), 0) = some (c' : Int) from loop_of (by decide) e3, Option.bind_some]
  rw [List.drop_zero] at e2 e4
  by_cases h : OKD d
  · have hw : ∀ w ∈ d.Waits.take (min d.Waits.length 4097), okW w = true := fun w hw => h.2.2.2 w (List.mem_of_mem_take hw)
    have hb : ∀ b ∈ d.Blocks.take (min d.Blocks.length 257), b.length = 256 := fun b hb => h.2.2.1 b (List.mem_of_mem_take hb)
    have h0 : c' = 0 := e4.2 ⟨e2.2 ⟨rfl, hb⟩, hw⟩
    have hB := h.1
    have hW := h.2.1
    rw [decide_eq_true h, h0, decide_eq_true (show ((0 : Nat) : Int) = 0 from rfl), cond_true, decide_eq_true (by omega), cond_true, decide_eq_true (by omega)]; rfl
  · rw [decide_eq_false h]
    by_cases h0 : c' = 0
    · by_cases hB : d.Blocks.length = 256
      · by_cases hW : d.Waits.length ≤ 4096
        · exfalso
          obtain ⟨k1, k2⟩ := e4.1 h0
          obtain ⟨-, k3⟩ := e2.1 k1
          rw [List.take_of_length_le (by omega)] at k2 k3
          exact h ⟨hB, hW, k3, k2⟩
        · rw [decide_eq_true (show (c' : Int) = 0 by omega), cond_true, decide_eq_true (by omega), cond_true, decide_eq_false (by omega)]; rfl
      · rw [decide_eq_true (show (c' : Int) = 0 by omega), cond_true, decide_eq_false (by omega)]; rfl
    · rw [decide_eq_false (show ¬ (c' : Int) = 0 by omega)]; rfl
theorem may12_l1 (s : List UInt8) (hs : s.length = 256) : ∀ (k i f : Nat), i + k = 256 → k < f → ∃ o, run (ref12_May_l1 s) f i = some o ∧ ((o = .inl () ∧ ∀ j y, i ≤ j → s[j]? = some y → y ≤ 2 ∧ (j < 12 → y = 1)) ∨ (o = .inr () ∧ ¬ ∀ j y, i ≤ j → s[j]? = some y → y ≤ 2 ∧ (j < 12 → y = 1)))
  | 0, i, f, hi, hf => by
    obtain ⟨f, rfl⟩ : ∃ q, f = q + 1 := ⟨f - 1, by omega⟩
    refine ⟨.inl (), run_en (by unfold ref12_May_l1; rw [decide_eq_false (by omega)]; rfl), .inl ⟨rfl, fun j y hj hy => ?_⟩⟩
    rw [List.getElem?_eq_none (by omega)] at hy; cases hy
  | k + 1, i, f, hi, hf => by
    obtain ⟨f, rfl⟩ : ∃ q, f = q + 1 := ⟨f - 1, by omega⟩
    have hlt : i < s.length := by omega
    by_cases c1 : (2 : UInt8) < s[i]
    · refine ⟨.inr (), run_en (by unfold ref12_May_l1; rw [decide_eq_true (by omega), cond_true, Zk _ hlt, decide_eq_true c1]; rfl), .inr ⟨rfl, fun h => ?_⟩⟩
      exact UInt8.not_le.2 c1 (h i _ (Nat.le_refl _) (List.getElem?_eq_getElem hlt)).1
    · by_cases c2 : i < 12 ∧ ¬ s[i] = 1
      · refine ⟨.inr (), run_en (by unfold ref12_May_l1; rw [decide_eq_true (by omega), cond_true, Zk _ hlt, decide_eq_false c1, cond_false, decide_eq_true (by omega), cond_true, Zk _ hlt, decide_eq_false c2.2]; rfl), .inr ⟨rfl, fun h => ?_⟩⟩
        exact c2.2 ((h i _ (Nat.le_refl _) (List.getElem?_eq_getElem hlt)).2 c2.1)
      · obtain ⟨o, h1, h2⟩ := may12_l1 s hs k (i + 1) f (by omega) (by omega)
        have hst : run (ref12_May_l1 s) (f + 1) i = some o := by
          rw [run_st (s' := i + 1) (by
            unfold ref12_May_l1
            rw [decide_eq_true (by omega), cond_true, Zk _ hlt, decide_eq_false c1, cond_false]
            by_cases c3 : i < 12
            · rw [decide_eq_true (by omega), cond_true, Zk _ hlt, decide_eq_true (Classical.byContradiction fun e => c2 ⟨c3, e⟩)]; rfl
            · rw [decide_eq_false (by omega), cond_false])]; exact h1
        have hiff : (∀ j y, i ≤ j → s[j]? = some y → y ≤ 2 ∧ (j < 12 → y = 1)) ↔ (∀ j y, i + 1 ≤ j → s[j]? = some y → y ≤ 2 ∧ (j < 12 → y = 1)) := by
          refine ⟨fun h j y hj => h j y (by omega), fun h j y hj hy => ?_⟩
          rcases Nat.lt_or_ge i j with hij | hij
          · exact h j y hij hy
          · have : j = i := by omega
            subst this
            rw [List.getElem?_eq_getElem hlt] at hy
            rw [← Option.some.inj hy]
            exact ⟨UInt8.not_lt.1 c1, fun h12 => Classical.byContradiction fun e => c2 ⟨h12, e⟩⟩
        exact ⟨o, hst, h2.imp (fun e => ⟨e.1, hiff.2 e.2⟩) (fun e => ⟨e.1, fun h => e.2 (hiff.1 h)⟩)⟩
theorem okS_iff {s : List UInt8} (hs : s.length = 256) : okS s ↔ ∀ j y, 0 ≤ j → s[j]? = some y → y ≤ 2 ∧ (j < 12 → y = 1) := by
  constructor
  · rintro ⟨-, h1, h2⟩ j y _ hy
    refine ⟨h1 y (List.mem_of_getElem? hy), fun hj => h2 y (List.mem_of_getElem? (i := j) ?_)⟩
    rw [List.getElem?_take, if_pos hj]; exact hy
  · intro h
    refine ⟨hs, fun y hy => ?_, fun y hy => ?_⟩
    · obtain ⟨j, hj⟩ := List.getElem?_of_mem hy
      exact (h j y (Nat.zero_le _) hj).1
    · obtain ⟨j, hj⟩ := List.getElem?_of_mem hy
      rw [List.getElem?_take] at hj
      split at hj
      · rename_i h12; exact (h j y (Nat.zero_le _) hj).2 h12
      · cases hj
theorem ref_may12 (s : List UInt8) : ref12_May s = some (decide (okS s)) := by
  unfold ref12_May
  by_cases hs : s.length = 256
  · obtain ⟨o, h1, h2⟩ := may12_l1 s hs 256 0 300 (by omega) (by omega)
    rw [decide_eq_true (by omega), Bool.not_true, cond_false, show loop (ref12_May_l1 s) 0 = some o from loop_of (by decide) h1, Option.bind_some]
    rcases h2 with ⟨rfl, h2⟩ | ⟨rfl, h2⟩
    · rw [decide_eq_true ((okS_iff hs).2 h2)]; rfl
    · rw [decide_eq_false (fun h => h2 ((okS_iff hs).1 h))]; rfl
  · rw [decide_eq_false (by omega), decide_eq_false (fun h => hs h.1)]; rfl
theorem ref_may13 (s : Store) : ref13_May s = some (decide (OKSt s)) := by
  unfold ref13_May
  rw [show (Disk.mk s.Disk.Blocks s.Disk.Waits) = s.Disk from rfl, ref_may9, Option.bind_some, ref_may12, Option.bind_some, and_dec (p := OKD s.Disk) _ (and_dec (p := okS s.Space) _ (and_dec (p := (1 : UInt32) ≤ s.Epoch) _ (and_dec (p := s.Epoch ≤ 65535) _ rfl))), Option.bind_some]
  rfl
theorem ref_none (p : Ptr) : ref10_None p = some (decide (isNone p)) := by unfold ref10_None; rw [none_dec']
theorem ref_may10 (p : Ptr) : ref10_May p = some (decide (okP p)) := by
  unfold ref10_May
  rw [ref_none, Option.bind_some]
  have h : (bif decide (12 ≤ p.At) then bif decide (p.At < 256) then bif decide ((1 : UInt32) ≤ p.Birth) then some (decide (p.Birth ≤ (16777215 : UInt32))) else some false else some false else some false) = some (decide (okR p)) :=
    and_dec (p := 12 ≤ p.At) _ (and_dec (p := p.At < 256) _ (and_dec (p := (1 : UInt32) ≤ p.Birth) _ rfl))
  rw [h]
  by_cases c : isNone p
  · rw [decide_eq_true c, decide_eq_true (show okP p from .inl c)]; rfl
  · rw [decide_eq_false c]
    show some _ = _
    congr 1
    exact decide_eq_decide.2 ⟨.inr, fun e => e.resolve_left c⟩
theorem ref_may15 (s : Store) (p : Ptr) : ref15_may s p = some (decide (OKSt s ∧ okP p)) := by
  unfold ref15_may
  rw [ref_may13, Option.bind_some, ref_may10, Option.bind_some, and_dec (p := OKSt s) _ rfl]; rfl
end Go.Ow

/-
  What is proved here: what the document sees at a pointer, and how it reads pointers (charterhouseref09, 10, 13, 15), in plain words.
-/
namespace Go.Ow
set_option linter.unusedVariables false
set_option linter.unusedSimpArgs false

theorem layW_snoc (B : List (List UInt8)) (ws : List Write) (w : Write) : layW B (ws ++ [w]) = (layW B ws).set w.At.toNat w.Data := by
  unfold layW; rw [List.foldl_append]; rfl
theorem last_run (d : Disk) (hd : OKD d) (p : Nat) (hp : p < 256) : ∀ (k f : Nat), k ≤ d.Waits.length → k < f → ∃ r, run (ref09_last_l1 d [] (p : Int)) f ((k : Int) - 1) = some r ∧
    ((r < 0 ∧ (layW d.Blocks (d.Waits.take k)).getD p [] = d.Blocks.getD p []) ∨ ∃ j : Nat, ∃ hj : j < d.Waits.length, r = (j : Int) ∧ (layW d.Blocks (d.Waits.take k)).getD p [] = d.Waits[j].Data)
  | 0, f, hk, hf => by
    obtain ⟨f, rfl⟩ : ∃ q, f = q + 1 := ⟨f - 1, by omega⟩
    refine ⟨-1, run_en ?_, .inl ⟨by omega, rfl⟩⟩
    unfold ref09_last_l1
    rw [decide_eq_false (by omega)]; rfl
  | k + 1, f, hk, hf => by
    obtain ⟨f, rfl⟩ : ∃ q, f = q + 1 := ⟨f - 1, by omega⟩
    have hlt : k < d.Waits.length := by omega
    have hw := (okW_iff _).1 (hd.2.2.2 _ (List.getElem_mem hlt))
    have hL := hd.2.1
    have e1 : ((k + 1 : Nat) : Int) - 1 = (k : Int) := by omega
    rw [e1, List.take_succ_eq_append_getElem hlt, layW_snoc]
    by_cases c : (d.Waits[k]).At = (p : Int)
    · refine ⟨(k : Int), run_en ?_, .inr ⟨k, hlt, rfl, ?_⟩⟩
      · unfold ref09_last_l1
        rw [decide_eq_true (by omega), cond_true, Zk _ hlt, decide_eq_true c, cond_true]; rfl
      · rw [c, Int.toNat_natCast, getD_set (by rw [layW_length, hd.1]; omega), if_pos rfl]
    · obtain ⟨r, h1, h2⟩ := last_run d hd p hp k f (by omega) (by omega)
      refine ⟨r, ?_, ?_⟩
      · rw [run_st (s' := (k : Int) - 1) (by
          unfold ref09_last_l1
          rw [decide_eq_true (by omega), cond_true, Zk _ hlt, decide_eq_false c, cond_false, Option.bind_some, Sum.elim_inl, YF (by omega) (by omega)])]; exact h1
      · rw [getD_set (by rw [layW_length, hd.1]; have := hw.1; omega), if_neg (fun e => c (by rw [e, Int.toNat_of_nonneg hw.1.1]))]; exact h2
theorem app_nil {β : Type} {m : List UInt8} {k : List UInt8 → Option β} (h : m.length ≤ 2000000) : app [] m k = k m := by
  rw [app_eq (by simp only [List.length_nil, Nat.zero_add]; exact lim_le' h), List.nil_append]
theorem ref_seen9 {d : Disk} (hd : OKD d) (p : Nat) (hp : p < 256) : ref09_Seen d (p : Int) = some ((seenB d).getD p []) := by
  obtain ⟨r, h1, h2⟩ := last_run d hd p hp d.Waits.length 4100 (Nat.le_refl _) (by have := hd.2.1; omega)
  have hL := hd.2.1
  rw [List.take_of_length_le (Nat.le_refl _)] at h2
  unfold ref09_Seen ref09_left ref09_last
  rw [YF (by omega) (by omega), show loop (ref09_last_l1 d [] (p : Int)) ((d.Waits.length : Int) - 1) = some r from loop_of (by decide) h1, Option.bind_some, Option.bind_some]
  rcases h2 with ⟨hr, h2⟩ | ⟨j, hj, rfl, h2⟩
  · have hB : p < d.Blocks.length := by rw [hd.1]; exact hp
    have hb := hd.2.2.1 _ (List.getElem_mem hB)
    rw [decide_eq_true hr, cond_true, Zk _ hB, app_nil (by omega), Option.bind_some]
    unfold seenB
    rw [h2, List.getD_eq_getElem?_getD, List.getElem?_eq_getElem hB]; rfl
  · have hb := ((okW_iff _).1 (hd.2.2.2 _ (List.getElem_mem hj))).2
    rw [decide_eq_false (by omega), cond_false, Zk _ hj, app_nil (by omega), Option.bind_some]
    unfold seenB
    rw [h2]
theorem ref_seen13 {s : Store} {p : Ptr} (h : OKSt s) (hp : okP p) : ref13_Seen s p = some (lookS s p) := by
  unfold ref13_Seen lookS
  rw [if_pos ⟨h, hp⟩, ref_none, Option.bind_some]
  by_cases c : isNone p
  · rw [decide_eq_true c, if_pos c]; rfl
  · have hr := hp.resolve_left c
    obtain ⟨n, hn⟩ := Int.eq_ofNat_of_zero_le (show 0 ≤ p.At by have := hr.1; omega)
    have hn2 : n < 256 := by have := hr.2.1; omega
    have hl := seen_mem h.1 hn2
    rw [decide_eq_false c, if_neg c, cond_false, show (Disk.mk s.Disk.Blocks s.Disk.Waits) = s.Disk from rfl, hn, ref_seen9 h.1 n hn2, Option.bind_some, ref_sum_eq (by omega), Option.bind_some, Int.toNat_natCast]
    by_cases e : sumOf ((seenB s.Disk).getD n []) = p.Sum
    · rw [if_pos e, nbeq e, cond_false, app_nil (by omega)]
    · rw [if_neg e, nbne e, cond_true]
theorem get_run (b : List UInt8) (hb : b.length ≤ 100) : ∀ (k f : Nat), k ≤ b.length → k < f → run (ref10_Get_l1 b) f (UInt32.ofNat (numB (b.drop k)), (k : Int) - 1) = some (UInt32.ofNat (numB b))
  | 0, f, hk, hf => by
    obtain ⟨f, rfl⟩ : ∃ q, f = q + 1 := ⟨f - 1, by omega⟩
    refine run_en ?_
    unfold ref10_Get_l1
    dsimp only
    rw [decide_eq_false (by omega)]; rfl
  | k + 1, f, hk, hf => by
    obtain ⟨f, rfl⟩ : ∃ q, f = q + 1 := ⟨f - 1, by omega⟩
    have hlt : k < b.length := by omega
    have e : (256 : UInt32) * UInt32.ofNat (numB (b.drop (k + 1))) + (b[k]).toUInt32 = UInt32.ofNat (numB (b.drop k)) := by
      rw [List.drop_eq_getElem_cons hlt]
      apply UInt32.toNat_inj.1
      have := (b[k]).toNat_lt
      simp only [UInt32.toNat_add, UInt32.toNat_mul, UInt8.toNat_toUInt32, UInt32.toNat_ofNat', numB, show (256 : UInt32).toNat = 256 from rfl]
      omega
    rw [run_st (s' := (UInt32.ofNat (numB (b.drop k)), (k : Int) - 1)) (by
      unfold ref10_Get_l1
      dsimp only
      rw [show ((k + 1 : Nat) : Int) - 1 = (k : Int) by omega, decide_eq_true (by omega), cond_true, Zk _ hlt, e, YF (by omega) (by omega)])]
    exact get_run b hb k f (by omega) (by omega)
theorem ref_get {b : List UInt8} (hb : b.length ≤ 100) : ref10_Get b = some (UInt32.ofNat (numB b)) := by
  unfold ref10_Get
  have := get_run b hb b.length 102 (Nat.le_refl _) (by omega)
  rw [List.drop_eq_nil_of_le (Nat.le_refl _)] at this
  rw [YF (by omega) (by omega), show loop (ref10_Get_l1 b) ((0 : UInt32), (b.length : Int) - 1) = _ from loop_of (by decide) this, Option.bind_some]
theorem cut_nat (b : List UInt8) (i j : Nat) : cut b (i : Int) (j : Int) = (b.drop i).take (j - i) := by
  unfold cut; rw [Int.toNat_natCast, Int.toNat_natCast]
theorem ref_read10 {b : List UInt8} (h : b.length = 16) : ref10_Read b = some (if okP (at5 b) then (at5 b, 0) else (noP, 8)) := by
  unfold ref10_Read
  have h0 : 0 < b.length := by omega
  have e0 : numB ((b.drop 0).take 1) = (b[0]).toNat := by
    rw [List.drop_eq_getElem_cons h0]; rfl
  rw [decide_eq_true (by omega), Bool.not_true, cond_false, show (0 : Int) = ((0 : Nat) : Int) from rfl, Zk _ h0, slc_eq (by omega) (by omega) (by omega), slc_eq (by omega) (by omega) (by omega), slc_eq (by omega) (by omega) (by omega), slc_eq (by omega) (by omega) (by omega),
    show cut b 1 4 = (b.drop 1).take 3 from cut_nat b 1 4, show cut b 4 8 = (b.drop 4).take 4 from cut_nat b 4 8, show cut b 8 12 = (b.drop 8).take 4 from cut_nat b 8 12, show cut b 12 16 = (b.drop 12).take 4 from cut_nat b 12 16,
    ref_get (by rw [List.length_take]; omega), Option.bind_some, ref_get (by rw [List.length_take]; omega), Option.bind_some, ref_get (by rw [List.length_take]; omega), Option.bind_some, ref_get (by rw [List.length_take]; omega), Option.bind_some]
  have e : (⟨((b[0]).toNat : Int), UInt32.ofNat (numB ((b.drop 1).take 3)), UInt32.ofNat (numB ((b.drop 4).take 4)), UInt32.ofNat (numB ((b.drop 8).take 4)), UInt32.ofNat (numB ((b.drop 12).take 4))⟩ : Ptr) = at5 b := by
    unfold at5; rw [e0, u32i_nat', u32i_nat', u32i_nat', u32i_nat']
  rw [e, ref_may10, Option.bind_some]
  by_cases c : okP (at5 b)
  · rw [decide_eq_true c, if_pos c]; rfl
  · rw [decide_eq_false c, if_neg c]; rfl
/-- the n pointers that lie from here on -/
def rowOf (b : List UInt8) (i n : Nat) : List Ptr := (List.range n).map fun k => at5 ((b.drop (16 * (i + k))).take 16)
theorem rowOf_succ (b : List UInt8) (i n : Nat) : rowOf b i (n + 1) = at5 ((b.drop (16 * i)).take 16) :: rowOf b (i + 1) n := by
  unfold rowOf
  rw [List.range_succ_eq_map, List.map_cons, List.map_map]
  congr 1
  refine List.map_congr_left fun k _ => ?_
  show at5 ((b.drop (16 * (i + (k + 1)))).take 16) = _
  rw [show i + (k + 1) = i + 1 + k by omega]
theorem chunks_row_of (b : List UInt8) : ∀ (n i f : Nat), (b.drop (16 * i)).length = 16 * n → 16 * n ≤ f → (chunks 16 f (b.drop (16 * i))).map at5 = rowOf b i n
  | 0, i, f, h, hf => by
    rw [List.length_eq_zero_iff.1 (show (b.drop (16 * i)).length = 0 by omega), chunks_nil]; rfl
  | n + 1, i, f, h, hf => by
    obtain ⟨f, rfl⟩ : ∃ q, f = q + 1 := ⟨f - 1, by omega⟩
    have hne : b.drop (16 * i) ≠ [] := fun e => by rw [e] at h; simp at h
    rw [chunks_step hne, List.map_cons, rowOf_succ, List.drop_drop, show 16 * i + 16 = 16 * (i + 1) by omega, chunks_row_of b n (i + 1) f (by rw [List.length_drop] at h ⊢; omega) (by omega)]
theorem ptrsOf_row_of {b : List UInt8} (h : b.length = 256) : ptrsOf b = rowOf b 0 16 := by
  have := chunks_row_of b 16 0 b.length (by simp; omega) (by omega)
  rw [show 16 * 0 = 0 from rfl, List.drop_zero] at this
  exact this
theorem rows_run {b : List UInt8} (h : b.length = 256) : ∀ (k i f : Nat) (r : List Ptr), i + k = 16 → k < f → r.length + k ≤ 1000 → run (ref10_Rows_l1 b) f (r, i) = some (if ∀ p ∈ rowOf b i k, okP p then .inl (r ++ rowOf b i k) else .inr 8)
  | 0, i, f, r, hi, hf, hr => by
    obtain ⟨f, rfl⟩ : ∃ q, f = q + 1 := ⟨f - 1, by omega⟩
    refine run_en ?_
    unfold ref10_Rows_l1
    dsimp only
    rw [decide_eq_false (by omega), cond_false]
    simp [rowOf]
  | k + 1, i, f, r, hi, hf, hr => by
    obtain ⟨f, rfl⟩ : ∃ q, f = q + 1 := ⟨f - 1, by omega⟩
    have hc : cut b ((16 * i : Nat) : Int) ((16 * i + 16 : Nat) : Int) = (b.drop (16 * i)).take 16 := by rw [cut_nat]; congr 1; omega
    have hst : ref10_Rows_l1 b (r, i) = (if okP (at5 ((b.drop (16 * i)).take 16)) then some (.inl (r ++ [at5 ((b.drop (16 * i)).take 16)], i + 1)) else some (.inr (.inr 8))) := by
      unfold ref10_Rows_l1
      dsimp only
      rw [decide_eq_true (by omega), cond_true, YF (n := 16 * (i : Int)) (by omega) (by omega), YF (by omega) (by omega), show 16 * (i : Int) = ((16 * i : Nat) : Int) by omega, show ((16 * i : Nat) : Int) + 16 = ((16 * i + 16 : Nat) : Int) by omega, slc_eq (by omega) (by omega) (by omega), hc, ref_read10 (by rw [List.length_take, List.length_drop]; omega), Option.bind_some]
      by_cases c : okP (at5 ((b.drop (16 * i)).take 16))
      · rw [if_pos c, if_pos c, zdec, cond_false, app_eq (lim_le (by simp; omega))]
      · rw [if_neg c, if_neg c]; rfl
    rw [rowOf_succ]
    by_cases c : okP (at5 ((b.drop (16 * i)).take 16))
    · rw [run_st (by rw [hst, if_pos c]), rows_run h k (i + 1) f _ (by omega) (by omega) (by simp; omega)]
      by_cases c2 : ∀ p ∈ rowOf b (i + 1) k, okP p
      · rw [if_pos c2, if_pos (fun p hp => by rcases List.mem_cons.1 hp with rfl | hp; exact c; exact c2 p hp), List.append_assoc]; rfl
      · rw [if_neg c2, if_neg (fun e => c2 fun p hp => e p (List.mem_cons_of_mem _ hp))]
    · rw [run_en (by rw [hst, if_neg c]), if_neg (fun e => c (e _ (List.mem_cons_self ..)))]
theorem ref_rows10 {b : List UInt8} (h : b.length = 256) : ref10_Rows b = some (rowsB b) := by
  unfold ref10_Rows rowsB
  have := rows_run h 16 0 20 [] (by omega) (by omega) (by simp)
  rw [decide_eq_true (by omega), Bool.not_true, cond_false, show loop (ref10_Rows_l1 b) (([] : List Ptr), 0) = _ from loop_of (by decide) this, Option.bind_some, ptrsOf_row_of h]
  by_cases c : ∀ p ∈ rowOf b 0 16, okP p
  · rw [if_pos c, if_pos c]; rfl
  · rw [if_neg c, if_neg c]; rfl
theorem ref_row15 {s : Store} {p : Ptr} (h : OKSt s) (hp : okP p) : ref15_Row s p = some (ptrsS s p) := by
  unfold ref15_Row ptrsS
  rw [if_pos ⟨h, hp⟩, ref_none, Option.bind_some]
  by_cases c : isNone p
  · rw [decide_eq_true c, if_pos c, cond_true, show (16 : Int) = ((16 : Nat) : Int) from rfl, mks_eq (by decide)]; rfl
  · rw [decide_eq_false c, if_neg c, cond_false, ref_seen13 h hp, Option.bind_some]
    by_cases e : (lookS s p).2 = 0
    · rw [if_pos e, e, zdec, cond_false, ref_rows10 (look_len e), Option.bind_some]
      by_cases e2 : (rowsB (lookS s p).1).2 = 0
      · rw [e2, zdec, cond_false]; exact congrArg some (Prod.ext rfl e2.symm)
      · rw [ndec e2, cond_true, rowsB_err e2]
    · rw [if_neg e, ndec e, cond_true]
theorem ref_ptrs15 (s : Store) (p : Ptr) : ref15_Ptrs s p = some (ptrsS s p) := by
  unfold ref15_Ptrs
  rw [ref_may15, Option.bind_some]
  by_cases c : OKSt s ∧ okP p
  · rw [decide_eq_true c, Bool.not_true, cond_false, ref_row15 c.1 c.2, Option.bind_some]
  · rw [decide_eq_false c]
    unfold ptrsS; rw [if_neg c]; rfl
end Go.Ow

/-
  What is proved here: how the document reads objects (charterhouseref10, 14, 15), in plain words.
-/
namespace Go.Ow
set_option linter.unusedVariables false
set_option linter.unusedSimpArgs false

theorem may14_l1 (o : Object) (ho : o.Data.length = 15) : ∀ (k i f : Nat), i + k = 15 → k < f → ∃ r, run (ref14_May_l1 o) f i = some r ∧ ((r = .inl () ∧ ∀ p ∈ o.Data.drop i, okP p) ∨ (r = .inr () ∧ ¬ ∀ p ∈ o.Data.drop i, okP p))
  | 0, i, f, hi, hf => by
    obtain ⟨f, rfl⟩ : ∃ q, f = q + 1 := ⟨f - 1, by omega⟩
    refine ⟨.inl (), run_en (by unfold ref14_May_l1; rw [decide_eq_false (by omega)]; rfl), .inl ⟨rfl, fun p hp => ?_⟩⟩
    rw [List.drop_eq_nil_of_le (by omega)] at hp; cases hp
  | k + 1, i, f, hi, hf => by
    obtain ⟨f, rfl⟩ : ∃ q, f = q + 1 := ⟨f - 1, by omega⟩
    have hlt : i < o.Data.length := by omega
    rw [List.drop_eq_getElem_cons hlt]
    by_cases c : okP (o.Data[i])
    · obtain ⟨r, h1, h2⟩ := may14_l1 o ho k (i + 1) f (by omega) (by omega)
      refine ⟨r, ?_, h2.imp (fun e => ⟨e.1, fun p hp => ?_⟩) (fun e => ⟨e.1, fun h => e.2 fun p hp => h p (List.mem_cons_of_mem _ hp)⟩)⟩
      · rw [run_st (s' := i + 1) (by unfold ref14_May_l1; rw [decide_eq_true (by omega), cond_true, Zk _ hlt, ref_may10, Option.bind_some, decide_eq_true c]; rfl)]; exact h1
      · rcases List.mem_cons.1 hp with rfl | hp
        · exact c
        · exact e.2 p hp
    · refine ⟨.inr (), run_en (by unfold ref14_May_l1; rw [decide_eq_true (by omega), cond_true, Zk _ hlt, ref_may10, Option.bind_some, decide_eq_false c]; rfl), .inr ⟨rfl, fun h => c (h _ (List.mem_cons_self ..))⟩⟩
theorem ref_may14 (o : Object) : ref14_May o = some (decide (okO o)) := by
  unfold ref14_May
  have e1 : (1 : UInt8).toNat = 1 := rfl
  have e7 : (7 : UInt8).toNat = 7 := rfl
  by_cases k1 : o.Kind < 1
  · rw [decide_eq_true k1, cond_true, decide_eq_false (fun h => by have := h.1.1; rw [UInt8.lt_iff_toNat_lt, e1] at k1; omega)]
  rw [decide_eq_false k1, cond_false]
  by_cases k2 : 7 < o.Kind
  · rw [decide_eq_true k2, cond_true, decide_eq_false (fun h => by have := h.1.2; rw [UInt8.lt_iff_toNat_lt, e7] at k2; omega)]
  rw [decide_eq_false k2, cond_false]
  by_cases k3 : o.Links < 0
  · rw [decide_eq_true k3, cond_true, decide_eq_false (fun h => by have := h.2.1.1; omega)]
  rw [decide_eq_false k3, cond_false]
  by_cases k4 : 255 < o.Links
  · rw [decide_eq_true k4, cond_true, decide_eq_false (fun h => by have := h.2.1.2; omega)]
  rw [decide_eq_false k4, cond_false]
  by_cases k5 : o.Size < 0
  · rw [decide_eq_true k5, cond_true, decide_eq_false (fun h => by have := h.2.2.1.1; omega)]
  rw [decide_eq_false k5, cond_false]
  by_cases k6 : 3840 < o.Size
  · rw [decide_eq_true k6, cond_true, decide_eq_false (fun h => by have := h.2.2.1.2; omega)]
  rw [decide_eq_false k6, cond_false]
  by_cases k7 : o.Data.length = 15
  · rw [decide_eq_true (by omega), Bool.not_true, cond_false]
    obtain ⟨r, h1, h2⟩ := may14_l1 o k7 15 0 20 (by omega) (by omega)
    rw [show loop (ref14_May_l1 o) 0 = some r from loop_of (by decide) h1, Option.bind_some]
    rw [List.drop_zero] at h2
    rw [UInt8.lt_iff_toNat_lt, e1] at k1
    rw [UInt8.lt_iff_toNat_lt, e7] at k2
    rcases h2 with ⟨rfl, h2⟩ | ⟨rfl, h2⟩
    · rw [decide_eq_true (show okO o from ⟨⟨by omega, by omega⟩, ⟨by omega, by omega⟩, ⟨by omega, by omega⟩, k7, h2⟩)]; rfl
    · rw [decide_eq_false (fun h : okO o => h2 h.2.2.2.2)]; rfl
  · rw [decide_eq_false (by omega), Bool.not_false, cond_true, decide_eq_false (fun h => k7 h.2.2.2.1)]
theorem numb_run {m : Nat} (hm : m ≤ 4) : ∀ (k i f : Nat) (n : UInt32) (r : List UInt8), i + k = m → k < f → r.length + k ≤ 1000 → run (ref10_Number_l1 (m : Int)) f (n, r, (i : Int)) = some (r ++ leB n.toNat k)
  | 0, i, f, n, r, hi, hf, hr => by
    obtain ⟨f, rfl⟩ : ∃ q, f = q + 1 := ⟨f - 1, by omega⟩
    refine run_en ?_
    unfold ref10_Number_l1
    dsimp only
    rw [decide_eq_false (by omega), cond_false, leB, List.append_nil]
  | k + 1, i, f, n, r, hi, hf, hr => by
    obtain ⟨f, rfl⟩ : ∃ q, f = q + 1 := ⟨f - 1, by omega⟩
    rw [run_st (s' := (n / 256, r ++ [(n % 256).toUInt8], ((i + 1 : Nat) : Int))) (by
      unfold ref10_Number_l1
      dsimp only
      rw [decide_eq_true (by omega), cond_true, app_eq (lim_le (by simp; omega)), YF (by omega) (by omega)]; rfl)]
    have hd : (n / 256).toNat = n.toNat / 256 := by rw [UInt32.toNat_div]; rfl
    have hb : (n % 256).toUInt8 = UInt8.ofNat n.toNat := by
      apply UInt8.toNat_inj.1
      rw [UInt32.toNat_toUInt8, UInt32.toNat_mod, UInt8.toNat_ofNat', show (256 : UInt32).toNat = 256 from rfl]; omega
    rw [numb_run hm k (i + 1) f (n / 256) _ (by omega) (by omega) (by simp; omega), hd, hb, leB, List.append_assoc]; rfl
theorem ref_number (n : UInt32) {m : Nat} (hm : m ≤ 4) : ref10_Number n (m : Int) = some (leB n.toNat m) := by
  unfold ref10_Number
  have := numb_run hm m 0 10 n [] (by omega) (by omega) (by simp; omega)
  rw [show loop (ref10_Number_l1 (m : Int)) (n, ([] : List UInt8), 0) = _ from loop_of (by decide) this, Option.bind_some, List.nil_append]
theorem ref_bytes {p : Ptr} (h : okP p) : ref10_Bytes p = some (ptrB p) := by
  unfold ref10_Bytes
  have hat : [u8i p.At] = leB p.At.toNat 1 := by
    obtain ⟨n, hn⟩ := Int.eq_ofNat_of_zero_le (show 0 ≤ p.At by rcases h with h | h; exact Int.le_of_eq h.1.symm; have := h.1; omega)
    rw [hn, u8i_nat, Int.toNat_natCast]; rfl
  have l1 := leB_length p.At.toNat 1
  have l2 := leB_length p.Birth.toNat 3
  have l3 := leB_length p.Iv.toNat 4
  have l4 := leB_length p.Tag.toNat 4
  have l5 := leB_length p.Sum.toNat 4
  rw [show (3 : Int) = ((3 : Nat) : Int) from rfl, show (4 : Int) = ((4 : Nat) : Int) from rfl, ref_number _ (by omega), Option.bind_some, hat, app_eq (lim_le (by omega)), Option.bind_some, ref_number _ (by omega), Option.bind_some, app_eq (lim_le (by rw [List.length_append]; omega)), ref_number _ (by omega), Option.bind_some,
    app_eq (lim_le (by simp only [List.length_append]; omega)), ref_number _ (by omega), Option.bind_some, app_eq (lim_le (by simp only [List.length_append]; omega))]
  rfl
theorem leB_numB : ∀ m : List UInt8, leB (numB m) m.length = m
  | [] => rfl
  | b :: m => by
    have hb := b.toNat_lt
    show UInt8.ofNat (b.toNat + 256 * numB m) :: leB ((b.toNat + 256 * numB m) / 256) m.length = _
    rw [show (b.toNat + 256 * numB m) / 256 = numB m by omega, leB_numB m]
    congr 1
    apply UInt8.toNat_inj.1
    rw [UInt8.toNat_ofNat']; omega
theorem u32i_toNat {n : Nat} (h : n < 4294967296) : (u32i (n : Int)).toNat = n := by
  rw [u32i_nat', UInt32.toNat_ofNat']; omega
theorem numB_take (m : List UInt8) (k : Nat) : numB (m.take k) < 256 ^ k := Nat.lt_of_lt_of_le (numB_lt _) (Nat.pow_le_pow_right (by omega) (by rw [List.length_take]; omega))
theorem ptrB_at5 {b : List UInt8} (h : b.length = 16) : ptrB (at5 b) = b := by
  have g : ∀ i k : Nat, i + k ≤ 16 → leB (numB ((b.drop i).take k)) k = (b.drop i).take k := fun i k hk => by
    have := leB_numB ((b.drop i).take k)
    rwa [show ((b.drop i).take k).length = k by rw [List.length_take, List.length_drop]; omega] at this
  have p1 := numB_take (b.drop 1) 3
  have p2 := numB_take (b.drop 4) 4
  have p3 := numB_take (b.drop 8) 4
  have p4 := numB_take (b.drop 12) 4
  simp only [Nat.reducePow] at p1 p2 p3 p4
  unfold ptrB at5
  dsimp only
  rw [Int.toNat_natCast, u32i_toNat (by omega), u32i_toNat (by omega), u32i_toNat (by omega), u32i_toNat (by omega), g 0 1 (by omega), g 1 3 (by omega), g 4 4 (by omega), g 8 4 (by omega), g 12 4 (by omega)]
  have c : ∀ i k j : Nat, i + k = j → (b.drop i).take k ++ b.drop j = b.drop i := fun i k j e => by
    subst e; rw [← List.drop_drop, List.take_append_drop]
  have e16 : (b.drop 12).take 4 = b.drop 12 := List.take_of_length_le (by rw [List.length_drop]; omega)
  rw [e16, List.append_assoc, List.append_assoc, List.append_assoc, c 8 4 12 rfl, c 4 4 8 rfl, c 1 3 4 rfl, c 0 1 1 rfl, List.drop_zero]
theorem block_run (o : Object) (ho : o.Data.length = 15) (hp : ∀ p ∈ o.Data, okP p) : ∀ (k i f : Nat) (r : List UInt8), i + k = 15 → k < f → r.length + 16 * k ≤ 1000 → run (ref14_Block_l1 o) f (r, i) = some (r ++ ((o.Data.drop i).map ptrB).flatten)
  | 0, i, f, r, hi, hf, hr => by
    obtain ⟨f, rfl⟩ : ∃ q, f = q + 1 := ⟨f - 1, by omega⟩
    refine run_en ?_
    unfold ref14_Block_l1
    dsimp only
    rw [decide_eq_false (by omega), cond_false, List.drop_eq_nil_of_le (by omega)]; simp
  | k + 1, i, f, r, hi, hf, hr => by
    obtain ⟨f, rfl⟩ : ∃ q, f = q + 1 := ⟨f - 1, by omega⟩
    have hlt : i < o.Data.length := by omega
    have hl := ptrB_length (o.Data[i])
    rw [run_st (s' := (r ++ ptrB (o.Data[i]), i + 1)) (by
      unfold ref14_Block_l1
      dsimp only
      rw [decide_eq_true (by omega), cond_true, Zk _ hlt, ref_bytes (hp _ (List.getElem_mem hlt)), Option.bind_some, app_eq (lim_le (by omega))]),
      block_run o ho hp k (i + 1) f _ (by omega) (by omega) (by rw [List.length_append]; omega), List.drop_eq_getElem_cons hlt, List.map_cons, List.flatten_cons, List.append_assoc]
def blockO (o : Object) : List UInt8 := ([o.Kind, u8i o.Links, u8i (o.Size.tmod 256), u8i (w64 (o.Size.tdiv 256))] ++ List.replicate 12 0) ++ (o.Data.map ptrB).flatten
theorem ref_block {o : Object} (h : okO o) : ref14_Block o = some (blockO o) := by
  unfold ref14_Block
  rw [show (12 : Int) = ((12 : Nat) : Int) from rfl, mks_eq (by decide), app_eq (lim_le (by simp))]
  have := block_run o h.2.2.2.1 h.2.2.2.2 15 0 20 ([o.Kind, u8i o.Links, u8i (o.Size.tmod 256), u8i (w64 (o.Size.tdiv 256))] ++ List.replicate 12 0) (by omega) (by omega) (by simp)
  rw [List.drop_zero] at this
  rw [show loop (ref14_Block_l1 o) ([o.Kind, u8i o.Links, u8i (o.Size.tmod 256), u8i (w64 (o.Size.tdiv 256))] ++ List.replicate 12 0, 0) = _ from loop_of (by decide) this, Option.bind_some]
  rfl
theorem read14_run {b : List UInt8} (h : b.length = 256) : ∀ (k i f : Nat) (r : List Ptr), i + k = 15 → k < f → r.length + k ≤ 1000 → run (ref14_Read_l1 b) f (r, i) = some (if (∀ p ∈ rowOf b (i + 1) k, okP p) then Sum.inl (r ++ rowOf b (i + 1) k) else Sum.inr ())
  | 0, i, f, r, hi, hf, hr => by
    obtain ⟨f, rfl⟩ : ∃ q, f = q + 1 := ⟨f - 1, by omega⟩
    refine run_en ?_
    unfold ref14_Read_l1
    dsimp only
    rw [decide_eq_false (by omega), cond_false]
    simp [rowOf]
  | k + 1, i, f, r, hi, hf, hr => by
    obtain ⟨f, rfl⟩ : ∃ q, f = q + 1 := ⟨f - 1, by omega⟩
    have hc : cut b ((16 * (i + 1) : Nat) : Int) ((16 * (i + 1) + 16 : Nat) : Int) = (b.drop (16 * (i + 1))).take 16 := by rw [cut_nat]; congr 1; omega
    have hst : ref14_Read_l1 b (r, i) = (if okP (at5 ((b.drop (16 * (i + 1))).take 16)) then some (.inl (r ++ [at5 ((b.drop (16 * (i + 1))).take 16)], i + 1)) else some (.inr (.inr ()))) := by
      unfold ref14_Read_l1
      dsimp only
      rw [decide_eq_true (by omega), cond_true, YF (n := 16 * (i : Int)) (by omega) (by omega), YF (by omega) (by omega), YF (by omega) (by omega), show 16 + 16 * (i : Int) = ((16 * (i + 1) : Nat) : Int) by omega, show 32 + 16 * (i : Int) = ((16 * (i + 1) + 16 : Nat) : Int) by omega, slc_eq (by omega) (by omega) (by omega), hc, ref_read10 (by rw [List.length_take, List.length_drop]; omega), Option.bind_some]
      by_cases c : okP (at5 ((b.drop (16 * (i + 1))).take 16))
      · rw [if_pos c, if_pos c, zdec, cond_false, app_eq (lim_le (by simp; omega))]
      · rw [if_neg c, if_neg c]; rfl
    rw [rowOf_succ]
    by_cases c : okP (at5 ((b.drop (16 * (i + 1))).take 16))
    · rw [run_st (by rw [hst, if_pos c]), read14_run h k (i + 1) f _ (by omega) (by omega) (by simp; omega)]
      by_cases c2 : ∀ p ∈ rowOf b (i + 1 + 1) k, okP p
      · rw [if_pos c2, if_pos (fun p hp => by rcases List.mem_cons.1 hp with rfl | hp; exact c; exact c2 p hp), List.append_assoc]; rfl
      · rw [if_neg c2, if_neg (fun e => c2 fun p hp => e p (List.mem_cons_of_mem _ hp))]
    · rw [run_en (by rw [hst, if_neg c]), if_neg (fun e => c (e _ (List.mem_cons_self ..)))]
end Go.Ow

/-
  What is proved here: what the document tells of a root (charterhouseref14, 15); the law SetTells, in plain words.
-/
namespace Go.Ow
set_option linter.unusedVariables false
set_option linter.unusedSimpArgs false

theorem rowOf_flat {b : List UInt8} : ∀ (n i : Nat), (b.drop (16 * i)).length = 16 * n → ((rowOf b i n).map ptrB).flatten = b.drop (16 * i)
  | 0, i, h => by rw [List.length_eq_zero_iff.1 (show (b.drop (16 * i)).length = 0 by omega)]; rfl
  | n + 1, i, h => by
    have hl := h
    rw [List.length_drop] at hl
    rw [rowOf_succ, List.map_cons, List.flatten_cons, ptrB_at5 (by rw [List.length_take, h]; omega), rowOf_flat n (i + 1) (by rw [List.length_drop]; omega), show 16 * (i + 1) = 16 * i + 16 by omega, ← List.drop_drop, List.take_append_drop]
theorem ptrsOf_data {b : List UInt8} (h : b.length = 256) : ptrsOf (b.drop 16 ++ List.replicate 16 0) = rowOf b 1 15 ++ [noP] := by
  rw [ptrsOf_row_of (by simp [h])]
  unfold rowOf
  rw [show (16 : Nat) = 15 + 1 from rfl, List.range_succ, List.map_append]
  congr 1
  · refine List.map_congr_left fun k hk => ?_
    have hk := List.mem_range.1 hk
    congr 1
    rw [List.drop_append_of_le_length (by rw [List.length_drop]; omega), List.take_append_of_le_length (by rw [List.length_drop, List.length_drop]; omega), List.drop_drop, show 15 + 1 + (15 + 1) * (0 + k) = 16 * (1 + k) by omega]
  · have e : (b.drop 16 ++ List.replicate 16 (0 : UInt8)).drop (16 * (0 + 15)) = List.replicate 16 0 := drop_app _ _ (by rw [List.length_drop]; omega)
    show [at5 (((b.drop 16 ++ List.replicate 16 (0 : UInt8)).drop (16 * (0 + 15))).take 16)] = [noP]
    rw [e, List.take_of_length_le (by simp), ← ptrB_no, at5_no]
theorem rowOf_length (b : List UInt8) (i n : Nat) : (rowOf b i n).length = n := by unfold rowOf; rw [List.length_map, List.length_range]
theorem objOf_is {b : List UInt8} (h : b.length = 256) : objOf b = ⟨b[0], ((b[1]).toNat : Int), (((b[2]).toNat + 256 * (b[3]).toNat : Nat) : Int), rowOf b 1 15⟩ := by
  unfold objOf
  rw [ptrsOf_data h, List.take_left' (rowOf_length b 1 15), List.getD_eq_getElem?_getD, List.getElem?_eq_getElem (by omega), List.getD_eq_getElem?_getD, List.getElem?_eq_getElem (by omega)]
  rw [List.drop_eq_getElem_cons (by omega : 2 < b.length), List.drop_eq_getElem_cons (by omega : 2 + 1 < b.length)]
  rfl
theorem block_iff {b : List UInt8} (h : b.length = 256) : blockO (objOf b) = b ↔ (b.take 16).drop 4 = List.replicate 12 0 := by
  have h0 := (b[0]).toNat_lt; have h1 := (b[1]).toNat_lt; have h2 := (b[2]).toNat_lt; have h3 := (b[3]).toNat_lt
  have e : blockO (objOf b) = b.take 4 ++ List.replicate 12 0 ++ b.drop 16 := by
    rw [objOf_is h]
    unfold blockO
    dsimp only
    rw [rowOf_flat 15 1 (by rw [List.length_drop]; omega)]
    congr 2
    have u : ∀ x : UInt8, u8i (x.toNat : Int) = x := fun x => by rw [u8i_nat]; exact UInt8.ofNat_toNat
    have g2 : ((((b[2]).toNat + 256 * (b[3]).toNat : Nat) : Int)).tmod 256 = ((b[2]).toNat : Int) := by rw [Int.tmod_eq_emod_of_nonneg (by omega)]; omega
    have g3 : w64 (((((b[2]).toNat + 256 * (b[3]).toNat : Nat) : Int)).tdiv 256) = ((b[3]).toNat : Int) := by rw [Int.tdiv_eq_ediv_of_nonneg (by omega), YF (by omega) (by omega)]; omega
    rw [g2, g3, u, u, u]
    rw [show b.take 4 = (b.drop 0).take 4 from rfl, List.drop_eq_getElem_cons (by omega : 0 < b.length), List.drop_eq_getElem_cons (by omega : 0 + 1 < b.length), List.drop_eq_getElem_cons (by omega : 0 + 1 + 1 < b.length), List.drop_eq_getElem_cons (by omega : 0 + 1 + 1 + 1 < b.length)]
    rfl
  have s : b = b.take 4 ++ (b.take 16).drop 4 ++ b.drop 16 := by
    rw [show b.take 4 = (b.take 16).take 4 by rw [List.take_take]; rfl, List.take_append_drop, List.take_append_drop]
  rw [e]
  constructor
  · intro k
    have k' := k.trans s
    rw [List.append_assoc, List.append_assoc] at k'
    exact (List.append_cancel_right (List.append_cancel_left k')).symm
  · intro k
    rw [← k]; exact s.symm
theorem ref_read14 {b : List UInt8} (h : b.length = 256) : ref14_Read b = some (readO b) := by
  unfold ref14_Read readO
  have hr := read14_run h 15 0 20 [] (by omega) (by omega) (by simp)
  have h0 := (b[0]).toNat_lt; have h1 := (b[1]).toNat_lt; have h2 := (b[2]).toNat_lt; have h3 := (b[3]).toNat_lt
  have hd := ptrsOf_data h
  rw [decide_eq_true (by omega), Bool.not_true, cond_false, show idx b 0 = idx b ((0 : Nat) : Int) from rfl, Zk _ (by omega), show idx b 1 = idx b ((1 : Nat) : Int) from rfl, Zk _ (by omega), show idx b 2 = idx b ((2 : Nat) : Int) from rfl, Zk _ (by omega), show idx b 3 = idx b ((3 : Nat) : Int) from rfl, Zk _ (by omega),
    show loop (ref14_Read_l1 b) (([] : List Ptr), 0) = _ from loop_of (by decide) hr, Option.bind_some]
  by_cases c : ∀ p ∈ rowOf b 1 15, okP p
  · have hrow : (rowsB (b.drop 16 ++ List.replicate 16 0)).2 = 0 := by
      unfold rowsB
      rw [hd, if_pos (fun p hp => by
        rcases List.mem_append.1 hp with hp | hp
        · exact c p hp
        · rw [List.mem_singleton.1 hp]; exact okP_no)]
    have e : w64 (((b[2]).toNat : Int) + w64 ((256 : Int) * ((b[3]).toNat : Int))) = (((b[2]).toNat + 256 * (b[3]).toNat : Nat) : Int) := by
      rw [YF (n := (256 : Int) * ((b[3]).toNat : Int)) (by omega) (by omega), YF (by omega) (by omega)]; omega
    rw [if_pos c, Sum.elim_inl, e, List.nil_append, ← objOf_is h, ref_may14, Option.bind_some]
    by_cases k : okO (objOf b)
    · rw [decide_eq_true k, Bool.not_true, cond_false, ref_block k, Option.bind_some]
      by_cases z : blockO (objOf b) = b
      · rw [decide_eq_true z, if_pos ⟨hrow, (block_iff h).1 z, k⟩]; rfl
      · rw [decide_eq_false z, if_neg (fun e => z ((block_iff h).2 e.2.1))]; rfl
    · rw [decide_eq_false k, if_neg (fun e => k e.2.2)]; rfl
  · rw [if_neg c, if_neg (fun e => c fun p hp => (rowsB_ok e.1).2 p (by rw [hd]; exact List.mem_append.2 (.inl hp)))]; rfl
theorem ref_one15 {s : Store} {p : Ptr} (h : OKSt s) (hp : okP p) : ref15_One s p = some (oneS s p) := by
  unfold ref15_One oneS
  rw [ref_seen13 h hp, Option.bind_some]
  by_cases e : (lookS s p).2 = 0
  · rw [if_pos e, e, zdec, cond_false, ref_read14 (look_len e), Option.bind_some]
    rcases readO_cases (lookS s p).1 with c | c
    · rw [c, zdec, cond_false]; exact congrArg some (Prod.ext rfl c.symm)
    · rw [c]; rfl
  · rw [if_neg e, ndec e, cond_true]; rfl
theorem ref_object15 (s : Store) (root : Ptr) (n : Int) : ref15_Object s root n = some (objectS s root n) := by
  unfold ref15_Object objectS
  rw [ref_may15, Option.bind_some]
  by_cases c : OKSt s ∧ okP root
  · rw [decide_eq_true c, Bool.not_true, cond_false, if_pos c]
    by_cases h3 : n < 0
    · rw [decide_eq_true h3, cond_true, if_pos (.inl h3)]; rfl
    · rw [decide_eq_false h3, cond_false]
      by_cases h4 : 16 ≤ n
      · rw [decide_eq_true h4, cond_true, if_pos (.inr h4)]; rfl
      · rw [decide_eq_false h4, cond_false, if_neg (fun h => h.elim h3 h4), ref_row15 c.1 c.2, Option.bind_some]
        by_cases h5 : (ptrsS s root).2 = 0
        · obtain ⟨-, -, hl, hok⟩ := ptrsS_ok h5
          obtain ⟨k, rfl⟩ := Int.eq_ofNat_of_zero_le (show 0 ≤ n by omega)
          have hk : k < (ptrsS s root).1.length := by omega
          rw [if_pos h5, h5, zdec, cond_false, Zk _ hk, ref_one15 c.1 (hok _ (List.getElem_mem hk)), Option.bind_some, Int.toNat_natCast, List.getD_eq_getElem?_getD, List.getElem?_eq_getElem hk]; rfl
        · rw [if_neg h5, ndec h5, cond_true]; rfl
  · rw [decide_eq_false c, if_neg c]; rfl
theorem youngs_in {a : UInt32} {y : Ptr} {l : List Ptr} (h : a < y.Birth) : youngs a (y :: l) = y :: youngs a l := by
  unfold youngs; rw [List.filter_cons, if_pos (by simpa using h)]
theorem youngs_out {a : UInt32} {y : Ptr} {l : List Ptr} (h : ¬ a < y.Birth) : youngs a (y :: l) = youngs a l := by
  unfold youngs; rw [List.filter_cons, if_neg (by simpa using h)]
theorem ref_young_run (a : UInt32) (x : Object × Int) (hx : x.1.Data.length ≤ 1000) (hok : ∀ p ∈ x.1.Data, okP p) : ∀ (k i f : Nat) (r : List Ptr), i + k = x.1.Data.length → k < f → r.length + k ≤ 900000 → run (ref15_Young_l1 a x) f (r, i) = some (r ++ youngs a (x.1.Data.drop i))
  | 0, i, f, r, hi, hf, hr => by
    obtain ⟨f, rfl⟩ : ∃ q, f = q + 1 := ⟨f - 1, by omega⟩
    refine run_en ?_
    unfold ref15_Young_l1
    dsimp only
    rw [decide_eq_false (by omega), cond_false, List.drop_eq_nil_of_le (by omega)]; simp [youngs]
  | k + 1, i, f, r, hi, hf, hr => by
    obtain ⟨f, rfl⟩ : ∃ q, f = q + 1 := ⟨f - 1, by omega⟩
    have hlt : i < x.1.Data.length := by omega
    have ho := hok _ (List.getElem_mem hlt)
    rw [List.drop_eq_getElem_cons hlt]
    by_cases c : a < (x.1.Data[i]).Birth
    · have hn : ¬ isNone x.1.Data[i] := fun e => by rw [e.eq] at c; exact UInt32.not_le.2 c (noP_birth a)
      rw [run_st (s' := (r ++ [x.1.Data[i]], i + 1)) (by
        unfold ref15_Young_l1; dsimp only
        rw [decide_eq_true (by omega), cond_true, Zk _ hlt, ref_none, Option.bind_some, decide_eq_false hn, Bool.not_false, cond_true, Zk _ hlt, decide_eq_true c, cond_true, Zk _ hlt, app_eq (lim_le (by simp; omega))]),
        ref_young_run a x hx hok k (i + 1) f _ (by omega) (by omega) (by simp; omega), List.append_assoc, youngs_in c]
      rfl
    · rw [run_st (s' := (r, i + 1)) (by
        unfold ref15_Young_l1; dsimp only
        rw [decide_eq_true (by omega), cond_true, Zk _ hlt, ref_none, Option.bind_some]
        by_cases hn : isNone x.1.Data[i]
        · rw [decide_eq_true hn]; rfl
        · rw [decide_eq_false hn, Bool.not_false, cond_true, Zk _ hlt, decide_eq_false c]; rfl),
        ref_young_run a x hx hok k (i + 1) f _ (by omega) (by omega) (by omega), youngs_out c]
theorem ref_young_outer {s : Store} (h : OKSt s) (a : UInt32) (L : List Ptr × Int) (hL : L.1.length = 16) (hok : ∀ p ∈ L.1, okP p) : ∀ (k i f : Nat) (r : List Ptr), i + k = 16 → k < f → r.length + 16 * k ≤ 800000 →
    run (ref15_Young_l2 s a L) f (r, i) = some (if (walkL s a (L.1.drop i)).2 = 0 then .inl (r ++ (walkL s a (L.1.drop i)).1) else .inr (walkL s a (L.1.drop i)).2)
  | 0, i, f, r, hi, hf, hr => by
    obtain ⟨f, rfl⟩ : ∃ q, f = q + 1 := ⟨f - 1, by omega⟩
    refine run_en ?_
    unfold ref15_Young_l2
    dsimp only
    rw [decide_eq_false (by omega), cond_false, List.drop_eq_nil_of_le (by omega), walkL]; simp
  | k + 1, i, f, r, hi, hf, hr => by
    obtain ⟨f, rfl⟩ : ∃ q, f = q + 1 := ⟨f - 1, by omega⟩
    have hlt : i < L.1.length := by omega
    have ho := hok _ (List.getElem_mem hlt)
    rw [List.drop_eq_getElem_cons hlt]
    by_cases c : (L.1[i]).Birth ≤ a
    · have e : walkL s a (L.1[i] :: L.1.drop (i + 1)) = walkL s a (L.1.drop (i + 1)) := by conv => lhs; unfold walkL; rw [if_pos c]
      rw [e, run_st (s' := (r, i + 1)) (by
        unfold ref15_Young_l2; dsimp only
        rw [decide_eq_true (by omega), cond_true, Zk _ hlt, ref_none, Option.bind_some]
        by_cases hn : isNone L.1[i]
        · rw [decide_eq_true hn]; rfl
        · rw [decide_eq_false hn, cond_false, Zk _ hlt, decide_eq_true c, cond_true])]
      exact ref_young_outer h a L hL hok k (i + 1) f r (by omega) (by omega) (by omega)
    · have hn : ¬ isNone L.1[i] := fun e => c (by rw [e.eq]; exact noP_birth a)
      by_cases c1 : (oneS s L.1[i]).2 = 0
      · have hO := (oneS_ok c1).1
        have e : walkL s a (L.1[i] :: L.1.drop (i + 1)) = (L.1[i] :: youngs a (oneS s L.1[i]).1.Data ++ (walkL s a (L.1.drop (i + 1))).1, (walkL s a (L.1.drop (i + 1))).2) := by conv => lhs; unfold walkL; rw [if_neg c, if_pos c1]
        have hy := ref_young_run a (oneS s L.1[i]) (by have := hO.2.2.2.1; omega) hO.2.2.2.2 15 0 20 (r ++ [L.1[i]]) (by have := hO.2.2.2.1; omega) (by omega) (by simp; omega)
        rw [List.drop_zero] at hy
        have hyl : (youngs a (oneS s L.1[i]).1.Data).length ≤ 15 := by rw [← hO.2.2.2.1]; exact List.length_filter_le _ _
        rw [e, run_st (s' := (r ++ [L.1[i]] ++ youngs a (oneS s L.1[i]).1.Data, i + 1)) (by
          unfold ref15_Young_l2; dsimp only
          rw [decide_eq_true (by omega), cond_true, Zk _ hlt, ref_none, Option.bind_some, decide_eq_false hn, cond_false, Zk _ hlt, decide_eq_false c, cond_false, Zk _ hlt, ref_one15 h ho, Option.bind_some, c1, zdec, cond_false, Zk _ hlt, app_eq (lim_le (by simp; omega)),
            show loop (ref15_Young_l1 a (oneS s L.1[i])) (r ++ [L.1[i]], 0) = _ from loop_of (by decide) hy, Option.bind_some]),
          ref_young_outer h a L hL hok k (i + 1) f _ (by omega) (by omega) (by simp only [List.length_append, List.length_cons, List.length_nil]; omega)]
        simp [List.append_assoc]
      · have e : walkL s a (L.1[i] :: L.1.drop (i + 1)) = ([], (oneS s L.1[i]).2) := by conv => lhs; unfold walkL; rw [if_neg c, if_neg c1]
        rw [e, if_neg c1]
        refine run_en ?_
        unfold ref15_Young_l2; dsimp only
        rw [decide_eq_true (by omega), cond_true, Zk _ hlt, ref_none, Option.bind_some, decide_eq_false hn, cond_false, Zk _ hlt, decide_eq_false c, cond_false, Zk _ hlt, ref_one15 h ho, Option.bind_some, ndec c1, cond_true]
theorem ref_walk15 (s : Store) (root : Ptr) (a : UInt32) : ref15_Walk s root a = some (walkS s root a) := by
  unfold ref15_Walk walkS
  rw [ref_may15, Option.bind_some]
  by_cases c : OKSt s ∧ okP root
  · rw [decide_eq_true c, Bool.not_true, cond_false, if_pos c]
    unfold ref15_Young
    rw [ref_none, Option.bind_some]
    by_cases b : root.Birth ≤ a
    · rw [if_pos b]
      by_cases hn : isNone root
      · rw [decide_eq_true hn]; rfl
      · rw [decide_eq_false hn, decide_eq_true b]; rfl
    · have hn : ¬ isNone root := fun e => b (by rw [e.eq]; exact noP_birth a)
      rw [if_neg b, decide_eq_false hn, cond_false, decide_eq_false b, cond_false, ref_row15 c.1 c.2, Option.bind_some]
      by_cases e : (ptrsS s root).2 = 0
      · obtain ⟨-, -, hl, hok⟩ := ptrsS_ok e
        have hr := ref_young_outer c.1 a (ptrsS s root) hl hok 16 0 20 [root] (by omega) (by omega) (by simp)
        rw [List.drop_zero] at hr
        rw [if_pos e, e, zdec, cond_false, show loop (ref15_Young_l2 s a (ptrsS s root)) ([root], 0) = _ from loop_of (by decide) hr, Option.bind_some]
        by_cases z : (walkL s a (ptrsS s root).1).2 = 0
        · rw [if_pos z, if_pos z]; rfl
        · rw [if_neg z, if_neg z]; rfl
      · rw [if_neg e, ndec e, cond_true]; rfl
  · rw [decide_eq_false c, if_neg c]; rfl
end Go.Ow

/-
  What is proved here: the law SetTells, in plain words.
-/
namespace Go.Ow
set_option linter.unusedVariables false
set_option linter.unusedSimpArgs false

theorem ref_same10 (l : List Ptr) (h : l.length ≤ 100000) : ref10_Same l l = some true := by
  unfold ref10_Same
  rw [nbeq rfl, cond_false]
  have key : ∀ (k i n : Nat), i + k = l.length → k < n → run (ref10_Same_l1 l l) n i = some (.inl ()) := by
    intro k
    induction k with
    | zero =>
      intro i n hi hn
      obtain ⟨n, rfl⟩ : ∃ m, n = m + 1 := ⟨n - 1, by omega⟩
      exact run_en (by unfold ref10_Same_l1; rw [decide_eq_false (by omega)]; rfl)
    | succ k ih =>
      intro i n hi hn
      obtain ⟨n, rfl⟩ : ∃ m, n = m + 1 := ⟨n - 1, by omega⟩
      rw [run_go (s' := i + 1) (by unfold ref10_Same_l1; rw [decide_eq_true (by omega), cond_true, Zk _ (show i < l.length by omega), Zk _ (show i < l.length by omega), ptr_dec, decide_eq_true rfl]; rfl)]
      exact ih (i + 1) n (by omega) (by omega)
  rw [show loop (ref10_Same_l1 l l) 0 = some (.inl ()) from key l.length 0 FUEL (by omega) (Nat.lt_of_le_of_lt h (by decide))]; rfl
theorem ref_same14 (o : Object) (h : o.Data.length ≤ 100000) : ref14_Same o o = some true := by
  unfold ref14_Same
  rw [decide_eq_true rfl, cond_true, decide_eq_true rfl, cond_true, decide_eq_true rfl, cond_true, ref_same10 _ h]; rfl
theorem same09_l1 (d : Disk) : ∀ (k i n : Nat), i + k = d.Blocks.length → k < n → run (ref09_Same_l1 d d) n ((0 : Int), i) = some 0
  | 0, i, n, hi, hn => by
    obtain ⟨n, rfl⟩ : ∃ m, n = m + 1 := ⟨n - 1, by omega⟩
    exact run_en (by unfold ref09_Same_l1; dsimp only; rw [decide_eq_false (by omega)]; rfl)
  | k + 1, i, n, hi, hn => by
    obtain ⟨n, rfl⟩ : ∃ m, n = m + 1 := ⟨n - 1, by omega⟩
    rw [run_go (s' := ((0 : Int), i + 1)) (by unfold ref09_Same_l1; dsimp only; rw [decide_eq_true (by omega), cond_true, Zk _ (show i < d.Blocks.length by omega), Zk _ (show i < d.Blocks.length by omega), nbeq rfl, cond_false])]
    exact same09_l1 d k (i + 1) n (by omega) (by omega)
theorem same09_l2 (d : Disk) : ∀ (k i n : Nat), i + k = d.Waits.length → k < n → run (ref09_Same_l2 d d) n ((0 : Int), i) = some 0
  | 0, i, n, hi, hn => by
    obtain ⟨n, rfl⟩ : ∃ m, n = m + 1 := ⟨n - 1, by omega⟩
    exact run_en (by unfold ref09_Same_l2; dsimp only; rw [decide_eq_false (by omega)]; rfl)
  | k + 1, i, n, hi, hn => by
    obtain ⟨n, rfl⟩ : ∃ m, n = m + 1 := ⟨n - 1, by omega⟩
    rw [run_go (s' := ((0 : Int), i + 1)) (by unfold ref09_Same_l2; dsimp only; rw [decide_eq_true (by omega), cond_true, Zk _ (show i < d.Waits.length by omega), Zk _ (show i < d.Waits.length by omega), nbeq rfl, cond_false, nbeq rfl, cond_false])]
    exact same09_l2 d k (i + 1) n (by omega) (by omega)
theorem ref_same09 {d : Disk} (hs : Sized d) : ref09_Same d d = some true := by
  unfold ref09_Same
  rw [nbeq rfl, cond_false, nbeq rfl, cond_false, show loop (ref09_Same_l1 d d) (0, 0) = some 0 from same09_l1 d d.Blocks.length 0 FUEL (by omega) (Nat.lt_of_le_of_lt hs.blocks (by decide)), Option.bind_some, show loop (ref09_Same_l2 d d) (0, 0) = some 0 from same09_l2 d d.Waits.length 0 FUEL (by omega) (Nat.lt_of_le_of_lt hs.waits (by decide)), Option.bind_some]
  rfl
theorem ref_same13 {s : Store} (hs : Sized s.Disk) : ref13_Same s s = some true := by
  unfold ref13_Same
  rw [show (Disk.mk s.Disk.Blocks s.Disk.Waits) = s.Disk from rfl, ref_same09 hs, Option.bind_some, cond_true, decide_eq_true rfl, cond_true, decide_eq_true rfl, cond_true, decide_eq_true rfl]; rfl
/-- no part takes more than the form's reach -/
structure FitD (d : Disk) : Prop where
  blocks : d.Blocks.length ≤ 140737488351232
  waits : d.Waits.length ≤ 140737488351232
  block : ∀ b ∈ d.Blocks, b.length ≤ 140737488351232
  wait : ∀ w ∈ d.Waits, w.Data.length ≤ 140737488351232
theorem great_l1 {d : Disk} (h : FitD d) : ∀ (k i f c : Nat), i + k = d.Blocks.length → k < f → c ≤ 140737490351232 → ∃ c' : Nat, run (ref09_Great_l1 d) f ((c : Int), i) = some (c' : Int) ∧ c ≤ c' ∧ c' ≤ 140737490351232 ∧ (c' < 2000000 → ∀ b ∈ d.Blocks.drop i, b.length ≤ c')
  | 0, i, f, c, hi, hf, hc => by
    obtain ⟨f, rfl⟩ : ∃ q, f = q + 1 := ⟨f - 1, by omega⟩
    refine ⟨c, run_en ?_, Nat.le_refl _, hc, fun _ b hb => ?_⟩
    · unfold ref09_Great_l1
      dsimp only
      rw [decide_eq_false (by omega)]; rfl
    · rw [List.drop_eq_nil_of_le (by omega)] at hb; cases hb
  | k + 1, i, f, c, hi, hf, hc => by
    obtain ⟨f, rfl⟩ : ∃ q, f = q + 1 := ⟨f - 1, by omega⟩
    have hlt : i < d.Blocks.length := by omega
    have hb := h.block _ (List.getElem_mem hlt)
    by_cases c1 : c < 2000000
    · obtain ⟨c', h1, h2, h3, h4⟩ := great_l1 h k (i + 1) f (c + (d.Blocks[i]).length) (by omega) (by omega) (by omega)
      refine ⟨c', ?_, by omega, h3, fun hc' b hb' => ?_⟩
      · rw [run_st (s' := (((c + (d.Blocks[i]).length : Nat) : Int), i + 1)) (by unfold ref09_Great_l1; dsimp only; rw [decide_eq_true (by omega), cond_true, decide_eq_true (by omega), cond_true, Zk _ hlt, YF (by omega) (by omega)]; rfl)]; exact h1
      · rw [List.drop_eq_getElem_cons hlt] at hb'
        rcases List.mem_cons.1 hb' with rfl | hb'
        · omega
        · exact h4 hc' b hb'
    · refine ⟨c, run_en ?_, Nat.le_refl _, hc, fun hc' => absurd hc' c1⟩
      unfold ref09_Great_l1
      dsimp only
      rw [decide_eq_true (by omega), cond_true, decide_eq_false (by omega)]; rfl
theorem great_l2 {d : Disk} (h : FitD d) : ∀ (k i f c : Nat), i + k = d.Waits.length → k < f → c ≤ 140737490351232 → ∃ c' : Nat, run (ref09_Great_l2 d) f ((c : Int), i) = some (c' : Int) ∧ c ≤ c' ∧ c' ≤ 140737490351232 ∧ (c' < 2000000 → ∀ w ∈ d.Waits.drop i, w.Data.length ≤ c')
  | 0, i, f, c, hi, hf, hc => by
    obtain ⟨f, rfl⟩ : ∃ q, f = q + 1 := ⟨f - 1, by omega⟩
    refine ⟨c, run_en ?_, Nat.le_refl _, hc, fun _ b hb => ?_⟩
    · unfold ref09_Great_l2
      dsimp only
      rw [decide_eq_false (by omega)]; rfl
    · rw [List.drop_eq_nil_of_le (by omega)] at hb; cases hb
  | k + 1, i, f, c, hi, hf, hc => by
    obtain ⟨f, rfl⟩ : ∃ q, f = q + 1 := ⟨f - 1, by omega⟩
    have hlt : i < d.Waits.length := by omega
    have hb := h.wait _ (List.getElem_mem hlt)
    by_cases c1 : c < 2000000
    · obtain ⟨c', h1, h2, h3, h4⟩ := great_l2 h k (i + 1) f (c + (d.Waits[i]).Data.length) (by omega) (by omega) (by omega)
      refine ⟨c', ?_, by omega, h3, fun hc' b hb' => ?_⟩
      · rw [run_st (s' := (((c + (d.Waits[i]).Data.length : Nat) : Int), i + 1)) (by unfold ref09_Great_l2; dsimp only; rw [decide_eq_true (by omega), cond_true, decide_eq_true (by omega), cond_true, Zk _ hlt, YF (by omega) (by omega)]; rfl)]; exact h1
      · rw [List.drop_eq_getElem_cons hlt] at hb'
        rcases List.mem_cons.1 hb' with rfl | hb'
        · omega
        · exact h4 hc' b hb'
    · refine ⟨c, run_en ?_, Nat.le_refl _, hc, fun hc' => absurd hc' c1⟩
      unfold ref09_Great_l2
      dsimp only
      rw [decide_eq_true (by omega), cond_true, decide_eq_false (by omega)]; rfl
theorem great_small {d : Disk} (h : FitD d) (hg : ref09_Great d = some false) : SmallD d := by
  have hb := h.blocks
  have hw := h.waits
  obtain ⟨c, e1, -, e3, e4⟩ := great_l1 h d.Blocks.length 0 (d.Blocks.length + 1) 0 (by omega) (by omega) (by omega)
  obtain ⟨c', f1, f2, f3, f4⟩ := great_l2 h d.Waits.length 0 (d.Waits.length + 1) c (by omega) (by omega) (by omega)
  have hF : FUEL = 18446744073709551616 := rfl
  unfold ref09_Great at hg
  rw [show loop (ref09_Great_l1 d) (0, 0) = some (c : Int) from loop_of (by omega) e1, Option.bind_some, show loop (ref09_Great_l2 d) ((c : Int), 0) = some (c' : Int) from loop_of (by omega) f1, Option.bind_some] at hg
  rw [List.drop_zero] at e4 f4
  have fin : ∀ x : Option (Unit ⊕ Unit), x = some (.inl ()) ∨ x = some (.inr ()) → (Option.bind x fun t_5 => Sum.elim (fun _ => some (decide (2000000 ≤ (c' : Int)))) (fun _ => some true) t_5) = some false → x = some (.inl ()) ∧ c' < 2000000 := by
    rintro x (rfl | rfl) hx
    · refine ⟨rfl, ?_⟩
      have := of_decide_eq_false (Option.some.inj hx)
      omega
    · cases hx
  by_cases k1 : (500 : Int) < (d.Blocks.length : Int)
  · rw [decide_eq_true k1] at hg; cases hg
  by_cases k2 : (4106 : Int) < (d.Waits.length : Int)
  · rw [decide_eq_false k1, decide_eq_true (show (500 : Int) < (d.Waits.length : Int) by omega), decide_eq_false (show ¬ (d.Waits.length : Int) < 4096 by omega), decide_eq_true k2] at hg; cases hg
  have hc : c' < 2000000 := by
    refine (fin _ ?_ hg).2
    rw [decide_eq_false k1, cond_false, decide_eq_false k2]
    by_cases k3 : (500 : Int) < (d.Waits.length : Int)
    · rw [decide_eq_true k3, cond_true]
      by_cases k4 : (d.Waits.length : Int) < 4096
      · rw [decide_eq_true k4]; exact .inr rfl
      · rw [decide_eq_false k4]; exact .inl rfl
    · rw [decide_eq_false k3]; exact .inl rfl
  exact ⟨by omega, by omega, fun b hb => by have := e4 (by omega) b hb; omega, fun w hw => by have := f4 hc w hw; omega⟩
theorem great13_small {s : Store} (h : FitD s.Disk) (hg : ref13_Great s = some false) : SmallS s := by
  unfold ref13_Great at hg
  rw [show (Disk.mk s.Disk.Blocks s.Disk.Waits) = s.Disk from rfl] at hg
  cases e : ref09_Great s.Disk with
  | none => rw [e] at hg; cases hg
  | some g =>
    rw [e] at hg
    cases g with
    | true => cases hg
    | false =>
      refine ⟨great_small h e, ?_⟩
      have : decide ((10000 : Int) < (s.Space.length : Int)) = false := Option.some.inj hg
      have := of_decide_eq_false this
      omega
theorem law_SetTells (s : Store) (root : Ptr) (n : Int) (a : UInt32) (hs : Sized s.Disk) (hF : FitD s.Disk) (_ : InI64 root.At) (_ : InI64 n) : law15_SetTells s root n a = some true := by
  unfold law15_SetTells
  obtain ⟨g, hg⟩ := great13_tot hs
  rw [hg, Option.bind_some]
  cases g with
  | true => rfl
  | false =>
    have hb := great13_small hF hg
    have hL := walkS_len (s := s) (root := root) (a := a)
    have hP : (ptrsS s root).1.length ≤ 16 := by
      by_cases c : (ptrsS s root).2 = 0
      · exact Nat.le_of_eq (ptrsS_ok c).2.2.1
      · rw [ptrsS_bad c]; exact Nat.zero_le _
    have hO := objectS_data s root n
    rw [cond_false, ref_twin hb, Option.bind_some, set_Ptrs_eq hs, Option.bind_some, ref_ptrs15, Option.bind_some, set_Object_eq hs, Option.bind_some, ref_object15, Option.bind_some, set_Walk_eq hs, Option.bind_some, ref_walk15, Option.bind_some,
      ref_same10 _ (by omega), Option.bind_some, cond_true, decide_eq_true rfl, cond_true, ref_same14 _ (by omega), Option.bind_some, cond_true, decide_eq_true rfl, cond_true, ref_same10 _ (by omega), Option.bind_some, cond_true, decide_eq_true rfl, cond_true, ref_same13 hs]
    rfl
end Go.Ow
