import Derived.Test.YtdoebbgjjlicjaaOwMb
import Derived.HandedShaped
import Derived.Test.YtdoebbgjjlicjaaOwMd
/-
  What is proved here: what a reading of an argument says, where no slice that is met takes more than the form's reach.
-/
namespace Go.Ow
open Go.ChangeShapes Go.WideShapes Go.ChangeAt Go.RowKit
set_option linter.unusedVariables false
set_option linter.unusedSimpArgs false

section
variable {H : Type} {enc : TypeId × Value → H} {P : Program} {W : World} {B : Bulk H}
/-- no slice that is met takes more than the reach -/
def Fits (P : Program) (t : TypeId) (d : DataW H) : Prop := (d.weights P t).all (· ≤ reachBytes) = true
def FitsEach (P : Program) (ts : List TypeId) (ds : List (DataW H)) : Prop := (DataW.weightsEach P ts ds).all (· ≤ reachBytes) = true
theorem fits_cons {t : TypeId} {ts : List TypeId} {d : DataW H} {ds : List (DataW H)} (h : FitsEach P (t :: ts) (d :: ds)) : Fits P t d ∧ FitsEach P ts ds := by
  unfold FitsEach at h
  rw [DataW.weightsEach, List.all_append, Bool.and_eq_true] at h
  exact h
theorem fits_all {e : TypeId} : ∀ {ds : List (DataW H)}, (DataW.weightsAll P e ds).all (· ≤ reachBytes) = true → ∀ d ∈ ds, Fits P e d
  | [], _, d, hd => by cases hd
  | x :: r, h, d, hd => by
    rw [DataW.weightsAll, List.all_append, Bool.and_eq_true] at h
    rcases List.mem_cons.1 hd with rfl | hd
    · exact h.1
    · exact fits_all h.2 d hd
theorem fits_slice {t e : TypeId} {a b : List (DataW H)} (ht : P.underlying t = some (.slice e)) (hb : 1 ≤ P.bytesOf e) (h : Fits P t (.slice a b)) : a.length ≤ reachBytes ∧ ∀ d ∈ a, Fits P e d := by
  unfold Fits at h
  rw [DataW.weights, ht] at h
  simp only [List.all_cons, List.all_append, Bool.and_eq_true, decide_eq_true_eq] at h
  refine ⟨?_, fits_all h.2.1⟩
  have := Nat.le_mul_of_pos_right (a.length + b.length) hb
  omega
theorem fits_agg {t : TypeId} {fs : Array Field} {parts : List (DataW H)} (ht : P.underlying t = some (.struct fs)) (h : Fits P t (.agg parts)) : FitsEach P (fs.toList.map (·.type)) parts := by
  unfold Fits at h
  rw [DataW.weights, ht] at h
  exact h
def ReadsF (enc : TypeId × Value → H) (P : Program) (W : World) (t : TypeId) {α : Type} (R : Rep α) (size : Nat) (I : α → Prop) : Prop :=
  ∀ fuel cs d ps, DataW.trod enc P W 0 (fun _ => true) true fuel t cs = some (d, ps) → Fits P t d → ∃ x, R (HW W) cs x ∧ cs.length = size ∧ I x
theorem Reads.f {α : Type} {t : TypeId} {R : Rep α} {size : Nat} {big : α → Nat} {I : α → Prop} (h : Reads enc P W B t R size big I) : ReadsF enc P W t R size I := fun fuel cs d ps e _ => by
  obtain ⟨x, h1, h2, -, h3⟩ := h fuel cs d ps e; exact ⟨x, h1, h2, h3⟩
theorem readsF_slice {α : Type} {t e : TypeId} {R : Rep α} {size : Nat} {I : α → Prop} (ht : P.underlying t = some (.slice e)) (hc : P.cellsOf e = size) (hpos : 0 < size) (hb : 1 ≤ P.bytesOf e) (he : ReadsF enc P W e R size I) :
    ∀ fuel cs d ps, DataW.trod enc P W 0 (fun _ => true) true fuel t cs = some (d, ps) → Fits P t d → ∃ ao n cap, cs = [.slice ao n cap] ∧ ∃ l, IsSlice (HW W) R size (.slice ao n cap) l ∧ l.length ≤ reachBytes ∧ ∀ x ∈ l, I x := fun fuel cs d ps h hF => by
  rcases DataW.trod_slice ht h with ⟨rfl, hx⟩ | ⟨a, len, cap, elems, rst, m, _, rfl, hx, _, hlc, hcm, hlen, hel, hrest, _⟩
  · exact ⟨none, 0, 0, rfl, [], IsSlice.nil _ _ _, Nat.zero_le _, by simp⟩
  · simp only [Prod.mk.injEq] at hx
    rw [hx.1] at hF
    obtain ⟨hF1, hF2⟩ := fits_slice ht hb hF
    have hspot : cap = 0 ∨ a.spot = none := by
      by_cases h0 : cap = 0
      · exact .inl h0
      right
      have hsome : ∃ cs', W.cells? 0 a (P.cellsOf e) = some cs' := by
        by_cases hl : len = 0
        · subst hl
          obtain ⟨hr1, hr2⟩ := hrest rfl
          have := hr2 0 (by omega)
          have h3 : (rst[0]?).isSome = true := by rw [List.getElem?_eq_getElem (by omega)]; rfl
          rw [← this] at h3
          cases h4 : W.cells? 0 (a.add ((0 + 0) * P.cellsOf e)) (P.cellsOf e) with
          | none => rw [h4] at h3; simp at h3
          | some c => exact ⟨c, by simpa [Addr.add] using h4⟩
        · have := hel 0 (by omega)
          have h3 : (elems[0]?).isSome = true := by rw [List.getElem?_eq_getElem (by omega)]; rfl
          rw [← this] at h3
          cases h4 : W.cells? 0 (a.add (0 * P.cellsOf e)) (P.cellsOf e) with
          | none => rw [h4] at h3; simp at h3
          | some c => exact ⟨c, by simpa [Addr.add] using h4⟩
      obtain ⟨cs', hcs'⟩ := hsome
      obtain ⟨_, hl', hc'⟩ := World.cells?_some hcs'
      have := hc' 0 (by omega)
      have h5 : (cs'[0]?).isSome = true := by rw [List.getElem?_eq_getElem (by omega)]; rfl
      rw [← this] at h5
      have h6 : a.add 0 = a := by simp [Addr.add]
      rw [h6] at h5
      cases hs : a.spot with
      | none => rfl
      | some s =>
        unfold World.cell? at h5
        rw [hs] at h5
        split at h5 <;> simp at h5
    have key : ∀ (k : Nat), k ≤ len → ∃ l : List α, l.length = k ∧ (∀ x ∈ l, I x) ∧
        ∀ i y, l[i]? = some y → ∃ cs, W.cells? 0 (a.add (i * size)) size = some cs ∧ R (HW W) cs y ∧ cs.length = size := by
      intro k
      induction k with
      | zero => intro _; exact ⟨[], rfl, by simp, by simp⟩
      | succ k ih =>
        intro hk
        obtain ⟨l, hl, hI, hi⟩ := ih (by omega)
        have h1 := hel k (by omega)
        have hk' : k < elems.length := by omega
        rw [List.getElem?_eq_getElem hk'] at h1
        cases h4 : W.cells? 0 (a.add (k * P.cellsOf e)) (P.cellsOf e) with
        | none => rw [h4] at h1; simp at h1
        | some c =>
          rw [h4] at h1
          simp only [Option.bind_some] at h1
          obtain ⟨y, hy1, hy2, hy4⟩ := he m c elems[k].1 elems[k].2 h1 (hF2 _ (List.mem_map_of_mem (List.getElem_mem hk')))
          refine ⟨l ++ [y], by simp [hl], ?_, ?_⟩
          · intro x hx
            rcases List.mem_append.1 hx with hx | hx
            · exact hI x hx
            · simp at hx; subst hx; exact hy4
          · intro i z hz
            by_cases hi' : i < k
            · rw [List.getElem?_append_left (by omega)] at hz
              exact hi i z hz
            · have hik : i = k := by
                have := (List.getElem?_eq_some_iff.1 hz).1
                simp at this; omega
              subst hik
              rw [List.getElem?_append_right (by omega)] at hz
              simp [hl] at hz; subst hz
              exact ⟨c, by rw [← hc]; exact h4, hy1, hy2⟩
    obtain ⟨l, hl, hI, hi⟩ := key len (Nat.le_refl _)
    refine ⟨some a, len, cap, rfl, l, ⟨some a, cap, by rw [hl], by omega, hcm, fun a' e' => ?_, fun e' => (by cases e'), fun i y hy => ?_⟩, ?_, hI⟩
    · cases e'; exact hspot
    · have hlt := (List.getElem?_eq_some_iff.1 hy).1
      have hsp : a.spot = none := hspot.resolve_left (by omega)
      obtain ⟨b, o, s⟩ := a
      simp at hsp; subst hsp
      obtain ⟨cs, h1, h2, h3⟩ := hi i y hy
      refine ⟨b, o, cs, rfl, h3, h2, fun j u hu => ?_⟩
      obtain ⟨_, _, h5⟩ := World.cells?_some h1
      have hj : j < size := by have := (List.getElem?_eq_some_iff.1 hu).1; omega
      have h6 := h5 j hj
      rw [hu] at h6
      have e1 : (Addr.add (Addr.add ⟨b, o, none⟩ (i * size)) j) = ⟨b, o + i * size + j, none⟩ := by
        unfold Addr.add; split <;> split <;> simp_all
      rw [e1] at h6
      exact h6
    · rw [List.length_map] at hF1; omega
theorem readsF_sl {α : Type} {t e : TypeId} {R : Rep α} {size : Nat} {I : α → Prop} (ht : P.underlying t = some (.slice e)) (hc : P.cellsOf e = size) (hpos : 0 < size) (hb : 1 ≤ P.bytesOf e) (he : ReadsF enc P W e R size I) :
    ReadsF enc P W t (RSl R size) 1 (fun l => l.length ≤ reachBytes ∧ ∀ x ∈ l, I x) := fun fuel cs d ps h hF => by
  obtain ⟨ao, n, cap, rfl, l, h1, h2, h3⟩ := readsF_slice ht hc hpos hb he fuel cs d ps h hF
  exact ⟨l, ⟨_, rfl, h1⟩, rfl, h2, h3⟩
def fit_Write (x : Write) : Prop := InI64 x.At ∧ x.Data.length ≤ reachBytes ∧ ∀ y ∈ x.Data, True
theorem readsF_Write {t : TypeId} {fs : Array Field} {f0 f1 : Field} (ht : P.underlying t = some (.struct fs)) (hN : P.cellsOf t = 2) (hk : fs.size = 2) (hl : fs.toList = [f0, f1])
    (g0 : fs[0]? = some f0 ∧ f0.offset = 0 ∧ P.cellsOf f0.type = 1) (r0 : ReadsF enc P W f0.type RInt 1 InI64)
    (g1 : fs[1]? = some f1 ∧ f1.offset = 1 ∧ P.cellsOf f1.type = 1) (r1 : ReadsF enc P W f1.type (RSl RU8 1) 1 (fun l => l.length ≤ reachBytes ∧ ∀ x ∈ l, (fun _ => True) x)) :
    ReadsF enc P W t R_Write 2 fit_Write := fun fuel cs d ps h hF => by
  obtain ⟨xs, n, _, hx, hlen, hxl, hf⟩ := DataW.trod_struct ht h
  rw [hN] at hlen
  rw [hk] at hxl
  match xs, hxl with
  | [x0, x1], _ =>
  match cs, hlen with
  | [c0, c1], _ =>
  simp only [Prod.mk.injEq] at hx
  rw [hx.1] at hF
  have hF := fits_agg ht hF
  rw [hl] at hF
  obtain ⟨F0, hF⟩ := fits_cons hF
  obtain ⟨F1, -⟩ := fits_cons hF
  obtain ⟨y0, a0, _, i0⟩ := r0 n [c0] x0.1 x0.2 (by have e := hf 0 _ g0.1; rw [g0.2.1, g0.2.2] at e; exact e) F0
  obtain rfl : c0 = .int .i64 y0 := by have e : [c0] = [.int .i64 y0] := a0; simpa using e
  obtain ⟨y1, a1, _, i1⟩ := r1 n [c1] x1.1 x1.2 (by have e := hf 1 _ g1.1; rw [g1.2.1, g1.2.2] at e; exact e) F1
  obtain ⟨u1, e, a1⟩ := a1
  obtain rfl : c1 = u1 := by simpa using e
  exact ⟨⟨y0, y1⟩, ⟨_, rfl, a1⟩, rfl, ⟨i0, i1⟩⟩
def fit_Disk (x : Disk) : Prop := (x.Blocks.length ≤ reachBytes ∧ ∀ b ∈ x.Blocks, b.length ≤ reachBytes ∧ ∀ y ∈ b, True) ∧ (x.Waits.length ≤ reachBytes ∧ ∀ w ∈ x.Waits, fit_Write w)
theorem readsF_Disk {t : TypeId} {fs : Array Field} {f0 f1 : Field} (ht : P.underlying t = some (.struct fs)) (hN : P.cellsOf t = 2) (hk : fs.size = 2) (hl : fs.toList = [f0, f1])
    (g0 : fs[0]? = some f0 ∧ f0.offset = 0 ∧ P.cellsOf f0.type = 1) (r0 : ReadsF enc P W f0.type (RSl (RSl RU8 1) 1) 1 (fun l => l.length ≤ reachBytes ∧ ∀ x ∈ l, (fun l => l.length ≤ reachBytes ∧ ∀ x ∈ l, (fun _ => True) x) x))
    (g1 : fs[1]? = some f1 ∧ f1.offset = 1 ∧ P.cellsOf f1.type = 1) (r1 : ReadsF enc P W f1.type (RSl R_Write 2) 1 (fun l => l.length ≤ reachBytes ∧ ∀ x ∈ l, fit_Write x)) :
    ReadsF enc P W t R_Disk 2 fit_Disk := fun fuel cs d ps h hF => by
  obtain ⟨xs, n, _, hx, hlen, hxl, hf⟩ := DataW.trod_struct ht h
  rw [hN] at hlen
  rw [hk] at hxl
  match xs, hxl with
  | [x0, x1], _ =>
  match cs, hlen with
  | [c0, c1], _ =>
  simp only [Prod.mk.injEq] at hx
  rw [hx.1] at hF
  have hF := fits_agg ht hF
  rw [hl] at hF
  obtain ⟨F0, hF⟩ := fits_cons hF
  obtain ⟨F1, -⟩ := fits_cons hF
  obtain ⟨y0, a0, _, i0⟩ := r0 n [c0] x0.1 x0.2 (by have e := hf 0 _ g0.1; rw [g0.2.1, g0.2.2] at e; exact e) F0
  obtain ⟨u0, e, a0⟩ := a0
  obtain rfl : c0 = u0 := by simpa using e
  obtain ⟨y1, a1, _, i1⟩ := r1 n [c1] x1.1 x1.2 (by have e := hf 1 _ g1.1; rw [g1.2.1, g1.2.2] at e; exact e) F1
  obtain ⟨u1, e, a1⟩ := a1
  obtain rfl : c1 = u1 := by simpa using e
  exact ⟨⟨y0, y1⟩, ⟨_, _, rfl, a0, a1⟩, rfl, ⟨i0, i1⟩⟩
theorem argF_struct {r : Reach} {b0 : Nat} {t : TypeId} {v : Value} {d : DataW H} {ps : List MemPlace} {α : Type} {fs : Array Field} {R : Rep α} {size : Nat} {I : α → Prop} (ht : P.underlying t = some (.struct fs)) (he : ReadsF enc P W t R size I)
    (hval : Value.okWide P W r b0 t v) (hd : DataW.Trod enc P W 0 (fun _ => true) true t v d ps) (hF : Fits P t d) :
    ∃ cs : Array Value, v = .agg cs ∧ ∃ x, R (HW W) cs.toList x ∧ I x := by
  obtain ⟨cs, rfl, _⟩ := okWide_struct ht hval
  obtain ⟨fuel, hf⟩ := hd
  obtain ⟨x, h1, h2, h3⟩ := he fuel _ d ps hf hF
  exact ⟨cs, rfl, x, by simpa [Value.cells] using h1, h3⟩
end
end Go.Ow

/-
  What is proved here: pointers as bytes and back, rows of pointers (ptr), in plain words.
-/
namespace Go.Ow
set_option linter.unusedVariables false
set_option linter.unusedSimpArgs false

def ptrB (p : Ptr) : List UInt8 := leB p.At.toNat 1 ++ leB p.Birth.toNat 3 ++ leB p.Iv.toNat 4 ++ leB p.Tag.toNat 4 ++ leB p.Sum.toNat 4
theorem ptrB_length (p : Ptr) : (ptrB p).length = 16 := by simp only [ptrB, List.length_append, Zu]
theorem write_step (p : Ptr) (i n k : Nat) (r : List UInt8) (hs : (A5.mk (1 : Int) 3 4 4 4).l[i]? = some (k : Int)) (hn : (A5.mk p.At (p.Birth.toNat : Int) (p.Iv.toNat : Int) (p.Tag.toNat : Int) (p.Sum.toNat : Int)).l[i]? = some (n : Int))
    (hi : i < 5) (hr : r.length ≤ 100) (h1 : 1 ≤ k) (h4 : k ≤ 4) (hlt : n < 256 ^ k) : ptr_Write_l1 p (A5.mk 1 3 4 4 4) (r, i) = some (.inl (r ++ leB n k, i + 1)) := by
  unfold ptr_Write_l1
  dsimp only
  rw [decide_eq_true (show (i : Int) < 5 by omega)]
  simp only [cond_true]
  rw [idx_eq (y := (k : Int)) ⟨by omega, hs⟩, idx_eq (y := (n : Int)) ⟨by omega, hn⟩, code_Put_eq h1 h4 hlt]
  simp only [Option.bind_some]
  rw [YA (by simp only [Zu, LIM]; omega)]
theorem ptr_Write_eq {p : Ptr} (h : okR p) : ptr_Write p = some (ptrB p, 0) := by
  obtain ⟨h1, h2, h3, h4⟩ := h
  have hb : p.Birth.toNat < 256 ^ 3 := by
    have := UInt32.le_iff_toNat_le.1 h4
    have e : (16777215 : UInt32).toNat = 16777215 := rfl
    rw [e] at this
    have e3 : (256 : Nat) ^ 3 = 16777216 := by decide
    omega
  have e4 : (256 : Nat) ^ 4 = 4294967296 := by decide
  have hloop : loop (ptr_Write_l1 p (A5.mk 1 3 4 4 4)) (([] : List UInt8), 0) = some (ptrB p) :=
    run5 (write_step p 0 p.At.toNat 1 [] rfl (by show some p.At = some _; rw [Int.toNat_of_nonneg (by omega)]) (by omega) (by simp) (by omega) (by omega) (by omega))
      (write_step p 1 p.Birth.toNat 3 _ rfl rfl (by omega) (by simp [Zu]) (by omega) (by omega) hb)
      (write_step p 2 p.Iv.toNat 4 _ rfl rfl (by omega) (by simp [Zu]) (by omega) (by omega) (by have := u32_lt p.Iv; omega))
      (write_step p 3 p.Tag.toNat 4 _ rfl rfl (by omega) (by simp [Zu]) (by omega) (by omega) (by have := u32_lt p.Tag; omega))
      (write_step p 4 p.Sum.toNat 4 _ rfl rfl (by omega) (by simp [Zu]) (by omega) (by omega) (by have := u32_lt p.Sum; omega))
      (by unfold ptr_Write_l1; rfl)
  unfold ptr_Write
  rw [ptr_Check_eq', if_pos (.inr ⟨h1, h2, h3, h4⟩)]
  simp only [Option.bind_some, decide_true, Bool.not_true, cond_false, ptr_sizes]
  rw [hloop]
  rfl

def at5 (b : List UInt8) : Ptr := ⟨(numB ((b.drop 0).take 1) : Int), u32i (numB ((b.drop 1).take 3) : Int), u32i (numB ((b.drop 4).take 4) : Int), u32i (numB ((b.drop 8).take 4) : Int), u32i (numB ((b.drop 12).take 4) : Int)⟩
theorem ptr_Read_eq {b : List UInt8} (h : b.length = 16) : ptr_Read b = some (if isNone (at5 b) ∨ okR (at5 b) then (at5 b, 0) else (⟨0, 0, 0, 0, 0⟩, 8)) := by
  have g : ∀ (a k : Nat), 1 ≤ k → k ≤ 4 → a + k ≤ 16 → code_Get b (a : Int) (k : Int) = some ((numB ((b.drop a).take k) : Int), 0) := fun a k h1 h4 h5 => code_Get_eq h1 h4 (by omega) (by omega)
  have hloop : loop (ptr_Read_l1 b (A5.mk 1 3 4 4 4)) (0, 0, 0, 0, 0, 0, 0) = some ((numB ((b.drop 0).take 1) : Int), (numB ((b.drop 1).take 3) : Int), (numB ((b.drop 4).take 4) : Int), (numB ((b.drop 8).take 4) : Int), (numB ((b.drop 12).take 4) : Int)) := by
    have g0 := g 0 1 (by omega) (by omega) (by omega)
    have g1 := g 1 3 (by omega) (by omega) (by omega)
    have g2 := g 4 4 (by omega) (by omega) (by omega)
    have g3 := g 8 4 (by omega) (by omega) (by omega)
    have g4 := g 12 4 (by omega) (by omega) (by omega)
    generalize (numB ((b.drop 0).take 1) : Int) = n0 at g0 ⊢
    generalize (numB ((b.drop 1).take 3) : Int) = n1 at g1 ⊢
    generalize (numB ((b.drop 4).take 4) : Int) = n2 at g2 ⊢
    generalize (numB ((b.drop 8).take 4) : Int) = n3 at g3 ⊢
    generalize (numB ((b.drop 12).take 4) : Int) = n4 at g4 ⊢
    refine run5 (s1 := (n0, 0, 0, 0, 0, 1, 1)) (s2 := (n0, n1, 0, 0, 0, 4, 2)) (s3 := (n0, n1, n2, 0, 0, 8, 3)) (s4 := (n0, n1, n2, n3, 0, 12, 4)) (s5 := (n0, n1, n2, n3, n4, 16, 5)) ?_ ?_ ?_ ?_ ?_ ?_
    · unfold ptr_Read_l1
      show Option.bind (code_Get b 0 1) _ = _
      rw [show code_Get b 0 1 = some (n0, 0) from g0]; rfl
    · unfold ptr_Read_l1
      show Option.bind (code_Get b 1 3) _ = _
      rw [show code_Get b 1 3 = some (n1, 0) from g1]; rfl
    · unfold ptr_Read_l1
      show Option.bind (code_Get b 4 4) _ = _
      rw [show code_Get b 4 4 = some (n2, 0) from g2]; rfl
    · unfold ptr_Read_l1
      show Option.bind (code_Get b 8 4) _ = _
      rw [show code_Get b 8 4 = some (n3, 0) from g3]; rfl
    · unfold ptr_Read_l1
      show Option.bind (code_Get b 12 4) _ = _
      rw [show code_Get b 12 4 = some (n4, 0) from g4]; rfl
    · unfold ptr_Read_l1; rfl
  unfold ptr_Read
  rw [decide_eq_true (show (b.length : Int) = 16 by omega)]
  simp only [Bool.not_true, cond_false, ptr_sizes, Option.bind_some]
  rw [hloop]
  simp only [Option.bind_some]
  rw [show (Ptr.mk (numB ((b.drop 0).take 1) : Int) (u32i (numB ((b.drop 1).take 3) : Int)) (u32i (numB ((b.drop 4).take 4) : Int)) (u32i (numB ((b.drop 8).take 4) : Int)) (u32i (numB ((b.drop 12).take 4) : Int))) = at5 b from rfl, ptr_Check_eq']
  by_cases c : isNone (at5 b) ∨ okR (at5 b)
  · rw [if_pos c, if_pos c]; rfl
  · rw [if_neg c, if_neg c]; rfl
theorem drop_app {α : Type} (a b : List α) {n : Nat} (h : a.length = n) : (a ++ b).drop n = b := by subst h; exact List.drop_left
theorem take_app {α : Type} (a b : List α) {n : Nat} (h : a.length = n) : (a ++ b).take n = a := by subst h; exact List.take_left
theorem u32i_num {a : UInt32} {k : Nat} (h : a.toNat < 256 ^ k) : u32i (numB (leB a.toNat k) : Int) = a := by
  rw [numB_leB h]
  unfold u32i
  apply UInt32.toNat_inj.1
  rw [UInt32.toNat_ofNat']
  have := u32_lt a
  omega
theorem at5_ptrB {p : Ptr} (h : okR p) : at5 (ptrB p) = p := by
  obtain ⟨h1, h2, h3, h4⟩ := h
  have hb : p.Birth.toNat < 256 ^ 3 := by
    have := UInt32.le_iff_toNat_le.1 h4
    have e : (16777215 : UInt32).toNat = 16777215 := rfl
    rw [e] at this
    have e3 : (256 : Nat) ^ 3 = 16777216 := by decide
    omega
  have e4 : (256 : Nat) ^ 4 = 4294967296 := by decide
  have q0 : ptrB p = leB p.At.toNat 1 ++ (leB p.Birth.toNat 3 ++ (leB p.Iv.toNat 4 ++ (leB p.Tag.toNat 4 ++ leB p.Sum.toNat 4))) := by simp only [ptrB, List.append_assoc]
  have q1 : (ptrB p).drop 1 = leB p.Birth.toNat 3 ++ (leB p.Iv.toNat 4 ++ (leB p.Tag.toNat 4 ++ leB p.Sum.toNat 4)) := by rw [q0]; exact drop_app _ _ (Zu _ _)
  have q2 : (ptrB p).drop 4 = leB p.Iv.toNat 4 ++ (leB p.Tag.toNat 4 ++ leB p.Sum.toNat 4) := by rw [show 4 = 1 + 3 from rfl, ← List.drop_drop, q1]; exact drop_app _ _ (Zu _ _)
  have q3 : (ptrB p).drop 8 = leB p.Tag.toNat 4 ++ leB p.Sum.toNat 4 := by rw [show 8 = 4 + 4 from rfl, ← List.drop_drop, q2]; exact drop_app _ _ (Zu _ _)
  have q4 : (ptrB p).drop 12 = leB p.Sum.toNat 4 := by rw [show 12 = 8 + 4 from rfl, ← List.drop_drop, q3]; exact drop_app _ _ (Zu _ _)
  unfold at5
  rw [List.drop_zero, q1, q2, q3, q4, take_app _ _ (Zu _ 3), take_app _ _ (Zu _ 4), take_app _ _ (Zu _ 4), List.take_of_length_le (l := leB p.Sum.toNat 4) (by rw [Zu]; omega), q0, take_app _ _ (Zu _ 1)]
  rw [u32i_num hb, u32i_num (by have := u32_lt p.Iv; omega), u32i_num (by have := u32_lt p.Tag; omega), u32i_num (by have := u32_lt p.Sum; omega), numB_leB (by omega), Int.toNat_of_nonneg (by omega)]

def okP (p : Ptr) : Prop := isNone p ∨ okR p
instance (p : Ptr) : Decidable (okP p) := by unfold okP; infer_instance
theorem isNone.eq {p : Ptr} (h : isNone p) : p = noP := by
  obtain ⟨a, b, c, d, e⟩ := p
  obtain ⟨h1, h2, h3, h4, h5⟩ := h
  simp only at h1 h2 h3 h4 h5
  subst h1; subst h2; subst h3; subst h4; subst h5; rfl
theorem ptrB_no : ptrB noP = List.replicate 16 0 := by decide +kernel
theorem write_no : ptr_Write noP = some (ptrB noP, 0) := by decide +kernel
theorem ptr_Write_ok {p : Ptr} (h : okP p) : ptr_Write p = some (ptrB p, 0) := by
  rcases h with h | h
  · rw [h.eq]; exact write_no
  · exact ptr_Write_eq h
theorem Ptr.ext_iff' {a b : Ptr} : a = b ↔ (a.At = b.At ∧ a.Birth = b.Birth ∧ a.Iv = b.Iv ∧ a.Tag = b.Tag ∧ a.Sum = b.Sum) := by
  constructor
  · intro h; subst h; exact ⟨rfl, rfl, rfl, rfl, rfl⟩
  · intro h
    obtain ⟨a1, a2, a3, a4, a5⟩ := a
    obtain ⟨b1, b2, b3, b4, b5⟩ := b
    simp only at h
    obtain ⟨rfl, rfl, rfl, rfl, rfl⟩ := h
    rfl
instance : DecidableEq Ptr := fun a b => decidable_of_iff _ Ptr.ext_iff'.symm
theorem at5_no : at5 (ptrB noP) = noP := by decide +kernel
theorem at5_ptrB' {p : Ptr} (h : okP p) : at5 (ptrB p) = p := by
  rcases h with h | h
  · rw [h.eq]; exact at5_no
  · exact at5_ptrB h

/-! ### Rows -/
theorem flat_len (l : List Ptr) : ((l.map ptrB).flatten).length = 16 * l.length := by
  induction l with
  | nil => rfl
  | cons p r ih => rw [List.map_cons, List.flatten_cons, List.length_append, ih, ptrB_length, List.length_cons]; omega
def rowB (l : List Ptr) : List UInt8 := (l.map ptrB).flatten ++ List.replicate (256 - 16 * l.length) 0
theorem rowB_length {l : List Ptr} (h : l.length ≤ 16) : (rowB l).length = 256 := by rw [rowB, List.length_append, flat_len, List.length_replicate]; omega
def ptrsOf (b : List UInt8) : List Ptr := (chunks 16 b.length b).map at5
def rowsB (b : List UInt8) : List Ptr × Int := if ∀ p ∈ ptrsOf b, okP p then (ptrsOf b, 0) else ([], 8)
theorem chunks_row : ∀ (l : List Ptr) (k f : Nat), 16 * l.length + 16 * k ≤ f → chunks 16 f ((l.map ptrB).flatten ++ List.replicate (16 * k) 0) = l.map ptrB ++ List.replicate k (ptrB noP)
  | [], 0, f, _ => by simp [chunks_nil]
  | [], k + 1, 0, h => by omega
  | [], k + 1, f + 1, h => by
    have e : List.replicate (16 * (k + 1)) (0 : UInt8) = List.replicate 16 0 ++ List.replicate (16 * k) 0 := by rw [List.replicate_append_replicate]; congr 1; omega
    have ih := chunks_row [] k f (by simp at h ⊢; omega)
    simp only [List.map_nil, List.flatten_nil, List.nil_append] at ih ⊢
    rw [e, chunks_step (by simp), take_app _ _ (by simp), drop_app _ _ (by simp), ih, ptrB_no]; rfl
  | p :: l, k, 0, h => by simp at h
  | p :: l, k, f + 1, h => by
    have ih := chunks_row l k f (by simp at h; omega)
    rw [List.map_cons, List.flatten_cons, List.append_assoc]
    have hne : ptrB p ++ ((l.map ptrB).flatten ++ List.replicate (16 * k) 0) ≠ [] := by
      intro e
      have := congrArg List.length e
      rw [List.length_append, ptrB_length] at this
      simp at this
    rw [chunks_step hne, take_app _ _ (ptrB_length p), drop_app _ _ (ptrB_length p), ih]; rfl
theorem ptrsOf_row {l : List Ptr} (h : l.length ≤ 16) (hp : ∀ p ∈ l, okP p) : ptrsOf (rowB l) = l ++ List.replicate (16 - l.length) noP := by
  unfold ptrsOf
  rw [rowB_length h]
  unfold rowB
  rw [show 256 - 16 * l.length = 16 * (16 - l.length) by omega, chunks_row l _ _ (by omega), List.map_append, List.map_map, List.map_replicate, at5_no]
  congr 1
  conv => rhs; rw [← List.map_id l]
  exact List.map_congr_left (fun p hq => at5_ptrB' (hp p hq))
theorem okP_no : okP noP := .inl noP_none
theorem rowsB_row {l : List Ptr} (h : l.length ≤ 16) (hp : ∀ p ∈ l, okP p) : rowsB (rowB l) = (l ++ List.replicate (16 - l.length) noP, 0) := by
  unfold rowsB
  rw [ptrsOf_row h hp, if_pos]
  intro p hq
  rcases List.mem_append.1 hq with h | h
  · exact hp p h
  · rw [(List.mem_replicate.1 h).2]; exact okP_no
end Go.Ow

/-
  What is proved here: objects as blocks and back (obj), the pointers and objects below a root (set), in plain words.
-/
namespace Go.Ow
set_option linter.unusedVariables false
set_option linter.unusedSimpArgs false

/-! ### May an object be? -/
def okO (o : Object) : Prop := ((1 : Int) ≤ (o.Kind.toNat : Int) ∧ (o.Kind.toNat : Int) ≤ 7) ∧ (0 ≤ o.Links ∧ o.Links ≤ 255) ∧ (0 ≤ o.Size ∧ o.Size ≤ 3840) ∧ o.Data.length = 15 ∧ ∀ p ∈ o.Data, okP p
instance (o : Object) : Decidable (okO o) := by unfold okO; infer_instance
/-! ### As a block -/
def objB (o : Object) : List UInt8 := ([o.Kind, u8i o.Links] ++ leB o.Size.toNat 2) ++ List.replicate 12 0 ++ (rowB o.Data).take 240
def noO : Object := ⟨0, 0, 0, []⟩
def objOf (b : List UInt8) : Object := ⟨b.getD 0 0, ((b.getD 1 0).toNat : Int), (numB ((b.drop 2).take 2) : Int), (ptrsOf (b.drop 16 ++ List.replicate 16 0)).take 15⟩
def readO (b : List UInt8) : Object × Int :=
  if (rowsB (b.drop 16 ++ List.replicate 16 0)).2 = 0 ∧ (b.take 16).drop 4 = List.replicate 12 0 ∧ okO (objOf b) then (objOf b, 0) else (noO, 8)
theorem u8i_toNat {n : Int} (h : 0 ≤ n ∧ n ≤ 255) : ((u8i n).toNat : Int) = n := by
  obtain ⟨k, rfl⟩ := Int.eq_ofNat_of_zero_le h.1
  rw [u8i_nat]
  simp only [UInt8.toNat_ofNat']
  omega
theorem readO_objB {o : Object} (h : okO o) : readO (objB o) = (o, 0) := by
  obtain ⟨h1, h2, h3, h4, h5⟩ := h
  have hw : objB o = [o.Kind, u8i o.Links] ++ (leB o.Size.toNat 2 ++ (List.replicate 12 0 ++ (rowB o.Data).take 240)) := by simp [objB]
  have d4 : (objB o).drop 4 = List.replicate 12 0 ++ (rowB o.Data).take 240 := by
    unfold objB
    rw [List.append_assoc]; exact drop_app _ _ (by rw [List.length_append, Zu]; rfl)
  have d16 : (objB o).drop 16 = (rowB o.Data).take 240 := by
    rw [show 16 = 4 + 12 from rfl, ← List.drop_drop, d4]; exact drop_app _ _ (by simp)
  have hrow : (rowB o.Data).take 240 ++ List.replicate 16 0 = rowB o.Data := by
    unfold rowB
    rw [take_app _ _ (by rw [flat_len, h4]), h4]
  have hrs := rowsB_row (l := o.Data) (by omega) h5
  have hps := ptrsOf_row (l := o.Data) (by omega) h5
  have ho : objOf (objB o) = o := by
    obtain ⟨K, L, S, D⟩ := o
    unfold objOf
    rw [d16, hrow, hps]
    have e1 : (objB ⟨K, L, S, D⟩).getD 0 0 = K := rfl
    have e2 : (objB ⟨K, L, S, D⟩).getD 1 0 = u8i L := rfl
    have e3 : ((objB ⟨K, L, S, D⟩).drop 2).take 2 = leB S.toNat 2 := by
      rw [hw]
      show List.take 2 (leB S.toNat 2 ++ (List.replicate 12 0 ++ (rowB D).take 240)) = _
      exact take_app _ _ (Zu _ _)
    have hS : S.toNat < 256 ^ 2 := by
      have h3' : 0 ≤ S ∧ S ≤ 3840 := h3
      have : (256 : Nat) ^ 2 = 65536 := rfl
      omega
    rw [e1, e2, e3, u8i_toNat h2, numB_leB hS, Int.toNat_of_nonneg h3.1]
    congr 1
    exact take_app D _ h4
  unfold readO
  rw [ho, if_pos]
  refine ⟨?_, ?_, h1, h2, h3, h4, h5⟩
  · rw [d16, hrow, hrs]
  · have : ((objB o).take 16).drop 4 = ((objB o).drop 4).take 12 := by rw [List.drop_take]
    rw [this, d4, take_app _ _ (by simp)]

/-! ### Below a root -/
def oneS (s : Store) (p : Ptr) : Object × Int := if (lookS s p).2 = 0 then readO (lookS s p).1 else (noO, (lookS s p).2)
end Go.Ow

/-
  What is proved here: what is told below a root (set.Walk), in plain words.
-/
namespace Go.Ow
set_option linter.unusedVariables false
set_option linter.unusedSimpArgs false

end Go.Ow

/-
  What is proved here: the chapter's dataset is made, and told; the law SetNames, in plain words.
-/
namespace Go.Ow
set_option linter.unusedVariables false
set_option linter.unusedSimpArgs false

theorem PutAt.waits {s : Store} {p : Ptr} {b : List UInt8} {t : Store} {q : Ptr} {j : Nat} (h : PutAt s p b t q j) : t.Disk.Waits.length = s.Disk.Waits.length + 1 := by rw [h.out]; simp
def dataM (p q : Ptr) : List Ptr := [p, noP, noP, noP, q, noP, noP, noP, noP, noP, noP, noP, noP, noP, noP]
structure Made (s : Store) (root at' p q : Ptr) : Prop where
  ok : OKSt s
  hr : okR root
  ha : okR at'
  hp : okR p
  hq : okR q
  rb : root.Birth = 5
  ab : at'.Birth = 5
  pb : p.Birth = 3
  qb : q.Birth = 5
  lr : lookS s root = (rowB [noP, noP, at'], 0)
  la : lookS s at' = (objB ⟨1, 0, 0, dataM p q⟩, 0)
theorem okO_data {p q : Ptr} (hp : okR p) (hq : okR q) : okO ⟨1, 0, 0, dataM p q⟩ := by
  refine ⟨⟨by show (1 : Int) ≤ ((1 : UInt8).toNat : Int); decide, by show ((1 : UInt8).toNat : Int) ≤ 7; decide⟩, ⟨Int.le_refl _, by show (0 : Int) ≤ 255; decide⟩, ⟨Int.le_refl _, by show (0 : Int) ≤ 3840; decide⟩, rfl, fun x hx => ?_⟩
  have : x = p ∨ x = q ∨ x = noP := by simp [dataM] at hx; rcases hx with h | h | h | h <;> simp [h]
  rcases this with rfl | rfl | rfl
  · exact .inr hp
  · exact .inr hq
  · exact okP_no
section told
variable {s : Store} {root at' p q : Ptr} (h : Made s root at' p q)
include h
theorem Made.one : oneS s at' = (⟨1, 0, 0, dataM p q⟩, 0) := by
  unfold oneS
  rw [h.la, if_pos rfl, readO_objB (okO_data h.hp h.hq)]
end told
end Go.Ow

/-
  What is proved here: the law SetYoung, in plain words.
-/
namespace Go.Ow
set_option linter.unusedVariables false
set_option linter.unusedSimpArgs false

end Go.Ow

/-
  What is proved here: the law SetParts, in plain words.
-/
namespace Go.Ow
set_option linter.unusedVariables false
set_option linter.unusedSimpArgs false

end Go.Ow

/-
  What is proved here: the law SetLater, in plain words: what is told above a later birth is a part of what is told above an earlier one, in order.
-/
namespace Go.Ow
set_option linter.unusedVariables false
set_option linter.unusedSimpArgs false

end Go.Ow

/-
  What is proved here: the law SetAlone, in plain words: a block that is laid changes nothing that is told below a root whose blocks are all taken.
-/
namespace Go.Ow
set_option linter.unusedVariables false
set_option linter.unusedSimpArgs false

section
variable {s : Store} {p : Ptr} {b : List UInt8} {t : Store} {q : Ptr} {j : Nat}
end
end Go.Ow

/-
  What is proved here: the document's sum of bytes (charterhouseref02) is the program's (mix.Sum), in plain words.
-/
namespace Go.Ow
set_option linter.unusedVariables false
set_option linter.unusedSimpArgs false

/-! ### turning to the left -/
def rotN (x k : Nat) : Nat := x % 2 ^ (32 - k) * 2 ^ k + x / 2 ^ (32 - k)
theorem rot_step {x : Nat} (h : x < 4294967296) (i : Nat) (hi : i < 15) : 2 * rotN x i % 4294967296 + 2 * rotN x i / 4294967296 = rotN x (i + 1) ∧ rotN x i < 4294967296 := by
  have : i = 0 ∨ i = 1 ∨ i = 2 ∨ i = 3 ∨ i = 4 ∨ i = 5 ∨ i = 6 ∨ i = 7 ∨ i = 8 ∨ i = 9 ∨ i = 10 ∨ i = 11 ∨ i = 12 ∨ i = 13 ∨ i = 14 := by omega
  rcases this with rfl | rfl | rfl | rfl | rfl | rfl | rfl | rfl | rfl | rfl | rfl | rfl | rfl | rfl | rfl <;>
    (simp only [rotN, Nat.reduceSub, Nat.reducePow, Nat.reduceAdd]; omega)
theorem left_step {y : Nat} (h : y < 4294967296) : w64 (((w64 ((y : Int) * 2)).tmod 4294967296) + (w64 ((w64 ((y : Int) * 2)).tdiv 4294967296))) = ((2 * y % 4294967296 + 2 * y / 4294967296 : Nat) : Int) := by
  have e : (y : Int) * 2 = ((2 * y : Nat) : Int) := by omega
  rw [e, w64_of (n := ((2 * y : Nat) : Int)) (by omega) (by omega), Int.tmod_eq_emod_of_nonneg (by omega), Int.tdiv_eq_ediv_of_nonneg (by omega), w64_of (n := ((2 * y : Nat) : Int) / 4294967296) (by omega) (by omega), w64_of (by omega) (by omega)]
  omega
theorem ref_left_run {x n : Nat} (h : x < 4294967296) (hn : n ≤ 15) : ∀ (k i f : Nat), i + k = n → k < f → run (ref02_left_l1 (n : Int)) f ((rotN x i : Int), (i : Int)) = some (rotN x n : Int)
  | 0, i, f, hi, hf => by
    obtain ⟨f, rfl⟩ : ∃ q, f = q + 1 := ⟨f - 1, by omega⟩
    refine run_en ?_
    unfold ref02_left_l1
    dsimp only
    rw [decide_eq_false (by omega), cond_false, show i = n by omega]
  | k + 1, i, f, hi, hf => by
    obtain ⟨f, rfl⟩ : ∃ q, f = q + 1 := ⟨f - 1, by omega⟩
    obtain ⟨h1, h2⟩ := rot_step h i (by omega)
    rw [run_st (s' := ((rotN x (i + 1) : Int), ((i + 1 : Nat) : Int))) (by
      unfold ref02_left_l1
      dsimp only
      rw [decide_eq_true (by omega), cond_true, left_step h2, h1, w64_of (n := (i : Int) + 1) (by omega) (by omega)]
      rfl)]
    exact ref_left_run h hn k (i + 1) f (by omega) (by omega)
theorem rotN_zero {x : Nat} (h : x < 4294967296) : rotN x 0 = x := by
  simp only [rotN, Nat.reduceSub, Nat.reducePow]; omega
theorem u32i_nat' (n : Nat) : u32i (n : Int) = UInt32.ofNat n := by
  unfold u32i
  apply UInt32.toNat_inj.1
  rw [UInt32.toNat_ofNat', UInt32.toNat_ofNat']; omega
theorem ref_left_eq (p : UInt32) {n : Nat} (hn : n ≤ 15) : ref02_left p (n : Int) = some (UInt32.ofNat (rotN p.toNat n)) := by
  have h : p.toNat < 4294967296 := p.toNat_lt
  unfold ref02_left
  have := ref_left_run h hn n 0 17 (by omega) (by omega)
  rw [rotN_zero h] at this
  rw [show loop (ref02_left_l1 (n : Int)) ((p.toNat : Int), 0) = some (rotN p.toNat n : Int) from loop_of (by decide) this, Option.bind_some, u32i_nat']
theorem or_rot (p : UInt32) {k : Nat} (h1 : 1 ≤ k) (hk : k ≤ 15) : sl32 p k ||| sr32 p (32 - k) = UInt32.ofNat (rotN p.toNat k) := by
  have h : p.toNat < 4294967296 := p.toNat_lt
  apply UInt32.toNat_inj.1
  rw [UInt32.toNat_or]
  unfold sl32 sr32
  rw [UInt32.toNat_ofNat', UInt32.toNat_ofNat', UInt32.toNat_ofNat', Nat.min_eq_left (by omega), Nat.min_eq_left (by omega)]
  have e : (2 : Nat) ^ 32 = 2 ^ k * 2 ^ (32 - k) := by rw [← Nat.pow_add, show k + (32 - k) = 32 by omega]
  have h2 : p.toNat / 2 ^ (32 - k) < 2 ^ k := by rw [Nat.div_lt_iff_lt_mul (Nat.two_pow_pos _), ← e]; exact h
  have h3 : p.toNat * 2 ^ k % 2 ^ 32 = 2 ^ k * (p.toNat % 2 ^ (32 - k)) := by rw [e, Nat.mul_comm p.toNat, Nat.mul_mod_mul_left]
  have h4 : p.toNat / 2 ^ (32 - k) % 2 ^ 32 = p.toNat / 2 ^ (32 - k) := Nat.mod_eq_of_lt (Nat.lt_of_le_of_lt (Nat.div_le_self _ _) h)
  have h5 : rotN p.toNat k < 2 ^ 32 := by
    unfold rotN
    have : p.toNat % 2 ^ (32 - k) < 2 ^ (32 - k) := Nat.mod_lt _ (Nat.two_pow_pos _)
    have := Nat.mul_le_mul_right (2 ^ k) (show p.toNat % 2 ^ (32 - k) + 1 ≤ 2 ^ (32 - k) from this)
    rw [Nat.add_mul, Nat.one_mul, Nat.mul_comm (2 ^ (32 - k)), ← e] at this
    omega
  rw [h3, h4, ← Nat.two_pow_add_eq_or_of_lt h2, Nat.mod_eq_of_lt h5]
  unfold rotN
  rw [Nat.mul_comm (2 ^ k)]
theorem rl_eq (p : UInt32) : math_bits_RotateLeft32 p 15 = some (UInt32.ofNat (rotN p.toNat 15)) ∧ math_bits_RotateLeft32 p 11 = some (UInt32.ofNat (rotN p.toNat 11)) ∧
    math_bits_RotateLeft32 p 9 = some (UInt32.ofNat (rotN p.toNat 9)) ∧ math_bits_RotateLeft32 p 6 = some (UInt32.ofNat (rotN p.toNat 6)) := by
  refine ⟨?_, ?_, ?_, ?_⟩
  · rw [← or_rot p (k := 15) (by omega) (by omega)]; rfl
  · rw [← or_rot p (k := 11) (by omega) (by omega)]; rfl
  · rw [← or_rot p (k := 9) (by omega) (by omega)]; rfl
  · rw [← or_rot p (k := 6) (by omega) (by omega)]; rfl
theorem ref_plus_eq (a b : UInt32) : ref02_plus a b = some (a + b) := by
  have ha : a.toNat < 4294967296 := a.toNat_lt
  have hb : b.toNat < 4294967296 := b.toNat_lt
  unfold ref02_plus
  rw [w64_of (by omega) (by omega), Int.tmod_eq_emod_of_nonneg (by omega)]
  congr 1
  rw [show (((a.toNat : Int) + (b.toNat : Int)) % 4294967296) = (((a.toNat + b.toNat) % 4294967296 : Nat) : Int) by omega, u32i_nat']
  apply UInt32.toNat_inj.1
  rw [UInt32.toNat_ofNat', UInt32.toNat_add]; omega
/-- one turn -/
def turnP (x : A4 UInt32) : A4 UInt32 :=
  let a := x.e0 + x.e1
  let d := UInt32.ofNat (rotN (x.e3 ^^^ a).toNat 15)
  let c := x.e2 + d
  let b := UInt32.ofNat (rotN (x.e1 ^^^ c).toNat 11)
  let a2 := a + b
  let d2 := UInt32.ofNat (rotN (d ^^^ a2).toNat 9)
  let c2 := c + d2
  ⟨a2, UInt32.ofNat (rotN (b ^^^ c2).toNat 6), c2, d2⟩
theorem turned_eq (x : A4 UInt32) : mix_words_turned x = some (turnP x) := by
  unfold mix_words_turned mix_words_turned_1
  simp only [(rl_eq _).1, (rl_eq _).2.1, (rl_eq _).2.2.1, (rl_eq _).2.2.2, Option.bind_some]
  rfl
theorem ref_turn_eq (x : A4 UInt32) : ref02_Turn x = some (turnP x) := by
  unfold ref02_Turn
  simp only [ref_plus_eq, Option.bind_some, show ∀ p, ref02_left p 15 = some (UInt32.ofNat (rotN p.toNat 15)) from fun p => ref_left_eq p (n := 15) (by omega), show ∀ p, ref02_left p 11 = some (UInt32.ofNat (rotN p.toNat 11)) from fun p => ref_left_eq p (n := 11) (by omega),
    show ∀ p, ref02_left p 9 = some (UInt32.ofNat (rotN p.toNat 9)) from fun p => ref_left_eq p (n := 9) (by omega), show ∀ p, ref02_left p 6 = some (UInt32.ofNat (rotN p.toNat 6)) from fun p => ref_left_eq p (n := 6) (by omega)]
  rfl
def itP : Nat → A4 UInt32 → A4 UInt32
  | 0, x => x
  | k + 1, x => itP k (turnP x)
theorem often_run {N : Nat} (hN : N ≤ 100) : ∀ (k i f : Nat) (x : A4 UInt32), i + k = N → k < f → run (mix_words_often_l1 (N : Int)) f (x.e0, x.e1, x.e2, x.e3, (i : Int)) = some ((itP k x).e0, (itP k x).e1, (itP k x).e2, (itP k x).e3)
  | 0, i, f, x, hi, hf => by
    obtain ⟨f, rfl⟩ : ∃ q, f = q + 1 := ⟨f - 1, by omega⟩
    refine run_en ?_
    unfold mix_words_often_l1
    dsimp only
    rw [decide_eq_false (by omega)]; rfl
  | k + 1, i, f, x, hi, hf => by
    obtain ⟨f, rfl⟩ : ∃ q, f = q + 1 := ⟨f - 1, by omega⟩
    rw [run_st (s' := ((turnP x).e0, (turnP x).e1, (turnP x).e2, (turnP x).e3, ((i + 1 : Nat) : Int))) (by
      unfold mix_words_often_l1
      dsimp only
      rw [decide_eq_true (by omega), cond_true, turned_eq, Option.bind_some, w64_of (by omega) (by omega)]; rfl)]
    exact often_run hN k (i + 1) f (turnP x) (by omega) (by omega)
theorem often_eq (x : A4 UInt32) {N : Nat} (hN : N ≤ 100) : mix_words_often x (N : Int) = some (itP N x) := by
  unfold mix_words_often
  rw [show loop (mix_words_often_l1 (N : Int)) (x.e0, x.e1, x.e2, x.e3, 0) = some ((itP N x).e0, (itP N x).e1, (itP N x).e2, (itP N x).e3) from loop_of (n := 102) (by decide) (often_run hN N 0 102 x (by omega) (by omega)), Option.bind_some]
end Go.Ow

/-
  What is proved here: the document's sum of bytes is the program's, second half: words, padding, rounds.
-/
namespace Go.Ow
set_option linter.unusedVariables false
set_option linter.unusedSimpArgs false

def padB (b : List UInt8) : List UInt8 := (b ++ [1]) ++ List.replicate (pad8 (b.length + 1)) 0
theorem padB_length (b : List UInt8) : (padB b).length % 8 = 0 ∧ b.length < (padB b).length ∧ (padB b).length ≤ b.length + 8 := by
  unfold padB pad8
  simp only [List.length_append, List.length_cons, List.length_nil, List.length_replicate]
  omega
theorem four_run : ∀ (k f : Nat) (s : List UInt8), pad8 s.length = k → k < f → s.length ≤ 100000 → run mix_four_l1 f s = some (s ++ List.replicate k 0)
  | 0, f, s, hk, hf, hs => by
    obtain ⟨f, rfl⟩ : ∃ q, f = q + 1 := ⟨f - 1, by omega⟩
    refine run_en ?_
    unfold mix_four_l1
    unfold pad8 at hk
    rw [Int.tmod_eq_emod_of_nonneg (by omega), decide_eq_true (show (s.length : Int) % 8 = 0 by omega)]
    simp
  | k + 1, f, s, hk, hf, hs => by
    obtain ⟨f, rfl⟩ : ∃ q, f = q + 1 := ⟨f - 1, by omega⟩
    have hk' := hk
    unfold pad8 at hk'
    have h8 : s.length % 8 ≠ 0 := by omega
    have hp := pad8_step h8
    rw [run_st (s' := s ++ [0]) (by
      unfold mix_four_l1
      rw [Int.tmod_eq_emod_of_nonneg (by omega), decide_eq_false (show ¬ (s.length : Int) % 8 = 0 by omega)]
      simp only [Bool.not_false, cond_true]
      rw [YA (by simp only [List.length_cons, List.length_nil, LIM]; omega)])]
    rcases Nat.lt_or_ge s.length 100000 with hl | hl
    · rw [four_run k f (s ++ [0]) (by simp only [List.length_append, List.length_cons, List.length_nil, Nat.zero_add]; omega) (by omega) (by simp only [List.length_append, List.length_cons, List.length_nil]; omega), List.append_assoc]
      rfl
    · have : s.length = 100000 := by omega
      rw [this] at h8; exact absurd rfl h8
theorem word_num {y0 y1 y2 y3 : UInt8} : y0.toUInt32 + (256 : UInt32) * y1.toUInt32 + (65536 : UInt32) * y2.toUInt32 + (16777216 : UInt32) * y3.toUInt32 = UInt32.ofNat (numB [y0, y1, y2, y3]) := by
  apply UInt32.toNat_inj.1
  have h0 := y0.toNat_lt; have h1 := y1.toNat_lt; have h2 := y2.toNat_lt; have h3 := y3.toNat_lt
  simp only [UInt32.toNat_add, UInt32.toNat_mul, UInt8.toNat_toUInt32, UInt32.toNat_ofNat', numB, show (256 : UInt32).toNat = 256 from rfl, show (65536 : UInt32).toNat = 65536 from rfl, show (16777216 : UInt32).toNat = 16777216 from rfl]
  omega
theorem byteAt_eq (b : List UInt8) (i : Nat) : ref02_byteAt b (i : Int) = some (((padB b).getD i 0).toUInt32) := by
  unfold ref02_byteAt
  by_cases c : i < b.length
  · rw [decide_eq_true (by omega), cond_true, Zx _ c, List.getD_eq_getElem?_getD]
    unfold padB
    rw [List.append_assoc, List.getElem?_append_left c, List.getElem?_eq_getElem c]; rfl
  · rw [decide_eq_false (by omega), cond_false]
    by_cases c1 : i = b.length
    · rw [decide_eq_true (by omega), cond_true, List.getD_eq_getElem?_getD]
      unfold padB
      rw [List.append_assoc, List.getElem?_append_right (by omega), c1, Nat.sub_self]; rfl
    · rw [decide_eq_false (by omega), cond_false, List.getD_eq_getElem?_getD]
      unfold padB
      rw [List.getElem?_append_right (by simp; omega), List.getElem?_replicate]
      split <;> rfl
theorem take4 {l : List UInt8} {i : Nat} (h : i + 4 ≤ l.length) : (l.drop i).take 4 = [l.getD i 0, l.getD (i + 1) 0, l.getD (i + 2) 0, l.getD (i + 3) 0] := by
  simp only [List.getD_eq_getElem?_getD]
  rw [List.getElem?_eq_getElem (by omega), List.getElem?_eq_getElem (by omega), List.getElem?_eq_getElem (by omega), List.getElem?_eq_getElem (by omega)]
  rw [List.drop_eq_getElem_cons (by omega : i < l.length), List.drop_eq_getElem_cons (by omega : i + 1 < l.length), List.drop_eq_getElem_cons (by omega : i + 1 + 1 < l.length), List.drop_eq_getElem_cons (by omega : i + 1 + 1 + 1 < l.length)]
  rfl
theorem ref_word_eq {b : List UInt8} (hb : b.length ≤ 100000) {i : Nat} (h : i + 4 ≤ (padB b).length) : ref02_word b (i : Int) = some (UInt32.ofNat (numB (((padB b).drop i).take 4))) := by
  have hl := (padB_length b).2.2
  unfold ref02_word
  rw [byteAt_eq, Option.bind_some, w64_of (n := (i : Int) + 1) (by omega) (by omega), show (i : Int) + 1 = ((i + 1 : Nat) : Int) by omega, byteAt_eq, Option.bind_some, w64_of (n := (i : Int) + 2) (by omega) (by omega), show (i : Int) + 2 = ((i + 2 : Nat) : Int) by omega, byteAt_eq, Option.bind_some,
    w64_of (n := (i : Int) + 3) (by omega) (by omega), show (i : Int) + 3 = ((i + 3 : Nat) : Int) by omega, byteAt_eq, Option.bind_some, take4 h, word_num]
theorem number_eq {b : List UInt8} (h : b.length = 4) : mix_number b = some (UInt32.ofNat (numB b)) := by
  unfold mix_number
  rw [show (0 : Int) = ((0 : Nat) : Int) from rfl, show (4 : Int) = ((4 : Nat) : Int) from rfl, code_Get_eq (by omega) (by omega) (by omega) (by omega), Option.bind_some, List.drop_zero, List.take_of_length_le (by omega), u32i_nat']
/-- one round -/
def roundP (x : A4 UInt32) (y : List UInt8) : A4 UInt32 := itP 4 ⟨x.e0 ^^^ UInt32.ofNat (numB (y.take 4)), x.e1, x.e2 ^^^ UInt32.ofNat (numB ((y.drop 4).take 4)), x.e3⟩
theorem mix_round {y : List UInt8} (h : y.length = 8) (x : A4 UInt32) : mix_four_r2 y (x.e0, x.e1, x.e2, x.e3) = some (.inl ((roundP x y).e0, (roundP x y).e1, (roundP x y).e2, (roundP x y).e3)) := by
  have h1 : cut y 0 4 = y.take 4 := by simp [cut]
  have h2 : cut y 4 (y.length : Int) = (y.drop 4).take 4 := by
    unfold cut
    rw [Int.toNat_natCast, h]; rfl
  unfold mix_four_r2
  rw [slc_eq (by omega) (by omega) (by omega), h1, number_eq (by rw [List.length_take]; omega), Option.bind_some, Option.bind_some, slc_eq (by omega) (by omega) (by omega), h2, number_eq (by rw [List.length_take, List.length_drop]; omega), Option.bind_some,
    show (4 : Int) = ((4 : Nat) : Int) from rfl, often_eq _ (by omega), Option.bind_some]
  rfl
theorem mix_rounds : ∀ (l : List (List UInt8)) (x : A4 UInt32), (∀ y ∈ l, y.length = 8) → forL mix_four_r2 l (x.e0, x.e1, x.e2, x.e3) = some (.inl ((l.foldl roundP x).e0, (l.foldl roundP x).e1, (l.foldl roundP x).e2, (l.foldl roundP x).e3))
  | [], x, _ => rfl
  | y :: l, x, h => by
    rw [forL_cons (mix_round (h y (by simp)) x), mix_rounds l _ (fun z hz => h z (by simp [hz]))]; rfl
def startP : A4 UInt32 := ⟨1, 2, 3, 4⟩
def fourP (b : List UInt8) : A4 UInt32 :=
  let s := (chunks 8 (padB b).length (padB b)).foldl roundP startP
  itP 8 ⟨s.e0, s.e1 ^^^ UInt32.ofNat b.length, s.e2, s.e3⟩
theorem mix_four_eq {b : List UInt8} (h : b.length ≤ 10000) : mix_four b = some (fourP b) := by
  obtain ⟨p1, p2, p3⟩ := padB_length b
  unfold mix_four slices_Clone_byte slices_Clip_byte
  rw [YA (by simp only [List.length_nil, LIM]; omega)]
  simp only [Option.bind_some, List.nil_append]
  rw [slc_eq (by omega) (by omega) (by omega)]
  simp only [Option.bind_some]
  have hc : cut b 0 (b.length : Int) = b := by simp [cut]
  have hp := pad8_le (b.length + 1)
  rw [hc, YA (by simp only [List.length_cons, List.length_nil, LIM]; omega)]
  have h1 : loop mix_four_l1 (b ++ [1]) = some (padB b) := loop_of (n := 10) (by decide) (four_run (pad8 (b.length + 1)) 10 (b ++ [1]) (by simp) (by omega) (by simp; omega))
  rw [h1]
  simp only [Option.bind_some]
  unfold slices_Chunk_byte
  rw [if_pos ⟨by omega, by omega, by simp only [LIM]; omega⟩]
  simp only [Option.bind_some]
  rw [show ((1 : UInt32), (2 : UInt32), (3 : UInt32), (4 : UInt32)) = (startP.e0, startP.e1, startP.e2, startP.e3) from rfl, show (8 : Int).toNat = 8 from rfl, mix_rounds _ _ (fun y hy => chunks_len (n := 8) (by omega) (padB b).length (padB b) (Nat.le_refl _) p1 y hy)]
  simp only [Option.bind_some, Sum.elim_inl]
  rw [show (8 : Int) = ((8 : Nat) : Int) from rfl, often_eq _ (by omega), Option.bind_some, u32i_nat']
  rfl
theorem ref_four_run {b : List UInt8} (hb : b.length ≤ 10000) : ∀ (k f i : Nat) (x : A4 UInt32), (i + k) * 8 = (padB b).length → k < f →
    run (ref02_Four_l1 b) f (x.e0, x.e1, x.e2, x.e3, ((8 * i : Nat) : Int)) = some (((chunks 8 (8 * k) ((padB b).drop (8 * i))).foldl roundP x).e0, ((chunks 8 (8 * k) ((padB b).drop (8 * i))).foldl roundP x).e1, ((chunks 8 (8 * k) ((padB b).drop (8 * i))).foldl roundP x).e2, ((chunks 8 (8 * k) ((padB b).drop (8 * i))).foldl roundP x).e3)
  | 0, f, i, x, hi, hf => by
    obtain ⟨p1, p2, p3⟩ := padB_length b
    obtain ⟨f, rfl⟩ : ∃ q, f = q + 1 := ⟨f - 1, by omega⟩
    refine run_en ?_
    unfold ref02_Four_l1
    dsimp only
    rw [decide_eq_false (by omega)]; rfl
  | k + 1, f, i, x, hi, hf => by
    obtain ⟨p1, p2, p3⟩ := padB_length b
    obtain ⟨f, rfl⟩ : ∃ q, f = q + 1 := ⟨f - 1, by omega⟩
    have hne : (padB b).drop (8 * i) ≠ [] := fun e => by have := congrArg List.length e; rw [List.length_drop] at this; simp at this; omega
    have hst : chunks 8 (8 * (k + 1)) ((padB b).drop (8 * i)) = ((padB b).drop (8 * i)).take 8 :: chunks 8 (8 * k) ((padB b).drop (8 * (i + 1))) := by
      rw [show 8 * (k + 1) = (8 * k + 7) + 1 by omega, chunks_step hne, List.drop_drop, show 8 * i + 8 = 8 * (i + 1) by omega]
      congr 1
      exact chunks_fuel (by decide) (by rw [List.length_drop]; omega) (by rw [List.length_drop]; omega)
    rw [hst, List.foldl_cons]
    have e0 : (((padB b).drop (8 * i)).take 8).take 4 = ((padB b).drop (8 * i)).take 4 := by rw [List.take_take]; rfl
    have e1 : ((((padB b).drop (8 * i)).take 8).drop 4).take 4 = ((padB b).drop (8 * i + 4)).take 4 := by rw [List.drop_take, List.take_take, List.drop_drop]; rfl
    have hr : roundP x (((padB b).drop (8 * i)).take 8) = turnP (turnP (turnP (turnP ⟨x.e0 ^^^ UInt32.ofNat (numB (((padB b).drop (8 * i)).take 4)), x.e1, x.e2 ^^^ UInt32.ofNat (numB (((padB b).drop (8 * i + 4)).take 4)), x.e3⟩))) := by
      unfold roundP; rw [e0, e1]; rfl
    rw [hr, run_st (s' := _) (by
      unfold ref02_Four_l1
      dsimp only
      rw [decide_eq_true (by omega), cond_true, ref_word_eq (by omega) (by omega), Option.bind_some, Option.bind_some, w64_of (n := ((8 * i : Nat) : Int) + 4) (by omega) (by omega), show ((8 * i : Nat) : Int) + 4 = ((8 * i + 4 : Nat) : Int) by omega, ref_word_eq (by omega) (by omega), Option.bind_some, Option.bind_some,
        ref_turn_eq, Option.bind_some, ref_turn_eq, Option.bind_some, ref_turn_eq, Option.bind_some, ref_turn_eq, Option.bind_some, w64_of (by omega) (by omega), show ((8 * i : Nat) : Int) + 8 = ((8 * (i + 1) : Nat) : Int) by omega])]
    exact ref_four_run hb k f (i + 1) _ (by omega) (by omega)
theorem ref_four_eq {b : List UInt8} (hb : b.length ≤ 10000) : ref02_Four b = some (fourP b) := by
  obtain ⟨p1, p2, p3⟩ := padB_length b
  unfold ref02_Four
  have h := ref_four_run hb ((padB b).length / 8) 2000 0 startP (by omega) (by omega)
  rw [show 8 * ((padB b).length / 8) = (padB b).length by omega, show 8 * 0 = 0 from rfl, List.drop_zero] at h
  rw [show loop (ref02_Four_l1 b) ((1 : UInt32), (2 : UInt32), (3 : UInt32), (4 : UInt32), 0) = _ from loop_of (by decide) h, Option.bind_some]
  simp only [ref_turn_eq, Option.bind_some, u32i_nat']
  rfl
theorem ref_sum_eq {b : List UInt8} (hb : b.length ≤ 10000) : ref02_Sum b = some (sumOf b) := by
  rw [← mix_Sum_eq hb]
  unfold ref02_Sum mix_Sum
  rw [ref_four_eq hb, mix_four_eq hb]
end Go.Ow

/-
  What is proved here: the document's copies, its bounds, and what it sees on a disk (charterhouseref09, 12, 13), in plain words.
-/
namespace Go.Ow
set_option linter.unusedVariables false
set_option linter.unusedSimpArgs false

/-- not too large -/
structure SmallD (d : Disk) : Prop where
  blocks : d.Blocks.length ≤ 2000000
  waits : d.Waits.length ≤ 2000000
  block : ∀ b ∈ d.Blocks, b.length ≤ 2000000
  wait : ∀ w ∈ d.Waits, w.Data.length ≤ 2000000
theorem lim_le' {n : Nat} (h : n ≤ 2000000) : n ≤ LIM := Nat.le_trans h (by decide)
theorem chkN_none {α β : Type} (k : Option β) : chkN (none : Option α) k = k := rfl
theorem map_same {α : Type} {f : α → α} (h : ∀ x, f x = x) (l : List α) : l.map f = l := by
  rw [show f = id from funext h, List.map_id]
theorem rtwin_l1 {d : Disk} (hs : SmallD d) : ∀ (k i f : Nat), i + k = d.Blocks.length → k < f → run (ref09_Twin_l1 d) f ((d.Blocks.take i).map some ++ List.replicate k none, i) = some (d.Blocks.map some)
  | 0, i, f, hi, hf => by
    obtain ⟨f, rfl⟩ : ∃ q, f = q + 1 := ⟨f - 1, by omega⟩
    refine run_en ?_
    unfold ref09_Twin_l1
    dsimp only
    rw [decide_eq_false (by omega), cond_false, List.take_of_length_le (by omega), List.replicate_zero, List.append_nil]
  | k + 1, i, f, hi, hf => by
    obtain ⟨f, rfl⟩ : ∃ q, f = q + 1 := ⟨f - 1, by omega⟩
    have hlt : i < d.Blocks.length := by omega
    have hb := hs.block _ (List.getElem_mem hlt)
    have hlen : ((d.Blocks.take i).map some).length = i := by rw [List.length_map, List.length_take]; omega
    have hS : ((d.Blocks.take i).map some ++ List.replicate (k + 1) (none : Option (List UInt8)))[i]? = some none := by
      rw [List.getElem?_append_right (by omega), hlen, Nat.sub_self]; rfl
    have hset : ((d.Blocks.take i).map some ++ List.replicate (k + 1) (none : Option (List UInt8))).set i (some d.Blocks[i]) = (d.Blocks.take (i + 1)).map some ++ List.replicate k none := by
      rw [List.set_append_right _ _ (by omega), hlen, Nat.sub_self, List.replicate_succ, List.set_cons_zero, List.take_succ_eq_append_getElem hlt, List.map_append, List.append_assoc]; rfl
    rw [run_st (s' := ((d.Blocks.take (i + 1)).map some ++ List.replicate k none, i + 1)) (by
      unfold ref09_Twin_l1
      dsimp only
      rw [decide_eq_true (by omega), cond_true, Zx _ hlt, idx_eq (y := none) ⟨by omega, by rw [Int.toNat_natCast]; exact hS⟩]
      rw [chkN_none, YA (by simp only [List.length_nil, Nat.zero_add]; exact lim_le' hb), List.nil_append, chk_eq ⟨by omega, by rw [Int.toNat_natCast, List.length_append, hlen, List.length_replicate]; omega⟩, setI_eq (by omega) (by rw [Int.toNat_natCast, List.length_append, hlen, List.length_replicate]; omega), Int.toNat_natCast, hset])]
    exact rtwin_l1 hs k (i + 1) f (by omega) (by omega)
theorem rtwin_l2 {d : Disk} (hs : SmallD d) : ∀ (k i f : Nat), i + k = d.Waits.length → k < f → run (ref09_Twin_l2 d) f ((d.Waits.take i).map (fun w => (⟨w.At, some w.Data⟩ : WriteO)) ++ List.replicate k ⟨0, none⟩, i) = some (d.Waits.map fun w => ⟨w.At, some w.Data⟩)
  | 0, i, f, hi, hf => by
    obtain ⟨f, rfl⟩ : ∃ q, f = q + 1 := ⟨f - 1, by omega⟩
    refine run_en ?_
    unfold ref09_Twin_l2
    dsimp only
    rw [decide_eq_false (by omega), cond_false, List.take_of_length_le (by omega), List.replicate_zero, List.append_nil]
  | k + 1, i, f, hi, hf => by
    obtain ⟨f, rfl⟩ : ∃ q, f = q + 1 := ⟨f - 1, by omega⟩
    have hlt : i < d.Waits.length := by omega
    have hb := hs.wait _ (List.getElem_mem hlt)
    have hlen : ((d.Waits.take i).map (fun w => (⟨w.At, some w.Data⟩ : WriteO))).length = i := by rw [List.length_map, List.length_take]; omega
    have hS : ∀ z : WriteO, ((d.Waits.take i).map (fun w => (⟨w.At, some w.Data⟩ : WriteO)) ++ z :: List.replicate k ⟨0, none⟩)[i]? = some z := fun z => by
      rw [List.getElem?_append_right (by omega), hlen, Nat.sub_self]; rfl
    have hset : ∀ z y : WriteO, ((d.Waits.take i).map (fun w => (⟨w.At, some w.Data⟩ : WriteO)) ++ z :: List.replicate k ⟨0, none⟩).set i y = (d.Waits.take i).map (fun w => (⟨w.At, some w.Data⟩ : WriteO)) ++ y :: List.replicate k ⟨0, none⟩ := fun z y => by
      rw [List.set_append_right _ _ (by omega), hlen, Nat.sub_self, List.set_cons_zero]
    have hl2 : ∀ z : WriteO, i < ((d.Waits.take i).map (fun w => (⟨w.At, some w.Data⟩ : WriteO)) ++ z :: List.replicate k ⟨0, none⟩).length := fun z => by
      rw [List.length_append, hlen, List.length_cons]; omega
    have hend : (d.Waits.take i).map (fun w => (⟨w.At, some w.Data⟩ : WriteO)) ++ (⟨d.Waits[i].At, some d.Waits[i].Data⟩ : WriteO) :: List.replicate k ⟨0, none⟩ = (d.Waits.take (i + 1)).map (fun w => (⟨w.At, some w.Data⟩ : WriteO)) ++ List.replicate k ⟨0, none⟩ := by
      rw [List.take_succ_eq_append_getElem hlt, List.map_append, List.append_assoc]; rfl
    rw [run_st (s' := ((d.Waits.take (i + 1)).map (fun w => (⟨w.At, some w.Data⟩ : WriteO)) ++ List.replicate k ⟨0, none⟩, i + 1)) (by
      unfold ref09_Twin_l2
      dsimp only
      rw [List.replicate_succ, decide_eq_true (by omega), cond_true, Zx _ hlt, idx_eq (y := ⟨0, none⟩) ⟨by omega, by rw [Int.toNat_natCast]; exact hS _⟩, setI_eq (by omega) (by rw [Int.toNat_natCast]; exact hl2 _), Int.toNat_natCast, hset,
        Zx _ hlt, idx_eq (y := ⟨d.Waits[i].At, none⟩) ⟨by omega, by rw [Int.toNat_natCast]; exact hS _⟩]
      dsimp only
      rw [chkN_none, YA (by simp only [List.length_nil, Nat.zero_add]; exact lim_le' hb), List.nil_append, idx_eq (y := ⟨d.Waits[i].At, none⟩) ⟨by omega, by rw [Int.toNat_natCast]; exact hS _⟩, setI_eq (by omega) (by rw [Int.toNat_natCast]; exact hl2 _), Int.toNat_natCast, hset, hend])]
    exact rtwin_l2 hs k (i + 1) f (by omega) (by omega)
theorem ref_twin9 {d : Disk} (hs : SmallD d) : ref09_Twin d = some d := by
  unfold ref09_Twin
  rw [mks_eq (lim_le' hs.blocks), mks_eq (lim_le' hs.waits), Option.bind_some]
  dsimp only
  rw [show loop (ref09_Twin_l1 d) (List.replicate d.Blocks.length none, 0) = some (d.Blocks.map some) from loop_of (n := 2000002) (by decide) (rtwin_l1 hs d.Blocks.length 0 2000002 (by omega) (by have := hs.blocks; omega)), Option.bind_some,
    show loop (ref09_Twin_l2 d) (List.replicate d.Waits.length ⟨0, none⟩, 0) = _ from loop_of (n := 2000002) (by decide) (rtwin_l2 hs d.Waits.length 0 2000002 (by omega) (by have := hs.waits; omega)), Option.bind_some]
  congr 1
  cases d with
  | mk B W =>
    congr 1
    · rw [List.map_map]; exact map_same (fun _ => rfl) _
    · rw [List.map_map]; exact map_same (fun _ => rfl) _
end Go.Ow

/-
  What is proved here: the document's bounds, and what it sees on a disk (charterhouseref09, 10, 12, 13, 15), in plain words.
-/
namespace Go.Ow
set_option linter.unusedVariables false
set_option linter.unusedSimpArgs false

theorem and_dec {p q : Prop} [Decidable p] [Decidable q] (k : Option Bool) (h : k = some (decide q)) : (bif decide p then k else some false) = some (decide (p ∧ q)) := by
  by_cases c : p
  · rw [decide_eq_true c, cond_true, h]; congr 1; exact decide_eq_decide.2 ⟨fun e => ⟨c, e⟩, fun e => e.2⟩
  · rw [decide_eq_false c, cond_false, decide_eq_false (fun e => c e.1)]
theorem ref_place_eq (n : Int) : ref09_place n = some (decide (0 ≤ n ∧ n < 256)) := by
  unfold ref09_place
  rw [and_dec (p := 0 ≤ n) (q := n < 256) _ rfl]; rfl
theorem may_l1 (d : Disk) : ∀ (k i f c : Nat), i + k = min d.Blocks.length 257 → k < f → c ≤ i → ∃ c' : Nat, run (ref09_May_l1 d) f ((c : Int), i) = some (c' : Int) ∧ c' ≤ 257 ∧ (c' = 0 ↔ c = 0 ∧ ∀ b ∈ (d.Blocks.drop i).take k, b.length = 256)
  | 0, i, f, c, hi, hf, hc => by
    obtain ⟨f, rfl⟩ : ∃ q, f = q + 1 := ⟨f - 1, by omega⟩
    refine ⟨c, run_en ?_, by omega, by simp⟩
    unfold ref09_May_l1
    dsimp only
    by_cases h : i < d.Blocks.length
    · rw [decide_eq_true (by omega), cond_true, decide_eq_false (by omega)]; rfl
    · rw [decide_eq_false (by omega)]; rfl
  | k + 1, i, f, c, hi, hf, hc => by
    obtain ⟨f, rfl⟩ : ∃ q, f = q + 1 := ⟨f - 1, by omega⟩
    have hlt : i < d.Blocks.length := by omega
    rw [List.drop_eq_getElem_cons hlt, List.take_succ_cons]
    by_cases h : (d.Blocks[i]).length = 256
    · obtain ⟨c', h1, h2, h3⟩ := may_l1 d k (i + 1) f c (by omega) (by omega) (by omega)
      refine ⟨c', ?_, h2, h3.trans ⟨fun e => ⟨e.1, fun b hb => ?_⟩, fun e => ⟨e.1, fun b hb => e.2 b (List.mem_cons_of_mem _ hb)⟩⟩⟩
      · rw [run_st (s' := ((c : Int), i + 1)) (by unfold ref09_May_l1; dsimp only; rw [decide_eq_true (by omega), cond_true, decide_eq_true (by omega), cond_true, Zx _ hlt, decide_eq_true (by omega)]; rfl)]; exact h1
      · rcases List.mem_cons.1 hb with rfl | hb
        · exact h
        · exact e.2 b hb
    · obtain ⟨c', h1, h2, h3⟩ := may_l1 d k (i + 1) f (c + 1) (by omega) (by omega) (by omega)
      refine ⟨c', ?_, h2, ⟨fun e => by have := (h3.1 e).1; omega, fun e => absurd (e.2 _ (List.mem_cons_self ..)) h⟩⟩
      rw [run_st (s' := (((c + 1 : Nat) : Int), i + 1)) (by unfold ref09_May_l1; dsimp only; rw [decide_eq_true (by omega), cond_true, decide_eq_true (by omega), cond_true, Zx _ hlt, decide_eq_false (by omega), w64_of (by omega) (by omega)]; rfl)]; exact h1
theorem okW_iff (w : Write) : okW w = true ↔ (0 ≤ w.At ∧ w.At < 256) ∧ w.Data.length = 256 := by
  unfold okW; rw [Bool.and_eq_true, decide_eq_true_eq, decide_eq_true_eq]
theorem may_l2 (d : Disk) : ∀ (k i f c : Nat), i + k = min d.Waits.length 4097 → k < f → c ≤ i + 257 → ∃ c' : Nat, run (ref09_May_l2 d) f ((c : Int), i) = some (c' : Int) ∧ (c' = 0 ↔ c = 0 ∧ ∀ w ∈ (d.Waits.drop i).take k, okW w = true)
  | 0, i, f, c, hi, hf, hc => by
    obtain ⟨f, rfl⟩ : ∃ q, f = q + 1 := ⟨f - 1, by omega⟩
    refine ⟨c, run_en ?_, by simp⟩
    unfold ref09_May_l2
    dsimp only
    by_cases h : i < d.Waits.length
    · rw [decide_eq_true (by omega), cond_true, decide_eq_false (by omega)]; rfl
    · rw [decide_eq_false (by omega)]; rfl
  | k + 1, i, f, c, hi, hf, hc => by
    obtain ⟨f, rfl⟩ : ∃ q, f = q + 1 := ⟨f - 1, by omega⟩
    have hlt : i < d.Waits.length := by omega
    rw [List.drop_eq_getElem_cons hlt, List.take_succ_cons]
    by_cases h : okW d.Waits[i] = true
    · obtain ⟨k1, k2⟩ := (okW_iff _).1 h
      obtain ⟨c', h1, h3⟩ := may_l2 d k (i + 1) f c (by omega) (by omega) (by omega)
      refine ⟨c', ?_, h3.trans ⟨fun e => ⟨e.1, fun b hb => ?_⟩, fun e => ⟨e.1, fun b hb => e.2 b (List.mem_cons_of_mem _ hb)⟩⟩⟩
      · rw [run_st (s' := ((c : Int), i + 1)) (by unfold ref09_May_l2; dsimp only; rw [decide_eq_true (by omega), cond_true, decide_eq_true (by omega), cond_true, Zx _ hlt, decide_eq_true (by omega), Bool.not_true, cond_false, Zx _ hlt, ref_place_eq, decide_eq_true k1]; rfl)]; exact h1
      · rcases List.mem_cons.1 hb with rfl | hb
        · exact h
        · exact e.2 b hb
    · obtain ⟨c', h1, h3⟩ := may_l2 d k (i + 1) f (c + 1) (by omega) (by omega) (by omega)
      refine ⟨c', ?_, ⟨fun e => by have := (h3.1 e).1; omega, fun e => absurd (e.2 _ (List.mem_cons_self ..)) h⟩⟩
      rw [run_st (s' := (((c + 1 : Nat) : Int), i + 1)) (by
        unfold ref09_May_l2; dsimp only
        rw [decide_eq_true (by omega), cond_true, decide_eq_true (by omega), cond_true, Zx _ hlt, w64_of (by omega) (by omega)]
        by_cases g : (d.Waits[i]).Data.length = 256
        · rw [decide_eq_true (by omega), Bool.not_true, cond_false, Zx _ hlt, ref_place_eq, decide_eq_false (fun e => h ((okW_iff _).2 ⟨e, g⟩))]; rfl
        · rw [decide_eq_false (by omega)]; rfl)]; exact h1
theorem ref_may9 (d : Disk) : ref09_May d = some (decide (OKD d)) := by
  unfold ref09_May
  obtain ⟨c, e1, hc, e2⟩ := may_l1 d (min d.Blocks.length 257) 0 300 0 (by omega) (by omega) (by omega)
  obtain ⟨c', e3, e4⟩ := may_l2 d (min d.Waits.length 4097) 0 4100 c (by omega) (by omega) (by omega)
  rw [show loop (ref09_May_l1 d) (0, 0) = some (c : Int) from loop_of (by decide) e1, Option.bind_some, show loop (ref09_May_l2 d) ((c : Int), 0) = some (c' : Int) from loop_of (by decide) e3, Option.bind_some]
  rw [List.drop_zero] at e2 e4
  by_cases h : OKD d
  · have hw : ∀ w ∈ d.Waits.take (min d.Waits.length 4097), okW w = true := fun w hw => h.2.2.2 w (List.mem_of_mem_take hw)
    have hb : ∀ b ∈ d.Blocks.take (min d.Blocks.length 257), b.length = 256 := fun b hb => h.2.2.1 b (List.mem_of_mem_take hb)
    have h0 : c' = 0 := e4.2 ⟨e2.2 ⟨rfl, hb⟩, hw⟩
    have hB := h.1
    have hW := h.2.1
    rw [decide_eq_true h, h0, decide_eq_true (show ((0 : Nat) : Int) = 0 from rfl), cond_true, decide_eq_true (by omega), cond_true, decide_eq_true (by omega)]; rfl
  · rw [decide_eq_false h]
    by_cases h0 : c' = 0
    · by_cases hB : d.Blocks.length = 256
      · by_cases hW : d.Waits.length ≤ 4096
        · exfalso
          obtain ⟨k1, k2⟩ := e4.1 h0
          obtain ⟨-, k3⟩ := e2.1 k1
          rw [List.take_of_length_le (by omega)] at k2 k3
          exact h ⟨hB, hW, k3, k2⟩
        · rw [decide_eq_true (show (c' : Int) = 0 by omega), cond_true, decide_eq_true (by omega), cond_true, decide_eq_false (by omega)]; rfl
      · rw [decide_eq_true (show (c' : Int) = 0 by omega), cond_true, decide_eq_false (by omega)]; rfl
    · rw [decide_eq_false (show ¬ (c' : Int) = 0 by omega)]; rfl
theorem ref_none (p : Ptr) : ref10_None p = some (decide (isNone p)) := by unfold ref10_None; rw [none_dec']
theorem ref_may10 (p : Ptr) : ref10_May p = some (decide (okP p)) := by
  unfold ref10_May
  rw [ref_none, Option.bind_some]
  have h : (bif decide (12 ≤ p.At) then bif decide (p.At < 256) then bif decide ((1 : UInt32) ≤ p.Birth) then some (decide (p.Birth ≤ (16777215 : UInt32))) else some false else some false else some false) = some (decide (okR p)) :=
    and_dec (p := 12 ≤ p.At) _ (and_dec (p := p.At < 256) _ (and_dec (p := (1 : UInt32) ≤ p.Birth) _ rfl))
  rw [h]
  by_cases c : isNone p
  · rw [decide_eq_true c, decide_eq_true (show okP p from .inl c)]; rfl
  · rw [decide_eq_false c]
    show some _ = _
    congr 1
    exact decide_eq_decide.2 ⟨.inr, fun e => e.resolve_left c⟩
end Go.Ow

/-
  What is proved here: what the document sees at a pointer, and how it reads pointers (charterhouseref09, 10, 13, 15), in plain words.
-/
namespace Go.Ow
set_option linter.unusedVariables false
set_option linter.unusedSimpArgs false

theorem layW_snoc (B : List (List UInt8)) (ws : List Write) (w : Write) : layW B (ws ++ [w]) = (layW B ws).set w.At.toNat w.Data := by
  unfold layW; rw [List.foldl_append]; rfl
theorem last_run (d : Disk) (hd : OKD d) (p : Nat) (hp : p < 256) : ∀ (k f : Nat), k ≤ d.Waits.length → k < f → ∃ r, run (ref09_last_l1 d [] (p : Int)) f ((k : Int) - 1) = some r ∧
    ((r < 0 ∧ (layW d.Blocks (d.Waits.take k)).getD p [] = d.Blocks.getD p []) ∨ ∃ j : Nat, ∃ hj : j < d.Waits.length, r = (j : Int) ∧ (layW d.Blocks (d.Waits.take k)).getD p [] = d.Waits[j].Data)
  | 0, f, hk, hf => by
    obtain ⟨f, rfl⟩ : ∃ q, f = q + 1 := ⟨f - 1, by omega⟩
    refine ⟨-1, run_en ?_, .inl ⟨by omega, rfl⟩⟩
    unfold ref09_last_l1
    rw [decide_eq_false (by omega)]; rfl
  | k + 1, f, hk, hf => by
    obtain ⟨f, rfl⟩ : ∃ q, f = q + 1 := ⟨f - 1, by omega⟩
    have hlt : k < d.Waits.length := by omega
    have hw := (okW_iff _).1 (hd.2.2.2 _ (List.getElem_mem hlt))
    have hL := hd.2.1
    have e1 : ((k + 1 : Nat) : Int) - 1 = (k : Int) := by omega
    rw [e1, List.take_succ_eq_append_getElem hlt, layW_snoc]
    by_cases c : (d.Waits[k]).At = (p : Int)
    · refine ⟨(k : Int), run_en ?_, .inr ⟨k, hlt, rfl, ?_⟩⟩
      · unfold ref09_last_l1
        rw [decide_eq_true (by omega), cond_true, Zx _ hlt, decide_eq_true c, cond_true]; rfl
      · rw [c, Int.toNat_natCast, getD_set (by rw [layW_length, hd.1]; omega), if_pos rfl]
    · obtain ⟨r, h1, h2⟩ := last_run d hd p hp k f (by omega) (by omega)
      refine ⟨r, ?_, ?_⟩
      · rw [run_st (s' := (k : Int) - 1) (by
          unfold ref09_last_l1
          rw [decide_eq_true (by omega), cond_true, Zx _ hlt, decide_eq_false c, cond_false, Option.bind_some, Sum.elim_inl, w64_of (by omega) (by omega)])]; exact h1
      · rw [getD_set (by rw [layW_length, hd.1]; have := hw.1; omega), if_neg (fun e => c (by rw [e, Int.toNat_of_nonneg hw.1.1]))]; exact h2
theorem app_nil {β : Type} {m : List UInt8} {k : List UInt8 → Option β} (h : m.length ≤ 2000000) : app [] m k = k m := by
  rw [YA (by simp only [List.length_nil, Nat.zero_add]; exact lim_le' h), List.nil_append]
theorem ref_seen9 {d : Disk} (hd : OKD d) (p : Nat) (hp : p < 256) : ref09_Seen d (p : Int) = some ((seenB d).getD p []) := by
  obtain ⟨r, h1, h2⟩ := last_run d hd p hp d.Waits.length 4100 (Nat.le_refl _) (by have := hd.2.1; omega)
  have hL := hd.2.1
  rw [List.take_of_length_le (Nat.le_refl _)] at h2
  unfold ref09_Seen ref09_left ref09_last
  rw [w64_of (by omega) (by omega), show loop (ref09_last_l1 d [] (p : Int)) ((d.Waits.length : Int) - 1) = some r from loop_of (by decide) h1, Option.bind_some, Option.bind_some]
  rcases h2 with ⟨hr, h2⟩ | ⟨j, hj, rfl, h2⟩
  · have hB : p < d.Blocks.length := by rw [hd.1]; exact hp
    have hb := hd.2.2.1 _ (List.getElem_mem hB)
    rw [decide_eq_true hr, cond_true, Zx _ hB, app_nil (by omega), Option.bind_some]
    unfold seenB
    rw [h2, List.getD_eq_getElem?_getD, List.getElem?_eq_getElem hB]; rfl
  · have hb := ((okW_iff _).1 (hd.2.2.2 _ (List.getElem_mem hj))).2
    rw [decide_eq_false (by omega), cond_false, Zx _ hj, app_nil (by omega), Option.bind_some]
    unfold seenB
    rw [h2]
theorem get_run (b : List UInt8) (hb : b.length ≤ 100) : ∀ (k f : Nat), k ≤ b.length → k < f → run (ref10_Get_l1 b) f (UInt32.ofNat (numB (b.drop k)), (k : Int) - 1) = some (UInt32.ofNat (numB b))
  | 0, f, hk, hf => by
    obtain ⟨f, rfl⟩ : ∃ q, f = q + 1 := ⟨f - 1, by omega⟩
    refine run_en ?_
    unfold ref10_Get_l1
    dsimp only
    rw [decide_eq_false (by omega)]; rfl
  | k + 1, f, hk, hf => by
    obtain ⟨f, rfl⟩ : ∃ q, f = q + 1 := ⟨f - 1, by omega⟩
    have hlt : k < b.length := by omega
    have e : (256 : UInt32) * UInt32.ofNat (numB (b.drop (k + 1))) + (b[k]).toUInt32 = UInt32.ofNat (numB (b.drop k)) := by
      rw [List.drop_eq_getElem_cons hlt]
      apply UInt32.toNat_inj.1
      have := (b[k]).toNat_lt
      simp only [UInt32.toNat_add, UInt32.toNat_mul, UInt8.toNat_toUInt32, UInt32.toNat_ofNat', numB, show (256 : UInt32).toNat = 256 from rfl]
      omega
    rw [run_st (s' := (UInt32.ofNat (numB (b.drop k)), (k : Int) - 1)) (by
      unfold ref10_Get_l1
      dsimp only
      rw [show ((k + 1 : Nat) : Int) - 1 = (k : Int) by omega, decide_eq_true (by omega), cond_true, Zx _ hlt, e, w64_of (by omega) (by omega)])]
    exact get_run b hb k f (by omega) (by omega)
theorem ref_get {b : List UInt8} (hb : b.length ≤ 100) : ref10_Get b = some (UInt32.ofNat (numB b)) := by
  unfold ref10_Get
  have := get_run b hb b.length 102 (Nat.le_refl _) (by omega)
  rw [List.drop_eq_nil_of_le (Nat.le_refl _)] at this
  rw [w64_of (by omega) (by omega), show loop (ref10_Get_l1 b) ((0 : UInt32), (b.length : Int) - 1) = _ from loop_of (by decide) this, Option.bind_some]
theorem cut_nat (b : List UInt8) (i j : Nat) : cut b (i : Int) (j : Int) = (b.drop i).take (j - i) := by
  unfold cut; rw [Int.toNat_natCast, Int.toNat_natCast]
theorem ref_read10 {b : List UInt8} (h : b.length = 16) : ref10_Read b = some (if okP (at5 b) then (at5 b, 0) else (noP, 8)) := by
  unfold ref10_Read
  have h0 : 0 < b.length := by omega
  have e0 : numB ((b.drop 0).take 1) = (b[0]).toNat := by
    rw [List.drop_eq_getElem_cons h0]; rfl
  rw [decide_eq_true (by omega), Bool.not_true, cond_false, show (0 : Int) = ((0 : Nat) : Int) from rfl, Zx _ h0, slc_eq (by omega) (by omega) (by omega), slc_eq (by omega) (by omega) (by omega), slc_eq (by omega) (by omega) (by omega), slc_eq (by omega) (by omega) (by omega),
    show cut b 1 4 = (b.drop 1).take 3 from cut_nat b 1 4, show cut b 4 8 = (b.drop 4).take 4 from cut_nat b 4 8, show cut b 8 12 = (b.drop 8).take 4 from cut_nat b 8 12, show cut b 12 16 = (b.drop 12).take 4 from cut_nat b 12 16,
    ref_get (by rw [List.length_take]; omega), Option.bind_some, ref_get (by rw [List.length_take]; omega), Option.bind_some, ref_get (by rw [List.length_take]; omega), Option.bind_some, ref_get (by rw [List.length_take]; omega), Option.bind_some]
  have e : (⟨((b[0]).toNat : Int), UInt32.ofNat (numB ((b.drop 1).take 3)), UInt32.ofNat (numB ((b.drop 4).take 4)), UInt32.ofNat (numB ((b.drop 8).take 4)), UInt32.ofNat (numB ((b.drop 12).take 4))⟩ : Ptr) = at5 b := by
    unfold at5; rw [e0, u32i_nat', u32i_nat', u32i_nat', u32i_nat']
  rw [e, ref_may10, Option.bind_some]
  by_cases c : okP (at5 b)
  · rw [decide_eq_true c, if_pos c]; rfl
  · rw [decide_eq_false c, if_neg c]; rfl
end Go.Ow

/-
  What is proved here: how the document reads objects (charterhouseref10, 14, 15), in plain words.
-/
namespace Go.Ow
set_option linter.unusedVariables false
set_option linter.unusedSimpArgs false

theorem numb_run {m : Nat} (hm : m ≤ 4) : ∀ (k i f : Nat) (n : UInt32) (r : List UInt8), i + k = m → k < f → r.length + k ≤ 1000 → run (ref10_Number_l1 (m : Int)) f (n, r, (i : Int)) = some (r ++ leB n.toNat k)
  | 0, i, f, n, r, hi, hf, hr => by
    obtain ⟨f, rfl⟩ : ∃ q, f = q + 1 := ⟨f - 1, by omega⟩
    refine run_en ?_
    unfold ref10_Number_l1
    dsimp only
    rw [decide_eq_false (by omega), cond_false, leB, List.append_nil]
  | k + 1, i, f, n, r, hi, hf, hr => by
    obtain ⟨f, rfl⟩ : ∃ q, f = q + 1 := ⟨f - 1, by omega⟩
    rw [run_st (s' := (n / 256, r ++ [(n % 256).toUInt8], ((i + 1 : Nat) : Int))) (by
      unfold ref10_Number_l1
      dsimp only
      rw [decide_eq_true (by omega), cond_true, YA (lim_le (by simp; omega)), w64_of (by omega) (by omega)]; rfl)]
    have hd : (n / 256).toNat = n.toNat / 256 := by rw [UInt32.toNat_div]; rfl
    have hb : (n % 256).toUInt8 = UInt8.ofNat n.toNat := by
      apply UInt8.toNat_inj.1
      rw [UInt32.toNat_toUInt8, UInt32.toNat_mod, UInt8.toNat_ofNat', show (256 : UInt32).toNat = 256 from rfl]; omega
    rw [numb_run hm k (i + 1) f (n / 256) _ (by omega) (by omega) (by simp; omega), hd, hb, leB, List.append_assoc]; rfl
theorem ref_number (n : UInt32) {m : Nat} (hm : m ≤ 4) : ref10_Number n (m : Int) = some (leB n.toNat m) := by
  unfold ref10_Number
  have := numb_run hm m 0 10 n [] (by omega) (by omega) (by simp; omega)
  rw [show loop (ref10_Number_l1 (m : Int)) (n, ([] : List UInt8), 0) = _ from loop_of (by decide) this, Option.bind_some, List.nil_append]
theorem ref_bytes {p : Ptr} (h : okP p) : ref10_Bytes p = some (ptrB p) := by
  unfold ref10_Bytes
  have hat : [u8i p.At] = leB p.At.toNat 1 := by
    obtain ⟨n, hn⟩ := Int.eq_ofNat_of_zero_le (show 0 ≤ p.At by rcases h with h | h; exact Int.le_of_eq h.1.symm; have := h.1; omega)
    rw [hn, u8i_nat, Int.toNat_natCast]; rfl
  have l1 := Zu p.At.toNat 1
  have l2 := Zu p.Birth.toNat 3
  have l3 := Zu p.Iv.toNat 4
  have l4 := Zu p.Tag.toNat 4
  have l5 := Zu p.Sum.toNat 4
  rw [show (3 : Int) = ((3 : Nat) : Int) from rfl, show (4 : Int) = ((4 : Nat) : Int) from rfl, ref_number _ (by omega), Option.bind_some, hat, YA (lim_le (by omega)), Option.bind_some, ref_number _ (by omega), Option.bind_some, YA (lim_le (by rw [List.length_append]; omega)), ref_number _ (by omega), Option.bind_some,
    YA (lim_le (by simp only [List.length_append]; omega)), ref_number _ (by omega), Option.bind_some, YA (lim_le (by simp only [List.length_append]; omega))]
  rfl
end Go.Ow

/-
  What is proved here: what the document tells of a root (charterhouseref14, 15); the law SetTells, in plain words.
-/
namespace Go.Ow
set_option linter.unusedVariables false
set_option linter.unusedSimpArgs false

end Go.Ow

/-
  What is proved here: the law SetTells, in plain words.
-/
namespace Go.Ow
set_option linter.unusedVariables false
set_option linter.unusedSimpArgs false

theorem same09_l1 (d : Disk) : ∀ (k i n : Nat), i + k = d.Blocks.length → k < n → run (ref09_Same_l1 d d) n ((0 : Int), i) = some 0
  | 0, i, n, hi, hn => by
    obtain ⟨n, rfl⟩ : ∃ m, n = m + 1 := ⟨n - 1, by omega⟩
    exact run_en (by unfold ref09_Same_l1; dsimp only; rw [decide_eq_false (by omega)]; rfl)
  | k + 1, i, n, hi, hn => by
    obtain ⟨n, rfl⟩ : ∃ m, n = m + 1 := ⟨n - 1, by omega⟩
    rw [run_go (s' := ((0 : Int), i + 1)) (by unfold ref09_Same_l1; dsimp only; rw [decide_eq_true (by omega), cond_true, Zx _ (show i < d.Blocks.length by omega), Zx _ (show i < d.Blocks.length by omega), nbeq rfl, cond_false])]
    exact same09_l1 d k (i + 1) n (by omega) (by omega)
theorem same09_l2 (d : Disk) : ∀ (k i n : Nat), i + k = d.Waits.length → k < n → run (ref09_Same_l2 d d) n ((0 : Int), i) = some 0
  | 0, i, n, hi, hn => by
    obtain ⟨n, rfl⟩ : ∃ m, n = m + 1 := ⟨n - 1, by omega⟩
    exact run_en (by unfold ref09_Same_l2; dsimp only; rw [decide_eq_false (by omega)]; rfl)
  | k + 1, i, n, hi, hn => by
    obtain ⟨n, rfl⟩ : ∃ m, n = m + 1 := ⟨n - 1, by omega⟩
    rw [run_go (s' := ((0 : Int), i + 1)) (by unfold ref09_Same_l2; dsimp only; rw [decide_eq_true (by omega), cond_true, Zx _ (show i < d.Waits.length by omega), Zx _ (show i < d.Waits.length by omega), nbeq rfl, cond_false, nbeq rfl, cond_false])]
    exact same09_l2 d k (i + 1) n (by omega) (by omega)
theorem ref_same09 {d : Disk} (hs : Sized d) : ref09_Same d d = some true := by
  unfold ref09_Same
  rw [nbeq rfl, cond_false, nbeq rfl, cond_false, show loop (ref09_Same_l1 d d) (0, 0) = some 0 from same09_l1 d d.Blocks.length 0 FUEL (by omega) (Nat.lt_of_le_of_lt hs.blocks (by decide)), Option.bind_some, show loop (ref09_Same_l2 d d) (0, 0) = some 0 from same09_l2 d d.Waits.length 0 FUEL (by omega) (Nat.lt_of_le_of_lt hs.waits (by decide)), Option.bind_some]
  rfl
/-- no part takes more than the form's reach -/
structure FitD (d : Disk) : Prop where
  blocks : d.Blocks.length ≤ 140737488351232
  waits : d.Waits.length ≤ 140737488351232
  block : ∀ b ∈ d.Blocks, b.length ≤ 140737488351232
  wait : ∀ w ∈ d.Waits, w.Data.length ≤ 140737488351232
theorem great_l1 {d : Disk} (h : FitD d) : ∀ (k i f c : Nat), i + k = d.Blocks.length → k < f → c ≤ 140737490351232 → ∃ c' : Nat, run (ref09_Great_l1 d) f ((c : Int), i) = some (c' : Int) ∧ c ≤ c' ∧ c' ≤ 140737490351232 ∧ (c' < 2000000 → ∀ b ∈ d.Blocks.drop i, b.length ≤ c')
  | 0, i, f, c, hi, hf, hc => by
    obtain ⟨f, rfl⟩ : ∃ q, f = q + 1 := ⟨f - 1, by omega⟩
    refine ⟨c, run_en ?_, Nat.le_refl _, hc, fun _ b hb => ?_⟩
    · unfold ref09_Great_l1
      dsimp only
      rw [decide_eq_false (by omega)]; rfl
    · rw [List.drop_eq_nil_of_le (by omega)] at hb; cases hb
  | k + 1, i, f, c, hi, hf, hc => by
    obtain ⟨f, rfl⟩ : ∃ q, f = q + 1 := ⟨f - 1, by omega⟩
    have hlt : i < d.Blocks.length := by omega
    have hb := h.block _ (List.getElem_mem hlt)
    by_cases c1 : c < 2000000
    · obtain ⟨c', h1, h2, h3, h4⟩ := great_l1 h k (i + 1) f (c + (d.Blocks[i]).length) (by omega) (by omega) (by omega)
      refine ⟨c', ?_, by omega, h3, fun hc' b hb' => ?_⟩
      · rw [run_st (s' := (((c + (d.Blocks[i]).length : Nat) : Int), i + 1)) (by unfold ref09_Great_l1; dsimp only; rw [decide_eq_true (by omega), cond_true, decide_eq_true (by omega), cond_true, Zx _ hlt, w64_of (by omega) (by omega)]; rfl)]; exact h1
      · rw [List.drop_eq_getElem_cons hlt] at hb'
        rcases List.mem_cons.1 hb' with rfl | hb'
        · omega
        · exact h4 hc' b hb'
    · refine ⟨c, run_en ?_, Nat.le_refl _, hc, fun hc' => absurd hc' c1⟩
      unfold ref09_Great_l1
      dsimp only
      rw [decide_eq_true (by omega), cond_true, decide_eq_false (by omega)]; rfl
theorem great_l2 {d : Disk} (h : FitD d) : ∀ (k i f c : Nat), i + k = d.Waits.length → k < f → c ≤ 140737490351232 → ∃ c' : Nat, run (ref09_Great_l2 d) f ((c : Int), i) = some (c' : Int) ∧ c ≤ c' ∧ c' ≤ 140737490351232 ∧ (c' < 2000000 → ∀ w ∈ d.Waits.drop i, w.Data.length ≤ c')
  | 0, i, f, c, hi, hf, hc => by
    obtain ⟨f, rfl⟩ : ∃ q, f = q + 1 := ⟨f - 1, by omega⟩
    refine ⟨c, run_en ?_, Nat.le_refl _, hc, fun _ b hb => ?_⟩
    · unfold ref09_Great_l2
      dsimp only
      rw [decide_eq_false (by omega)]; rfl
    · rw [List.drop_eq_nil_of_le (by omega)] at hb; cases hb
  | k + 1, i, f, c, hi, hf, hc => by
    obtain ⟨f, rfl⟩ : ∃ q, f = q + 1 := ⟨f - 1, by omega⟩
    have hlt : i < d.Waits.length := by omega
    have hb := h.wait _ (List.getElem_mem hlt)
    by_cases c1 : c < 2000000
    · obtain ⟨c', h1, h2, h3, h4⟩ := great_l2 h k (i + 1) f (c + (d.Waits[i]).Data.length) (by omega) (by omega) (by omega)
      refine ⟨c', ?_, by omega, h3, fun hc' b hb' => ?_⟩
      · rw [run_st (s' := (((c + (d.Waits[i]).Data.length : Nat) : Int), i + 1)) (by unfold ref09_Great_l2; dsimp only; rw [decide_eq_true (by omega), cond_true, decide_eq_true (by omega), cond_true, Zx _ hlt, w64_of (by omega) (by omega)]; rfl)]; exact h1
      · rw [List.drop_eq_getElem_cons hlt] at hb'
        rcases List.mem_cons.1 hb' with rfl | hb'
        · omega
        · exact h4 hc' b hb'
    · refine ⟨c, run_en ?_, Nat.le_refl _, hc, fun hc' => absurd hc' c1⟩
      unfold ref09_Great_l2
      dsimp only
      rw [decide_eq_true (by omega), cond_true, decide_eq_false (by omega)]; rfl
theorem great_small {d : Disk} (h : FitD d) (hg : ref09_Great d = some false) : SmallD d := by
  have hb := h.blocks
  have hw := h.waits
  obtain ⟨c, e1, -, e3, e4⟩ := great_l1 h d.Blocks.length 0 (d.Blocks.length + 1) 0 (by omega) (by omega) (by omega)
  obtain ⟨c', f1, f2, f3, f4⟩ := great_l2 h d.Waits.length 0 (d.Waits.length + 1) c (by omega) (by omega) (by omega)
  have hF : FUEL = 18446744073709551616 := rfl
  unfold ref09_Great at hg
  rw [show loop (ref09_Great_l1 d) (0, 0) = some (c : Int) from loop_of (by omega) e1, Option.bind_some, show loop (ref09_Great_l2 d) ((c : Int), 0) = some (c' : Int) from loop_of (by omega) f1, Option.bind_some] at hg
  rw [List.drop_zero] at e4 f4
  have fin : ∀ x : Option (Unit ⊕ Unit), x = some (.inl ()) ∨ x = some (.inr ()) → (Option.bind x fun t_5 => Sum.elim (fun _ => some (decide (2000000 ≤ (c' : Int)))) (fun _ => some true) t_5) = some false → x = some (.inl ()) ∧ c' < 2000000 := by
    rintro x (rfl | rfl) hx
    · refine ⟨rfl, ?_⟩
      have := of_decide_eq_false (Option.some.inj hx)
      omega
    · cases hx
  by_cases k1 : (500 : Int) < (d.Blocks.length : Int)
  · rw [decide_eq_true k1] at hg; cases hg
  by_cases k2 : (4106 : Int) < (d.Waits.length : Int)
  · rw [decide_eq_false k1, decide_eq_true (show (500 : Int) < (d.Waits.length : Int) by omega), decide_eq_false (show ¬ (d.Waits.length : Int) < 4096 by omega), decide_eq_true k2] at hg; cases hg
  have hc : c' < 2000000 := by
    refine (fin _ ?_ hg).2
    rw [decide_eq_false k1, cond_false, decide_eq_false k2]
    by_cases k3 : (500 : Int) < (d.Waits.length : Int)
    · rw [decide_eq_true k3, cond_true]
      by_cases k4 : (d.Waits.length : Int) < 4096
      · rw [decide_eq_true k4]; exact .inr rfl
      · rw [decide_eq_false k4]; exact .inl rfl
    · rw [decide_eq_false k3]; exact .inl rfl
  exact ⟨by omega, by omega, fun b hb => by have := e4 (by omega) b hb; omega, fun w hw => by have := f4 hc w hw; omega⟩
end Go.Ow

/-
  What is proved here: labels as blocks, and back; what stands on a disk: in plain words.
-/
namespace Go.Ow.Lb
set_option linter.unusedVariables false
set_option linter.unusedSimpArgs false
open Go.Sort Go.Proofs

def okL (l : Label) : Prop := (1 : UInt32) ≤ l.Gen ∧ l.Gen ≤ 16777215 ∧ (1 : UInt32) ≤ l.Epoch ∧ l.Epoch ≤ 65535 ∧ ¬ isNone l.Root ∧ okR l.Root
instance (l : Label) : Decidable (okL l) := by unfold okL; infer_instance
theorem none_root (l : Label) : (decide (l.Root.At = 0) && (decide (l.Root.Birth = (0 : UInt32)) && (decide (l.Root.Iv = (0 : UInt32)) && (decide (l.Root.Tag = (0 : UInt32)) && (decide (l.Root.Sum = (0 : UInt32)) && true))))) = decide (isNone l.Root) := none_dec l.Root
theorem label_may_eq (l : Label) : label_may l = some (decide (okL l)) := by
  unfold label_may
  rw [none_root, show Ptr.mk l.Root.At l.Root.Birth l.Root.Iv l.Root.Tag l.Root.Sum = l.Root from rfl, ptr_Check_eq']
  by_cases h : okL l
  · rw [decide_eq_true h]
    obtain ⟨h1, h2, h3, h4, h5, h6⟩ := h
    rw [decide_eq_true h1, decide_eq_true h2, decide_eq_true h3, decide_eq_true h4, decide_eq_false h5, if_pos (.inr h6)]
    rfl
  · rw [decide_eq_false h]
    by_cases h1 : ¬ ((1 : UInt32) ≤ l.Gen)
    · rw [decide_eq_false h1]; rfl
    replace h1 := Decidable.not_not.1 h1
    rw [decide_eq_true h1]
    by_cases h2 : ¬ (l.Gen ≤ 16777215)
    · rw [decide_eq_false h2]; rfl
    replace h2 := Decidable.not_not.1 h2
    rw [decide_eq_true h2]
    by_cases h3 : ¬ ((1 : UInt32) ≤ l.Epoch)
    · rw [decide_eq_false h3]; rfl
    replace h3 := Decidable.not_not.1 h3
    rw [decide_eq_true h3]
    by_cases h4 : ¬ (l.Epoch ≤ 65535)
    · rw [decide_eq_false h4]; rfl
    replace h4 := Decidable.not_not.1 h4
    rw [decide_eq_true h4]
    by_cases h5 : isNone l.Root
    · rw [decide_eq_true h5]; rfl
    rw [decide_eq_false h5]
    by_cases h6 : okR l.Root
    · exact absurd ⟨h1, h2, h3, h4, h5, h6⟩ h
    rw [if_neg (fun e => e.elim h5 h6)]
    rfl
def headL (l : Label) : List UInt8 := [67] ++ leB l.Gen.toNat 4 ++ leB l.Epoch.toNat 4 ++ ptrB l.Root
theorem headL_length (l : Label) : (headL l).length = 25 := by simp only [headL, List.length_append, Zu, ptrB_length, List.length_cons, List.length_nil]
def blockL (l : Label) : List UInt8 := headL l ++ leB (sumOf (headL l)).toNat 4 ++ List.replicate 227 0
theorem blockL_length (l : Label) : (blockL l).length = 256 := by simp only [blockL, List.length_append, Zu, headL_length, List.length_replicate]
theorem put4 (a : UInt32) : code_Put (a.toNat : Int) 4 = some (leB a.toNat 4, 0) := by
  have e4 : (256 : Nat) ^ 4 = 4294967296 := by decide
  exact code_Put_eq (k := 4) (by omega) (by omega) (by have := u32_lt a; omega)
theorem lim_big {n : Nat} (h : n ≤ 1000000) : n ≤ LIM := Nat.le_trans h (by decide)
theorem block_core (a c d : List UInt8) (ha : a.length = 4) (hc : c.length = 4) (hd : d.length = 16) :
   (app ([67] : List UInt8) a fun q_16 => app q_16 c fun q_20 => app q_20 d fun q_24 => Option.bind (mix_Sum q_24) fun x_31 => Option.bind (code_Put (x_31.toNat : Int) 4) fun x_33 => app q_24 x_33.1 fun q_37 => mks 227 (0 : UInt8) fun z_43 => app q_37 z_43 fun q_44 => some q_44)
   = some (([67] ++ a ++ c ++ d) ++ leB (sumOf ([67] ++ a ++ c ++ d)).toNat 4 ++ List.replicate 227 0) := by
  rw [YA (lim_big (by simp only [List.length_cons, List.length_nil]; omega)), YA (lim_big (by simp only [List.length_append, List.length_cons, List.length_nil]; omega)), YA (lim_big (by simp only [List.length_append, List.length_cons, List.length_nil]; omega))]
  generalize hh : ([67] ++ a ++ c ++ d : List UInt8) = q
  have hq : q.length = 25 := by subst hh; simp only [List.length_append, List.length_cons, List.length_nil]; omega
  rw [mix_Sum_eq (by omega), Option.bind_some, put4, Option.bind_some, YA (lim_big (by rw [hq]; simp only [Zu]; omega))]
  generalize hp : q ++ leB (sumOf q).toNat 4 = p
  have hpl : p.length = 29 := by subst hp; rw [List.length_append, hq, Zu]
  have hm : ∀ (K : List UInt8 → Option (List UInt8)), mks 227 (0 : UInt8) K = K (List.replicate 227 0) := fun K => mks_eq (n := 227) (lim_big (by omega))
  rw [hm]
  exact YA (lim_big (by rw [hpl, List.length_replicate]; omega))
theorem label_block_eq {l : Label} (h : okL l) : label_block l = some (blockL l) := by
  unfold label_block
  rw [put4, Option.bind_some, put4, Option.bind_some, show Ptr.mk l.Root.At l.Root.Birth l.Root.Iv l.Root.Tag l.Root.Sum = l.Root from rfl, ptr_Write_eq h.2.2.2.2.2, Option.bind_some]
  exact block_core _ _ _ (Zu _ _) (Zu _ _) (ptrB_length _)

/-- the label that a block's bytes say -/
def parseL (b : List UInt8) : Label := ⟨u32i (numB ((b.drop 1).take 4) : Int), u32i (numB ((b.drop 5).take 4) : Int), at5 ((b.drop 9).take 16)⟩
def readOk (b : List UInt8) : Prop := okL (parseL b) ∧ blockL (parseL b) = b
instance (b : List UInt8) : Decidable (readOk b) := by unfold readOk; infer_instance
/-- what is read: only told where it is a label -/
theorem label_read_eq {b : List UInt8} (hb : b.length = 256) : ∃ l, label_read b = some (l, decide (readOk b)) ∧ (readOk b → l = parseL b) := by
  unfold label_read
  rw [show code_Get b 1 4 = some ((numB ((b.drop 1).take 4) : Int), 0) from code_Get_eq (at' := 1) (k := 4) (by omega) (by omega) (by omega) (by omega),
    show code_Get b 5 4 = some ((numB ((b.drop 5).take 4) : Int), 0) from code_Get_eq (at' := 5) (k := 4) (by omega) (by omega) (by omega) (by omega)]
  simp only [Option.bind_some]
  rw [slc_eq (by omega) (by omega) (by omega)]
  have hc : cut b 9 25 = (b.drop 9).take 16 := rfl
  rw [hc, ptr_Read_eq (by simp only [List.length_take, List.length_drop]; omega)]
  simp only [Option.bind_some]
  by_cases c : isNone (at5 ((b.drop 9).take 16)) ∨ okR (at5 ((b.drop 9).take 16))
  · rw [if_pos c]
    simp only [decide_true, cond_true]
    rw [show Label.mk (u32i (numB ((b.drop 1).take 4) : Int)) (u32i (numB ((b.drop 5).take 4) : Int)) (Ptr.mk (at5 ((b.drop 9).take 16)).At (at5 ((b.drop 9).take 16)).Birth (at5 ((b.drop 9).take 16)).Iv (at5 ((b.drop 9).take 16)).Tag (at5 ((b.drop 9).take 16)).Sum) = parseL b from rfl]
    rw [label_may_eq]
    simp only [Option.bind_some]
    by_cases h : okL (parseL b)
    · rw [decide_eq_true h]
      simp only [cond_true]
      rw [label_block_eq h]
      simp only [Option.bind_some, bytes_Equal]
      refine ⟨_, ?_, fun _ => rfl⟩
      congr 2
      exact decide_eq_decide.2 ⟨fun e => ⟨h, e⟩, fun e => e.2⟩
    · rw [decide_eq_false h]
      refine ⟨_, ?_, fun _ => rfl⟩
      rw [decide_eq_false (fun e : readOk b => h e.1)]
      rfl
  · rw [if_neg c]
    refine ⟨⟨u32i (numB ((b.drop 1).take 4) : Int), u32i (numB ((b.drop 5).take 4) : Int), ⟨0, 0, 0, 0, 0⟩⟩, ?_, fun e => absurd (.inr e.1.2.2.2.2.2) c⟩
    rw [decide_eq_false (fun e : readOk b => c (.inr e.1.2.2.2.2.2))]
    rfl

/-! ### What stands -/
def slotN (l : Label) : Nat := l.Gen.toNat % 4
theorem label_Slot_eq (g : UInt32) : label_Slot g = some ((g.toNat % 4 : Nat) : Int) := by
  unfold label_Slot
  rw [UInt32.toNat_mod]; rfl
/-- what stands in a slot of some blocks -/
def standB (B : List (List UInt8)) (s : Nat) : Option Label := match B[s]? with
  | some b => if readOk b ∧ slotN (parseL b) = s then some (parseL b) else none
  | none => none
def allB (B : List (List UInt8)) : List Label := (List.range 4).filterMap (standB B)
def sortG (l : List Label) : List Label := sortL (fun x y => (label_Find_1 x y).getD 0) l
def findD (d : Disk) : List Label × Int := if OKD d then (sortG (allB (seenB d)), 0) else ([], 8)
theorem find_loop {d : Disk} (h : OKD d) : loop (label_Find_l1 d) (([] : List Label), 0) = some (allB (seenB d)) := by
  have hl := seenB_length h
  have hall : ∀ b ∈ seenB d, b.length = 256 := layW_all h.2.2.1 (fun w hw => okW_data (h.2.2.2 w hw))
  obtain ⟨t, h1, h2⟩ := loop_rule (body := label_Find_l1 d) (fun s => s.2 ≤ 4 ∧ s.1 = (List.range s.2).filterMap (standB (seenB d))) (fun s => 4 - s.2) (fun t => t = allB (seenB d)) (by
    rintro ⟨r, i⟩ ⟨hi, hr⟩
    simp only at hi hr
    unfold label_Find_l1
    dsimp only
    rcases Nat.lt_or_ge i 4 with hlt | hge
    · left
      rw [decide_eq_true (show (i : Int) < 4 by omega)]
      simp only [cond_true]
      rw [dev_Read_eq h (by omega)]
      simp only [Option.bind_some]
      obtain ⟨l, hR, hL⟩ := label_read_eq (hall _ (List.getElem_mem (l := seenB d) (n := i) (by omega)))
      rw [hR]
      simp only [Option.bind_some]
      have hg : (seenB d)[i]? = some (seenB d)[i] := List.getElem?_eq_getElem (by omega)
      have hlen : r.length ≤ 4 := by
        rw [hr]; refine Nat.le_trans (List.length_filterMap_le _ _) ?_; simp; omega
      have hnext : (List.range (i + 1)).filterMap (standB (seenB d)) = r ++ (standB (seenB d) i).toList := by
        rw [List.range_succ, List.filterMap_append, ← hr]; cases hq : standB (seenB d) i <;> simp [hq]
      by_cases c : readOk (seenB d)[i]
      · obtain rfl := hL c
        rw [decide_eq_true c]
        simp only [cond_true]
        rw [label_Slot_eq]
        simp only [Option.bind_some]
        by_cases c2 : slotN (parseL (seenB d)[i]) = i
        · rw [decide_eq_true (show (((parseL (seenB d)[i]).Gen.toNat % 4 : Nat) : Int) = (i : Int) by have := c2; unfold slotN at this; omega)]
          simp only [cond_true]
          rw [YA (by simp only [List.length_cons, List.length_nil, LIM]; omega)]
          refine ⟨_, rfl, ⟨hlt, ?_⟩, by simp only; omega⟩
          simp only
          rw [hnext]
          unfold standB
          rw [hg]
          simp only
          rw [if_pos ⟨c, c2⟩]; rfl
        · rw [decide_eq_false (show ¬ (((parseL (seenB d)[i]).Gen.toNat % 4 : Nat) : Int) = (i : Int) from fun e => c2 (by unfold slotN; omega))]
          simp only [cond_false]
          refine ⟨_, rfl, ⟨hlt, ?_⟩, by simp only; omega⟩
          simp only
          rw [hnext]
          unfold standB
          rw [hg]
          simp only
          rw [if_neg (fun e => c2 e.2)]; simp
      · rw [decide_eq_false c]
        simp only [cond_false]
        refine ⟨_, rfl, ⟨hlt, ?_⟩, by simp only; omega⟩
        simp only
        rw [hnext]
        unfold standB
        rw [hg]
        simp only
        rw [if_neg (fun e => c e.1)]; simp
    · right
      have : i = 4 := by omega
      subst this
      refine ⟨_, rfl, hr⟩) (s := (([] : List Label), 0)) ⟨Nat.zero_le _, by simp⟩ (Nat.lt_of_le_of_lt (Nat.sub_le _ _) (small_lt (by omega)))
  rw [h1, h2]
theorem allB_len (B : List (List UInt8)) : (allB B).length ≤ 4 := Nat.le_trans (List.length_filterMap_le _ _) (by simp)
theorem label_Find_eq {d : Disk} (h : Sized d) : label_Find d = some (findD d) := by
  unfold label_Find findD
  rw [dev_Check_eq h]
  simp only [Option.bind_some]
  by_cases c : OKD d
  · rw [if_pos c, if_pos c]
    simp only [decide_true, Bool.not_true, cond_false]
    rw [find_loop c]
    simp only [Option.bind_some]
    unfold slices_SortFunc_Label_label_Find_1
    rw [if_pos (by have := allB_len (seenB d); omega)]
    rfl
  · rw [if_neg c, if_neg c]; rfl
def putD (d : Disk) (l : Label) : Disk × Int := if OKD d then (if okL l then writeD d ((slotN l : Nat) : Int) (blockL l) else (noD, 8)) else (noD, 8)
theorem label_Put_eq {d : Disk} (h : Sized d) (l : Label) : label_Put d l = some (putD d l) := by
  unfold label_Put putD
  rw [dev_Check_eq h]
  simp only [Option.bind_some]
  by_cases c : OKD d
  · rw [if_pos c, if_pos c]
    simp only [decide_true, Bool.not_true, cond_false]
    rw [label_may_eq]
    simp only [Option.bind_some]
    by_cases c2 : okL l
    · rw [decide_eq_true c2, if_pos c2]
      simp only [Bool.not_true, cond_false]
      rw [label_Slot_eq, label_block_eq c2]
      simp only [Option.bind_some]
      rw [dev_Write_eq h ⟨by omega, by omega⟩]
      rfl
    · rw [decide_eq_false c2, if_neg c2]; rfl
  · rw [if_neg c, if_neg c]; rfl
end Go.Ow.Lb

/-
  What is proved here: what stands behind a put or a write; one label stands on a new disk: in plain words.
-/
namespace Go.Ow.Lb
set_option linter.unusedVariables false
set_option linter.unusedSimpArgs false
open Go.Sort Go.Proofs

theorem sized_no : Sized noD := ⟨by simp [noD], by simp [noD], by simp [noD]⟩
theorem writeD_cases (d : Disk) (at' : Int) (b : List UInt8) : ((writeD d at' b).2 ≠ 0 ∧ (writeD d at' b).1 = noD) ∨ (OKD d ∧ (0 ≤ at' ∧ at' < 256) ∧ b.length = 256 ∧ d.Waits.length ≠ 4096 ∧ writeD d at' b = (Disk.mk d.Blocks (d.Waits ++ [Write.mk at' b]), 0)) := by
  unfold writeD
  by_cases c : OKD d
  · by_cases c1 : 0 ≤ at' ∧ at' < 256
    · by_cases c2 : b.length = 256
      · by_cases c3 : d.Waits.length = 4096
        · left; rw [if_pos c, if_pos c1, if_pos c2, if_pos c3]; exact ⟨by decide, rfl⟩
        · right; rw [if_pos c, if_pos c1, if_pos c2, if_neg c3]; exact ⟨c, c1, c2, c3, rfl⟩
      · left; rw [if_pos c, if_pos c1, if_neg c2]; exact ⟨by decide, rfl⟩
    · left; rw [if_pos c, if_neg c1]; exact ⟨by decide, rfl⟩
  · left; rw [if_neg c]; exact ⟨by decide, rfl⟩
theorem slotN_lt (l : Label) : slotN l < 4 := Nat.mod_lt _ (by omega)
theorem putD_cases (d : Disk) (l : Label) : ((putD d l).2 ≠ 0 ∧ (putD d l).1 = noD) ∨ (OKD d ∧ okL l ∧ OKD (putD d l).1 ∧ d.Waits.length ≠ 4096 ∧ putD d l = (Disk.mk d.Blocks (d.Waits ++ [Write.mk ((slotN l : Nat) : Int) (blockL l)]), 0) ∧ seenB (putD d l).1 = (seenB d).set (slotN l) (blockL l)) := by
  unfold putD
  by_cases c : OKD d
  · by_cases c1 : okL l
    · rw [if_pos c, if_pos c1]
      rcases writeD_cases d ((slotN l : Nat) : Int) (blockL l) with h | ⟨h1, h2, h3, h4, h5⟩
      · exact .inl h
      · right
        rw [h5]
        refine ⟨c, c1, c.write h2 h3 h4, h4, rfl, ?_⟩
        simp only [seenB, layW, List.foldl_append, List.foldl_cons, List.foldl_nil, Int.toNat_natCast]
    · left; rw [if_pos c, if_neg c1]; exact ⟨by decide, rfl⟩
  · left; rw [if_neg c]; exact ⟨by decide, rfl⟩
theorem putD_sized {d : Disk} (l : Label) : Sized (putD d l).1 := by
  rcases putD_cases d l with ⟨h1, h2⟩ | h
  · rw [h2]; exact sized_no
  · exact h.2.2.1.sized
theorem sortG_length (l : List Label) : (sortG l).length = l.length := sortL_length label_Find_1_swo l
theorem sortG_spec (l : List Label) : (sortG l).Perm l ∧ (sortG l).Pairwise (fun p q => q.Gen ≤ p.Gen) := by
  have h := pdq_sorts (ltOf fun x y => (label_Find_1 x y).getD 0) label_Find_1_swo l.toArray 0 l.toArray.size (Lib.bitLen l.toArray.size) true true (Nat.zero_le _) (Nat.le_refl _) (Or.inl rfl)
  have e : (pdq (ltOf fun x y => (label_Find_1 x y).getD 0) l.toArray 0 l.toArray.size (Lib.bitLen l.toArray.size) true true) = (sortG l).toArray := by
    have e : (ltOf fun x y => (label_Find_1 x y).getD 0) = fun x y => decide ((label_Find_1 x y).getD 0 < 0) := rfl
    rw [e]; simp [sortG, sortL]
  rw [e] at h
  have hl := sortG_length l
  obtain ⟨⟨_, _, hp⟩, hs⟩ := h
  refine ⟨?_, ?_⟩
  · have e1 : ((sortG l).toArray.extract 0 l.toArray.size).toList = sortG l := by simp [← hl]
    have e2 : (l.toArray.extract 0 l.toArray.size).toList = l := by simp
    rw [e1, e2] at hp
    exact hp
  · rw [List.pairwise_iff_getElem]
    intro i j hi hj hij
    have := hs i j (Nat.zero_le _) hij (by simpa [← hl] using hj)
    rw [label_Find_1_lt] at this
    simp only [decide_eq_false_iff_not, UInt32.not_lt] at this
    have ei : (sortG l).toArray[i]! = (sortG l)[i] := by simp [hi]
    have ej : (sortG l).toArray[j]! = (sortG l)[j] := by simp [hj]
    rw [ei, ej] at this
    exact this
theorem findD_len (d : Disk) : (findD d).1.length ≤ 4 := by
  unfold findD
  split
  · simp only [sortG_length]; exact allB_len _
  · simp

def eqL (p q : Label) : Bool := decide (p.Gen = q.Gen) && (decide (p.Epoch = q.Epoch) && ((decide (p.Root.At = q.Root.At) && (decide (p.Root.Birth = q.Root.Birth) && (decide (p.Root.Iv = q.Root.Iv) && (decide (p.Root.Tag = q.Root.Tag) && (decide (p.Root.Sum = q.Root.Sum) && true))))) && true))
theorem eqL_iff (p q : Label) : eqL p q = true ↔ p = q := by
  obtain ⟨a, b, ⟨c, d, e, f, g⟩⟩ := p
  obtain ⟨a', b', ⟨c', d', e', f', g'⟩⟩ := q
  simp only [eqL, Bool.and_eq_true, decide_eq_true_eq, and_true, Label.mk.injEq, Ptr.mk.injEq]
end Go.Ow.Lb

/-
  What is proved here: labels as the document puts and finds them (charterhouseref11); the law LabelRing, in plain words.
-/
namespace Go.Ow.Lb
set_option linter.unusedVariables false
set_option linter.unusedSimpArgs false
open Go.Ow

theorem ref_may11 (l : Label) : ref11_May l = some (decide (okL l)) := by
  unfold ref11_May
  have h : (Option.bind (ref10_May (Ptr.mk l.Root.At l.Root.Birth l.Root.Iv l.Root.Tag l.Root.Sum)) fun x_10 => cond x_10 (Option.bind (ref10_None (Ptr.mk l.Root.At l.Root.Birth l.Root.Iv l.Root.Tag l.Root.Sum)) fun x_14 => some (!x_14)) (some false)) = some (decide (¬ isNone l.Root ∧ okR l.Root)) := by
    rw [show Ptr.mk l.Root.At l.Root.Birth l.Root.Iv l.Root.Tag l.Root.Sum = l.Root from rfl, ref_may10, Option.bind_some, ref_none, Option.bind_some]
    by_cases c : isNone l.Root
    · rw [decide_eq_true c, decide_eq_true (show okP l.Root from .inl c), decide_eq_false (fun e => e.1 c)]; rfl
    · by_cases c2 : okR l.Root
      · rw [decide_eq_false c, decide_eq_true (show okP l.Root from .inr c2), decide_eq_true ⟨c, c2⟩]; rfl
      · rw [decide_eq_false c, decide_eq_false (fun e : okP l.Root => e.elim c c2), decide_eq_false (fun e => c2 e.2)]; rfl
  rw [h, and_dec (p := (1 : UInt32) ≤ l.Gen) _ (and_dec (p := l.Gen ≤ 16777215) _ (and_dec (p := (1 : UInt32) ≤ l.Epoch) _ (and_dec (p := l.Epoch ≤ 65535) _ rfl))), Option.bind_some]
  rfl
theorem ref_slot11 (g : UInt32) : ref11_Slot g = some ((g.toNat % 4 : Nat) : Int) := by
  unfold ref11_Slot
  rw [UInt32.toNat_mod]; rfl
theorem ref_block11 {l : Label} (h : okL l) : ref11_Block l = some (blockL l) := by
  unfold ref11_Block
  have l1 := Zu l.Gen.toNat 4
  have l2 := Zu l.Epoch.toNat 4
  have l3 := ptrB_length l.Root
  have l4 := headL_length l
  have l5 := Zu (sumOf (headL l)).toNat 4
  have e : ∀ x : UInt32, ref10_Number x 4 = some (leB x.toNat 4) := fun x => ref_number x (m := 4) (by omega)
  rw [e, Option.bind_some, YA (lim_le (by simp only [List.length_cons, List.length_nil]; omega)), e, Option.bind_some, YA (lim_le (by simp only [List.length_append, List.length_cons, List.length_nil]; omega)),
    show Ptr.mk l.Root.At l.Root.Birth l.Root.Iv l.Root.Tag l.Root.Sum = l.Root from rfl, ref_bytes (.inr h.2.2.2.2.2), Option.bind_some, YA (lim_le (by simp only [List.length_append, List.length_cons, List.length_nil]; omega)),
    show [67] ++ leB l.Gen.toNat 4 ++ leB l.Epoch.toNat 4 ++ ptrB l.Root = headL l from rfl, ref_sum_eq (by omega), Option.bind_some, e, Option.bind_some, YA (lim_le (by omega)), show (227 : Int) = ((227 : Nat) : Int) from rfl, mks_eq (by decide), YA (lim_le (by simp only [List.length_append, List.length_replicate]; omega))]
  rfl
theorem small_of {d : Disk} (h : OKD d) : SmallD d :=
  ⟨by rw [h.1]; omega, by have := h.2.1; omega, fun b hb => by rw [h.2.2.1 b hb]; omega, fun w hw => by rw [((okW_iff w).1 (h.2.2.2 w hw)).2]; omega⟩
theorem ref_put11 (d : Disk) (l : Label) : ref11_Put d l = some (putD d l) := by
  unfold ref11_Put putD
  rw [ref_may9, Option.bind_some]
  by_cases c : OKD d
  · rw [decide_eq_true c, if_pos c, Bool.not_true, cond_false, ref_may11, Option.bind_some]
    by_cases c1 : okL l
    · have hs : slotN l < 4 := slotN_lt l
      have hw := c.2.1
      rw [decide_eq_true c1, if_pos c1, Bool.not_true, cond_false]
      unfold writeD
      rw [if_pos c, if_pos ⟨by omega, by omega⟩, if_pos (blockL_length l)]
      by_cases c2 : d.Waits.length = 4096
      · rw [decide_eq_true (by omega), if_pos c2]; rfl
      · rw [decide_eq_false (by omega), if_neg c2, cond_false]
        unfold ref11_With ref09_With
        rw [ref_slot11, Option.bind_some, ref_block11 c1, Option.bind_some, ref_twin9 (small_of c), Option.bind_some, app_nil (by rw [blockL_length]; omega), YA (lim_le (by simp only [List.length_cons, List.length_nil]; omega))]
        rfl
    · rw [decide_eq_false c1, if_neg c1]; rfl
  · rw [decide_eq_false c, if_neg c]; rfl
theorem ref_of11 {b : List UInt8} (h : b.length = 256) : ∃ l, ref11_of b = some (l, decide (readOk b)) ∧ (readOk b → l = parseL b) := by
  unfold ref11_of
  rw [slc_eq (by omega) (by omega) (by omega), show cut b 9 25 = (b.drop 9).take 16 from cut_nat b 9 25, ref_read10 (by rw [List.length_take, List.length_drop]; omega), Option.bind_some, slc_eq (by omega) (by omega) (by omega), show cut b 1 5 = (b.drop 1).take 4 from cut_nat b 1 5,
    slc_eq (by omega) (by omega) (by omega), show cut b 5 9 = (b.drop 5).take 4 from cut_nat b 5 9, ref_get (by rw [List.length_take]; omega), Option.bind_some, ref_get (by rw [List.length_take]; omega), Option.bind_some]
  by_cases c : okP (at5 ((b.drop 9).take 16))
  · refine ⟨parseL b, ?_, fun _ => rfl⟩
    have e : (⟨UInt32.ofNat (numB ((b.drop 1).take 4)), UInt32.ofNat (numB ((b.drop 5).take 4)), ⟨(at5 ((b.drop 9).take 16)).At, (at5 ((b.drop 9).take 16)).Birth, (at5 ((b.drop 9).take 16)).Iv, (at5 ((b.drop 9).take 16)).Tag, (at5 ((b.drop 9).take 16)).Sum⟩⟩ : Label) = parseL b := by
      unfold parseL; rw [u32i_nat', u32i_nat']
    rw [if_pos c]
    dsimp only
    rw [e, decide_eq_true rfl, cond_true, ref_may11, Option.bind_some]
    by_cases k : okL (parseL b)
    · rw [decide_eq_true k, cond_true, ref_block11 k, Option.bind_some, Option.bind_some]
      congr 2
      exact decide_eq_decide.2 ⟨fun e => ⟨k, e⟩, fun e => e.2⟩
    · rw [decide_eq_false k, decide_eq_false (fun e : readOk b => k e.1)]; rfl
  · rw [if_neg c]
    refine ⟨⟨UInt32.ofNat (numB ((b.drop 1).take 4)), UInt32.ofNat (numB ((b.drop 5).take 4)), noP⟩, ?_, fun e => absurd (.inr e.1.2.2.2.2.2) c⟩
    rw [decide_eq_false (fun e : readOk b => c (.inr e.1.2.2.2.2.2))]
    rfl
/-- put in ahead of the first older one -/
def ins (x : Label) : List Label → List Label
  | [] => [x]
  | y :: r => if y.Gen < x.Gen then x :: y :: r else y :: ins x r
theorem ins_length (x : Label) : ∀ l, (ins x l).length = l.length + 1
  | [] => rfl
  | y :: r => by unfold ins; split <;> simp [ins_length x r]
theorem stand_run1 (x : Label × Bool) (s : List Label × Nat) (hs : s.1.length ≤ 100) : ∀ (k i f : Nat) (o : List Label), i + k = s.1.length → k < f → o.length + k ≤ 1000 →
    run (ref11_Stand_l1 s x) f (o, true, i) = some (o ++ s.1.drop i, true)
  | 0, i, f, o, hi, hf, ho => by
    obtain ⟨f, rfl⟩ : ∃ q, f = q + 1 := ⟨f - 1, by omega⟩
    refine run_en ?_
    unfold ref11_Stand_l1
    dsimp only
    rw [decide_eq_false (by omega), cond_false, List.drop_eq_nil_of_le (by omega), List.append_nil]
  | k + 1, i, f, o, hi, hf, ho => by
    obtain ⟨f, rfl⟩ : ∃ q, f = q + 1 := ⟨f - 1, by omega⟩
    have hlt : i < s.1.length := by omega
    rw [run_st (s' := (o ++ [s.1[i]], true, i + 1)) (by
      unfold ref11_Stand_l1
      dsimp only
      rw [decide_eq_true (by omega), cond_true, Bool.not_true, cond_false, Option.bind_some, Zx _ hlt]
      dsimp only
      rw [YA (lim_le (by simp; omega))]), stand_run1 x s hs k (i + 1) f _ (by omega) (by omega) (by simp; omega), List.drop_eq_getElem_cons hlt, List.append_assoc]; rfl
theorem stand_run0 (x : Label × Bool) (s : List Label × Nat) (hs : s.1.length ≤ 100) : ∀ (k i f : Nat) (o : List Label), i + k = s.1.length → k < f → o.length + k ≤ 900 →
    ∃ r, run (ref11_Stand_l1 s x) f (o, false, i) = some r ∧ (if r.2 then r.1 else r.1 ++ [x.1]) = o ++ ins x.1 (s.1.drop i) ∧ r.1.length ≤ 1000
  | 0, i, f, o, hi, hf, ho => by
    obtain ⟨f, rfl⟩ : ∃ q, f = q + 1 := ⟨f - 1, by omega⟩
    refine ⟨(o, false), run_en ?_, ?_, by simp; omega⟩
    · unfold ref11_Stand_l1
      dsimp only
      rw [decide_eq_false (by omega), cond_false]
    · rw [List.drop_eq_nil_of_le (by omega)]; rfl
  | k + 1, i, f, o, hi, hf, ho => by
    obtain ⟨f, rfl⟩ : ∃ q, f = q + 1 := ⟨f - 1, by omega⟩
    have hlt : i < s.1.length := by omega
    rw [List.drop_eq_getElem_cons hlt]
    by_cases c : (s.1[i]).Gen < x.1.Gen
    · refine ⟨(o ++ [x.1] ++ [s.1[i]] ++ s.1.drop (i + 1), true), ?_, ?_, by simp; omega⟩
      · rw [run_st (s' := (o ++ [x.1] ++ [s.1[i]], true, i + 1)) (by
          unfold ref11_Stand_l1
          dsimp only
          rw [decide_eq_true (by omega), cond_true, Bool.not_false, cond_true, Zx _ hlt, decide_eq_true c, cond_true, YA (lim_le (by simp; omega)), Option.bind_some, Zx _ hlt]
          dsimp only
          rw [YA (lim_le (by simp; omega))]), stand_run1 x s hs k (i + 1) f _ (by omega) (by omega) (by simp; omega)]
      · unfold ins; rw [if_pos c, if_pos rfl]; simp
    · obtain ⟨r, h1, h2, h3⟩ := stand_run0 x s hs k (i + 1) f (o ++ [s.1[i]]) (by omega) (by omega) (by simp; omega)
      refine ⟨r, ?_, ?_, h3⟩
      · rw [run_st (s' := (o ++ [s.1[i]], false, i + 1)) (by
          unfold ref11_Stand_l1
          dsimp only
          rw [decide_eq_true (by omega), cond_true, Bool.not_false, cond_true, Zx _ hlt, decide_eq_false c, cond_false, Option.bind_some, Zx _ hlt]
          dsimp only
          rw [YA (lim_le (by simp; omega))])]; exact h1
      · rw [h2]; conv => rhs; unfold ins
        rw [if_neg c, List.append_assoc]; rfl
theorem stand_run {d : Disk} (h : OKD d) : ∀ (k i f : Nat) (acc : List Label), i + k = 4 → k < f → acc.length + k ≤ 50 →
    run (ref11_Stand_l2 d) f (acc, i) = some (((List.range' i k).filterMap (standB (seenB d))).foldl (fun a x => ins x a) acc)
  | 0, i, f, acc, hi, hf, ha => by
    obtain ⟨f, rfl⟩ : ∃ q, f = q + 1 := ⟨f - 1, by omega⟩
    refine run_en ?_
    unfold ref11_Stand_l2
    dsimp only
    rw [decide_eq_false (by omega)]; rfl
  | k + 1, i, f, acc, hi, hf, ha => by
    obtain ⟨f, rfl⟩ : ∃ q, f = q + 1 := ⟨f - 1, by omega⟩
    have hlt : i < (seenB d).length := by rw [seenB_length h]; omega
    have hb := seen_mem h (i := i) (by omega)
    obtain ⟨l, e1, e2⟩ := ref_of11 hb
    have hsb : standB (seenB d) i = if readOk ((seenB d).getD i []) ∧ slotN (parseL ((seenB d).getD i [])) = i then some (parseL ((seenB d).getD i [])) else none := by
      unfold standB
      rw [List.getD_eq_getElem?_getD, List.getElem?_eq_getElem hlt]; rfl
    rw [List.range'_succ, List.filterMap_cons, hsb]
    have hst : ref11_Stand_l2 d (acc, i) = Option.bind (some (l, decide (readOk ((seenB d).getD i [])))) fun x_20 => cond (!x_20.2) (some (.inl (acc, i + 1))) (Option.bind (ref11_Slot x_20.1.Gen) fun x_24 => cond (!decide (x_24 = ((i : Nat) : Int))) (some (.inl (acc, i + 1))) (Option.bind (loop (ref11_Stand_l1 (acc, i) x_20) (([] : List Label), false, 0)) (fun t_28 => cond (!t_28.2) (app t_28.1 ([x_20.1]) fun q_38 => some (.inl (q_38, i + 1))) (some (.inl (t_28.1, i + 1)))))) := by
      unfold ref11_Stand_l2
      dsimp only
      rw [decide_eq_true (by omega), cond_true, ref_seen9 h i (by omega), Option.bind_some, e1]
    by_cases c : readOk ((seenB d).getD i [])
    · have el := e2 c
      by_cases c1 : slotN (parseL ((seenB d).getD i [])) = i
      · obtain ⟨r, h1, h2, h3⟩ := stand_run0 (l, true) (acc, i) (by show acc.length ≤ 100; omega) acc.length 0 60 [] (by simp) (by omega) (by simp; omega)
        rw [if_pos ⟨c, c1⟩]
        dsimp only
        rw [List.foldl_cons, run_st (s' := (ins (parseL ((seenB d).getD i [])) acc, i + 1)) (by
          rw [hst, decide_eq_true c, Option.bind_some, Bool.not_true, cond_false, ref_slot11, Option.bind_some, decide_eq_true (by rw [el]; exact congrArg Int.ofNat c1), Bool.not_true, cond_false, show loop (ref11_Stand_l1 (acc, i) (l, true)) (([] : List Label), false, 0) = some r from loop_of (by decide) h1, Option.bind_some]
          rw [List.drop_zero, List.nil_append] at h2
          have h2 : (if r.2 = true then r.1 else r.1 ++ [l]) = ins l acc := h2
          rw [← el, ← h2]
          cases r.2 with
          | true => rfl
          | false => rw [Bool.not_false, cond_true, YA (lim_le (by simp; omega))]; rfl)]
        exact stand_run h k (i + 1) f _ (by omega) (by omega) (by rw [ins_length]; omega)
      · rw [if_neg (fun e => c1 e.2)]
        dsimp only
        rw [run_st (s' := (acc, i + 1)) (by
          rw [hst, decide_eq_true c, Option.bind_some, Bool.not_true, cond_false, ref_slot11, Option.bind_some, decide_eq_false (by rw [el]; intro e; exact c1 (Int.ofNat.inj e))]; rfl)]
        exact stand_run h k (i + 1) f acc (by omega) (by omega) (by omega)
    · rw [if_neg (fun e => c e.1)]
      dsimp only
      rw [run_st (s' := (acc, i + 1)) (by rw [hst, decide_eq_false c]; rfl)]
      exact stand_run h k (i + 1) f acc (by omega) (by omega) (by omega)
end Go.Ow.Lb

/-
  What is proved here: the law LabelRing, in plain words.
-/
namespace Go.Ow.Lb
set_option linter.unusedVariables false
set_option linter.unusedSimpArgs false
open Go.Ow

theorem ins_perm (x : Label) : ∀ l, (ins x l).Perm (x :: l)
  | [] => List.Perm.refl _
  | y :: r => by
    unfold ins
    split
    · exact List.Perm.refl _
    · exact ((ins_perm x r).cons y).trans (List.Perm.swap x y r)
theorem ins_sorted (x : Label) : ∀ {l : List Label}, l.Pairwise (fun p q => q.Gen ≤ p.Gen) → (ins x l).Pairwise (fun p q => q.Gen ≤ p.Gen)
  | [], _ => List.pairwise_singleton _ _
  | y :: r, h => by
    obtain ⟨h1, h2⟩ := List.pairwise_cons.1 h
    unfold ins
    split
    · rename_i c
      refine List.pairwise_cons.2 ⟨fun z hz => ?_, h⟩
      have hc : y.Gen ≤ x.Gen := UInt32.le_of_lt c
      rcases List.mem_cons.1 hz with rfl | hz
      · exact hc
      · exact UInt32.le_trans (h1 z hz) hc
    · rename_i c
      refine List.pairwise_cons.2 ⟨fun z hz => ?_, ins_sorted x h2⟩
      rcases List.mem_cons.1 ((ins_perm x r).mem_iff.1 hz) with rfl | hz
      · exact UInt32.not_lt.1 c
      · exact h1 z hz
theorem fold_ins : ∀ (l acc : List Label), acc.Pairwise (fun p q => q.Gen ≤ p.Gen) → (l.foldl (fun a x => ins x a) acc).Pairwise (fun p q => q.Gen ≤ p.Gen) ∧ (l.foldl (fun a x => ins x a) acc).Perm (l ++ acc)
  | [], acc, h => ⟨h, List.Perm.refl _⟩
  | x :: l, acc, h => by
    obtain ⟨h1, h2⟩ := fold_ins l (ins x acc) (ins_sorted x h)
    exact ⟨h1, h2.trans ((List.Perm.append_left l (ins_perm x acc)).trans List.perm_middle)⟩
theorem gen_unique {B : List (List UInt8)} {p q : Label} (hp : p ∈ allB B) (hq : q ∈ allB B) (h : p.Gen = q.Gen) : p = q := by
  unfold allB at hp hq
  obtain ⟨i, -, hi⟩ := List.mem_filterMap.1 hp
  obtain ⟨j, -, hj⟩ := List.mem_filterMap.1 hq
  have key : ∀ {s : Nat} {l : Label}, standB B s = some l → slotN l = s := by
    intro s l e
    unfold standB at e
    split at e
    · split at e
      · rename_i c; rw [← Option.some.inj e]; exact c.2
      · cases e
    · cases e
  have e1 := key hi
  have e2 := key hj
  have : i = j := by rw [← e1, ← e2]; unfold slotN; rw [h]
  subst this
  exact Option.some.inj (hi.symm.trans hj)
theorem sorted_unique : ∀ {l m : List Label}, l.Perm m → l.Pairwise (fun p q => q.Gen ≤ p.Gen) → m.Pairwise (fun p q => q.Gen ≤ p.Gen) → (∀ p ∈ l, ∀ q ∈ l, p.Gen = q.Gen → p = q) → l = m
  | [], m, h, _, _, _ => (List.nil_perm.1 h).symm
  | x :: l, [], h, _, _, _ => absurd h.length_eq (by simp)
  | x :: l, y :: m, h, hl, hm, hu => by
    obtain ⟨l1, l2⟩ := List.pairwise_cons.1 hl
    obtain ⟨m1, m2⟩ := List.pairwise_cons.1 hm
    have hy : y ∈ x :: l := h.mem_iff.2 (List.mem_cons_self ..)
    have hx : x ∈ y :: m := h.mem_iff.1 (List.mem_cons_self ..)
    have a1 : y.Gen ≤ x.Gen := by
      rcases List.mem_cons.1 hy with e | e
      · rw [e]; exact UInt32.le_refl _
      · exact l1 y e
    have a2 : x.Gen ≤ y.Gen := by
      rcases List.mem_cons.1 hx with e | e
      · rw [e]; exact UInt32.le_refl _
      · exact m1 x e
    have e : x = y := hu x (List.mem_cons_self ..) y hy (UInt32.le_antisymm a2 a1)
    subst e
    rw [sorted_unique (List.Perm.cons_inv h) l2 m2 (fun p hp q hq => hu p (List.mem_cons_of_mem _ hp) q (List.mem_cons_of_mem _ hq))]
theorem ref_find11 (d : Disk) : ref11_Find d = some (findD d) := by
  unfold ref11_Find findD
  rw [ref_may9, Option.bind_some]
  by_cases c : OKD d
  · rw [decide_eq_true c, if_pos c, Bool.not_true, cond_false]
    unfold ref11_Stand
    have hr := stand_run c 4 0 10 [] (by omega) (by omega) (by simp)
    rw [show loop (ref11_Stand_l2 d) (([] : List Label), 0) = _ from loop_of (by decide) hr, Option.bind_some, Option.bind_some, ← List.range_eq_range']
    obtain ⟨h1, h2⟩ := fold_ins (allB (seenB d)) [] List.Pairwise.nil
    rw [List.append_nil] at h2
    obtain ⟨g1, g2⟩ := sortG_spec (allB (seenB d))
    have e : (allB (seenB d)).foldl (fun a x => ins x a) [] = sortG (allB (seenB d)) :=
      sorted_unique (h2.trans g1.symm) h1 g2 (fun p hp q hq => gen_unique (h2.mem_iff.1 hp) (h2.mem_iff.1 hq))
    rw [show (List.range 4).filterMap (standB (seenB d)) = allB (seenB d) from rfl, e]
  · rw [decide_eq_false c, if_neg c]; rfl
theorem ring_l1 (x : List Label × Int) : ∀ (k i f : Nat), i + k = x.1.length → k < f → run (law11_LabelRing_l1 x x) f i = some (.inl ())
  | 0, i, f, hi, hf => by
    obtain ⟨f, rfl⟩ : ∃ q, f = q + 1 := ⟨f - 1, by omega⟩
    exact run_en (by unfold law11_LabelRing_l1; rw [decide_eq_false (by omega)]; rfl)
  | k + 1, i, f, hi, hf => by
    obtain ⟨f, rfl⟩ : ∃ q, f = q + 1 := ⟨f - 1, by omega⟩
    have hlt : i < x.1.length := by omega
    rw [run_st (s' := i + 1) (by
      unfold law11_LabelRing_l1
      rw [decide_eq_true (by omega), cond_true, Zx _ hlt, Zx _ hlt]
      show (bif !(eqL x.1[i] x.1[i]) then _ else _) = _
      rw [(eqL_iff _ _).2 rfl]; rfl)]
    exact ring_l1 x k (i + 1) f (by omega) (by omega)
theorem ring_l2 (x : Disk × Int) (hx : ∀ w ∈ x.1.Waits, w.Data.length = 256) : ∀ (k i f : Nat), i + k = x.1.Waits.length → k < f → run (law11_LabelRing_l2 x) f i = some ()
  | 0, i, f, hi, hf => by
    obtain ⟨f, rfl⟩ : ∃ q, f = q + 1 := ⟨f - 1, by omega⟩
    exact run_en (by unfold law11_LabelRing_l2; rw [decide_eq_false (by omega)]; rfl)
  | k + 1, i, f, hi, hf => by
    obtain ⟨f, rfl⟩ : ∃ q, f = q + 1 := ⟨f - 1, by omega⟩
    have hlt : i < x.1.Waits.length := by omega
    have hl := hx _ (List.getElem_mem hlt)
    have h0 : 0 < (x.1.Waits[i]).Data.length := by omega
    rw [run_st (s' := i + 1) (by
      unfold law11_LabelRing_l2
      rw [decide_eq_true (by omega), cond_true, Zx _ hlt, Zx _ hlt, show (0 : Int) = ((0 : Nat) : Int) from rfl, Zx _ h0, Zx _ h0])]
    exact ring_l2 x hx k (i + 1) f (by omega) (by omega)
theorem law_LabelRing (d : Disk) (l : Label) (hs : Sized d) (hF : FitD d) : law11_LabelRing d l = some true := by
  unfold law11_LabelRing
  obtain ⟨g, hg⟩ := Ow.great_tot hs
  rw [hg, Option.bind_some]
  cases g with
  | true => rfl
  | false =>
    have hb := great_small hF hg
    have hL := findD_len d
    have hp := putD_sized (d := d) l
    have hW : ∀ w ∈ (putD d l).1.Waits, w.Data.length = 256 := by
      rcases putD_cases d l with ⟨-, h2⟩ | h
      · rw [h2]; intro w hw; cases hw
      · exact fun w hw => ((okW_iff w).1 (h.2.2.1.2.2.2 w hw)).2
    rw [cond_false, ref_twin9 hb, Option.bind_some, label_Put_eq hs, Option.bind_some, ref_put11, Option.bind_some, label_Find_eq hs, Option.bind_some, ref_find11, Option.bind_some, ref_same09 hp, Option.bind_some, Bool.not_true, cond_false, nbeq rfl, cond_false, nbeq rfl, cond_false, nbeq rfl, cond_false,
      label_Slot_eq, Option.bind_some, ref_slot11, Option.bind_some, nbeq rfl, cond_false, show loop (law11_LabelRing_l1 (findD d) (findD d)) 0 = some (.inl ()) from loop_of (n := 10) (by decide) (ring_l1 (findD d) (findD d).1.length 0 10 (by omega) (by omega)), Option.bind_some, Sum.elim_inl,
      show loop (law11_LabelRing_l2 (putD d l)) 0 = some () from ring_l2 (putD d l) hW (putD d l).1.Waits.length 0 FUEL (by omega) (Nat.lt_of_le_of_lt hp.waits (by decide)), Option.bind_some, ref_same09 hs]
    rfl
end Go.Ow.Lb
