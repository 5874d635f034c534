/-
  What is proved here: slices: those of the heaplet, which stay as they are, and rows that the walk owns; over OwC.
-/
import Derived.Test.YtdelcjkjkhcaoaaOwC
namespace Go.Ow
open Go.RowKit
set_option linter.unusedVariables false
set_option linter.unusedSimpArgs false

variable {x : Cx} {ops : Array Oper} {Q : Exit → Act → World → Prop} {rest : List Oper} {l : Slots} {own : List Own} {H : Heaplet}

theorem wi64 {n : Int} (h1 : -9223372036854775808 ≤ n) (h2 : n ≤ 9223372036854775807) : IntKind.i64.wrap n = n := IntWalk.i64_in n ⟨h1, h2⟩
/-- how a datum lies in cells -/
abbrev Rep (α : Type) := Heaplet → List Value → α → Prop
def Rep.Mono {α : Type} (R : Rep α) : Prop := ∀ H H' cs x, Hle H H' → R H cs x → R H' cs x

def RU8 : Rep UInt8 := fun _ cs b => cs = [.int .u8 b.toNat]
def RU32 : Rep UInt32 := fun _ cs n => cs = [.int .u32 n.toNat]
def InI64 (n : Int) : Prop := -9223372036854775808 ≤ n ∧ n ≤ 9223372036854775807
def RI64 : Rep Int := fun _ cs n => cs = [.int .i64 n] ∧ InI64 n
def RBool : Rep Bool := fun _ cs b => cs = [.bool b]

def IsSlice {α : Type} (H : Heaplet) (R : Rep α) (size : Nat) (v : Value) (l : List α) : Prop :=
  ∃ ao cap, v = .slice ao l.length cap ∧ l.length ≤ cap ∧ cap ≤ maxLen ∧ (∀ a, ao = some a → cap = 0 ∨ a.spot = none) ∧ (ao = none → cap = 0) ∧
    ∀ i y, l[i]? = some y → ∃ b o cs, ao = some ⟨b, o, none⟩ ∧ cs.length = size ∧ R H cs y ∧ ∀ j u, cs[j]? = some u → H b (o + i * size + j) = some u
abbrev IsB (H : Heaplet) (v : Value) (l : List UInt8) : Prop := IsSlice H RU8 1 v l

theorem IsSlice.mono {α : Type} {R : Rep α} (hR : R.Mono) {size : Nat} {v : Value} {l : List α} {H' : Heaplet} (hle : Hle H H') (h : IsSlice H R size v l) : IsSlice H' R size v l := by
  obtain ⟨ao, cap, e, h1, h2, h3, h4, h5⟩ := h
  refine ⟨ao, cap, e, h1, h2, h3, h4, fun i y hy => ?_⟩
  obtain ⟨b, o, cs, e1, e2, e3, e4⟩ := h5 i y hy
  exact ⟨b, o, cs, e1, e2, hR _ _ _ _ hle e3, fun j u hu => hle _ _ _ (e4 j u hu)⟩
theorem IsSlice.len_le {α : Type} {R : Rep α} {size : Nat} {v : Value} {l : List α} (h : IsSlice H R size v l) : l.length ≤ 9223372036854775807 := by
  obtain ⟨ao, cap, e, h1, h2, _⟩ := h; unfold maxLen at h2; omega
theorem RU8.mono : RU8.Mono := fun _ _ _ _ _ h => h
theorem RU32.mono : RU32.Mono := fun _ _ _ _ _ h => h
theorem RI64.mono : RI64.Mono := fun _ _ _ _ _ h => h
theorem RBool.mono : RBool.Mono := fun _ _ _ _ _ h => h
theorem IsB.mono {v : Value} {l : List UInt8} {H' : Heaplet} (hle : Hle H H') (h : IsB H v l) : IsB H' v l := IsSlice.mono RU8.mono hle h
theorem IsSlice.nil {α : Type} (H : Heaplet) (R : Rep α) (size : Nat) : IsSlice H R size (.slice none 0 0) [] :=
  ⟨none, 0, rfl, Nat.le_refl _, by simp [maxLen], fun _ h => (by cases h), fun _ => rfl, fun i y h => (by simp at h)⟩

/-- cells, element by element -/
def Flat {α : Type} (H : Heaplet) (R : Rep α) (size : Nat) : List Value → List α → Prop
  | cells, [] => cells = []
  | cells, y :: r => ∃ cs more, cells = cs ++ more ∧ cs.length = size ∧ R H cs y ∧ Flat H R size more r
theorem Flat.length {α : Type} {R : Rep α} {size : Nat} : ∀ {l : List α} {cells : List Value}, Flat H R size cells l → cells.length = l.length * size
  | [], cells, h => by simp only [Flat] at h; subst h; simp
  | y :: r, cells, h => by
    obtain ⟨cs, more, rfl, h1, _, h2⟩ := h
    have := Flat.length h2
    simp [this, h1, Nat.add_mul]; omega
theorem Flat.append {α : Type} {R : Rep α} {size : Nat} {l' : List α} {cells' : List Value} (h' : Flat H R size cells' l') : ∀ {l : List α} {cells : List Value}, Flat H R size cells l → Flat H R size (cells ++ cells') (l ++ l')
  | [], cells, h => by simp only [Flat] at h; subst h; simpa using h'
  | y :: r, cells, h => by
    obtain ⟨cs, more, rfl, h1, h2, h3⟩ := h
    exact ⟨cs, more ++ cells', by simp, h1, h2, Flat.append h' h3⟩
theorem Flat.one {α : Type} {R : Rep α} {size : Nat} {y : α} {cs : List Value} (h : R H cs y) (hl : cs.length = size) : Flat H R size cs [y] := ⟨cs, [], by simp, hl, h, rfl⟩
theorem Flat.mono {α : Type} {R : Rep α} (hR : R.Mono) {size : Nat} {H' : Heaplet} (hle : Hle H H') : ∀ {l : List α} {cells : List Value}, Flat H R size cells l → Flat H' R size cells l
  | [], cells, h => h
  | y :: r, cells, h => by
    obtain ⟨cs, more, rfl, h1, h2, h3⟩ := h
    exact ⟨cs, more, rfl, h1, hR _ _ _ _ hle h2, Flat.mono hR hle h3⟩
theorem Flat.at {α : Type} {R : Rep α} {size : Nat} : ∀ {l : List α} {cells : List Value}, Flat H R size cells l → ∀ {i : Nat} {y : α}, l[i]? = some y →
    ∃ cs, cs.length = size ∧ R H cs y ∧ ∀ j u, cs[j]? = some u → cells[i * size + j]? = some u
  | [], cells, h, i, y, hi => by simp at hi
  | z :: r, cells, h, 0, y, hi => by
    obtain ⟨cs, more, rfl, h1, h2, h3⟩ := h
    simp at hi; subst hi
    refine ⟨cs, h1, h2, fun j u hu => ?_⟩
    have hj : j < cs.length := (List.getElem?_eq_some_iff.1 hu).1
    simpa [List.getElem?_append, hj] using hu
  | z :: r, cells, h, i + 1, y, hi => by
    obtain ⟨cs, more, rfl, h1, h2, h3⟩ := h
    obtain ⟨cs', e1, e2, e3⟩ := Flat.at h3 (i := i) (y := y) (by simpa using hi)
    refine ⟨cs', e1, e2, fun j u hu => ?_⟩
    rw [List.getElem?_append_right (by rw [h1, Nat.add_mul]; omega), h1, show (i + 1) * size + j - size = i * size + j by rw [Nat.add_mul]; omega]
    exact e3 j u hu
def bvs (l : List UInt8) : List Value := l.map fun b => .int .u8 b.toNat
theorem Flat.bytes : ∀ (l : List UInt8), Flat H RU8 1 (bvs l) l
  | [] => rfl
  | b :: r => ⟨[.int .u8 b.toNat], bvs r, rfl, rfl, rfl, Flat.bytes r⟩
theorem Flat.of_u8 : ∀ {l : List UInt8} {cells : List Value}, Flat H RU8 1 cells l → cells = bvs l
  | [], cells, h => h
  | b :: r, cells, h => by
    obtain ⟨cs, more, rfl, h1, h2, h3⟩ := h
    rw [Flat.of_u8 h3, h2]; rfl

/-- the cells of a slice of the heaplet -/
theorem IsSlice.cells {α : Type} {R : Rep α} {size : Nat} {v : Value} {l : List α} (h : IsSlice H R size v l) :
    ∃ cells, Flat H R size cells l ∧ ∃ ao cap, v = .slice ao l.length cap ∧ (l = [] ∨ ∃ b o, ao = some ⟨b, o, none⟩ ∧ ∀ j u, cells[j]? = some u → H b (o + j) = some u) := by
  obtain ⟨ao, cap, e, h1, h2, h3, h4, h5⟩ := h
  cases hl : l with
  | nil => exact ⟨[], rfl, ao, cap, by rw [e, hl], .inl rfl⟩
  | cons y0 r0 =>
    obtain ⟨b, o, _, hao, _⟩ := h5 0 y0 (by simp [hl])
    have key : ∀ (m : List α) (k : Nat), (∀ i y, m[i]? = some y → l[k + i]? = some y) → ∃ cells, Flat H R size cells m ∧ ∀ j u, cells[j]? = some u → H b (o + k * size + j) = some u := by
      intro m
      induction m with
      | nil => intro k _; exact ⟨[], rfl, fun j u hu => by simp at hu⟩
      | cons y r ih =>
        intro k hm
        obtain ⟨cells, hf, hc⟩ := ih (k + 1) (fun i z hz => by have := hm (i + 1) z (by simpa using hz); rwa [show k + (i + 1) = k + 1 + i by omega] at this)
        obtain ⟨b', o', cs, ea, e1, e2, e3⟩ := h5 k y (hm 0 y (by simp))
        rw [hao] at ea; simp at ea; obtain ⟨rfl, rfl⟩ := ea
        refine ⟨cs ++ cells, ⟨cs, cells, rfl, e1, e2, hf⟩, fun j u hu => ?_⟩
        rcases Nat.lt_or_ge j cs.length with hj | hj
        · rw [List.getElem?_append_left hj] at hu; exact e3 j u hu
        · rw [List.getElem?_append_right hj] at hu
          have := hc _ _ hu
          rw [e1, Nat.add_mul] at this
          rw [show o + k * size + j = o + (k * size + 1 * size) + (j - size) by omega]; exact this
    obtain ⟨cells, hf, hc⟩ := key l 0 (fun i y hy => by simpa using hy)
    rw [← hl]
    exact ⟨cells, hf, ao, cap, e, .inr ⟨b, o, hao, fun j u hu => by simpa using hc j u hu⟩⟩

theorem IsSlice.of_cells {α : Type} {R : Rep α} {size : Nat} {l : List α} {cells : List Value} {b o cap : Nat} (hf : Flat H R size cells l) (hcap : l.length ≤ cap) (hm : cap ≤ maxLen)
    (hc : ∀ j u, cells[j]? = some u → H b (o + j) = some u) : IsSlice H R size (.slice (some ⟨b, o, none⟩) l.length cap) l :=
  ⟨_, cap, rfl, hcap, hm, fun a e => (by cases e; exact .inr rfl), fun e => (by cases e), fun i y hy => by
    obtain ⟨cs, e1, e2, e3⟩ := hf.at hy
    exact ⟨b, o, cs, rfl, e1, e2, fun j u hu => by have := hc _ _ (e3 j u hu); rwa [← Nat.add_assoc] at this⟩⟩

/-! ### Operations on slices of the heaplet -/
section ops
variable {ty : TypeId} {d : Nat} {pos : String} {aft : Array Edge} {v : Value}

theorem JL.lenS {α : Type} {R : Rep α} {size : Nat} {p : Operand} {t e : TypeId} {m : List α} (hu : x.P.underlying t = some (.slice e)) (h1 : evo l p = some v) (hs : IsSlice H R size v m) (hd : Nat.blt d x.n = true)
    (h : JL x ops Q rest ((d, .int .i64 m.length) :: l) own H) : JL x ops Q (⟨some d, .call ⟨.builtin .len, #[p], #[t]⟩, ty, pos, aft, none⟩ :: rest) l own H := by
  obtain ⟨ao, cap, rfl, _⟩ := hs
  exact JL.len hu h1 hd h

theorem run_indexAt {P : Program} {T e : TypeId} {g : Bool} {n : Nat} (hu : P.underlying T = some (.slice e)) (hs : shapeOf P e = some (g, n)) {b o len cap k : Nat} {kk : IntKind} (hk : k < len) (w : World) :
    (Instr.indexAt T (.slice (some ⟨b, o, none⟩) len cap) (.int kk (k : Int))).run P w = .ok (.pointer (some ⟨b, o + k * n, none⟩)) w := by
  have h0 : (0 : Int) ≤ (k : Int) ∧ (k : Int) < (len : Int) := ⟨by omega, by omega⟩
  simp only [Instr.indexAt, asIntOf, Sem.run_bind, Sem.run_pure, Result.andThen, run_underlying hu, if_pos h0, run_sizeOf hs, Int.toNat_natCast, add_lit]

theorem JL.ix {α : Type} {R : Rep α} {p q : Operand} {T e : TypeId} {g : Bool} {n : Nat} {m : List α} {kk : IntKind} {i : Int} {k : Nat} (hu : x.P.underlying T = some (.slice e)) (hs : shapeOf x.P e = some (g, n))
    (h1 : evo l p = some v) (hS : IsSlice H R n v m) (h2 : evo l q = some (.int kk i)) (hi : i = (k : Int)) (hk : k < m.length) (hd : Nat.blt d x.n = true)
    (h : ∀ b o cs, R H cs m[k] → cs.length = n → (∀ j u, cs[j]? = some u → H b (o + j) = some u) → JL x ops Q rest ((d, .pointer (some ⟨b, o, none⟩)) :: l) own H) :
    JL x ops Q (⟨some d, .indexAddr T p q, ty, pos, aft, none⟩ :: rest) l own H := by
  obtain ⟨ao, cap, rfl, e1, e2, e3, e4, e5⟩ := hS
  obtain ⟨b, o, cs, rfl, f1, f2, f3⟩ := e5 k _ (List.getElem?_eq_getElem hk)
  subst hi
  exact JL.val hd rfl (fun ρ w _ _ _ _ hρ hm => by simp only [execOp, hρ _ _ h1, hρ _ _ h2]; exact run_v (run_indexAt hu hs hk w)) (h b (o + k * n) cs f2 f1 f3)
/-- a byte -/
theorem JL.ixB {p q : Operand} {T e : TypeId} {g : Bool} {m : List UInt8} {kk : IntKind} {i : Int} {k : Nat} (hu : x.P.underlying T = some (.slice e)) (hs : shapeOf x.P e = some (g, 1))
    (h1 : evo l p = some v) (hS : IsB H v m) (h2 : evo l q = some (.int kk i)) (hi : i = (k : Int)) (hk : k < m.length) (hd : Nat.blt d x.n = true)
    (h : ∀ b o, H b o = some (.int .u8 (m[k].toNat : Int)) → JL x ops Q rest ((d, .pointer (some ⟨b, o, none⟩)) :: l) own H) :
    JL x ops Q (⟨some d, .indexAddr T p q, ty, pos, aft, none⟩ :: rest) l own H :=
  JL.ix hu hs h1 hS h2 hi hk hd (fun b o cs hR _ hc => h b o (by rw [show cs = _ from hR] at hc; simpa using hc 0 _ rfl))
/-- a cell of the heaplet -/
theorem JL.ldH {p : Operand} {T n b o : Nat} (hs : shapeOf x.P T = some (false, n)) (h1 : evo l p = some (.pointer (some ⟨b, o, none⟩))) (ha : H b o = some v) (hd : Nat.blt d x.n = true)
    (h : JL x ops Q rest ((d, v) :: l) own H) : JL x ops Q (⟨some d, .load T p, ty, pos, aft, none⟩ :: rest) l own H := JL.ld hs h1 (.inl ha) hd h
end ops
end Go.Ow
