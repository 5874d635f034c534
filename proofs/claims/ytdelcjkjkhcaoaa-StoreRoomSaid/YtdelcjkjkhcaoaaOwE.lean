/-
  What is proved here: rows that a walk owns: append, literals, make, stores, and how a row is given away to the heaplet; over OwD.
-/
import Derived.Test.YtdelcjkjkhcaoaaOwD
import Derived.Deep.Upon
namespace Go.Ow
open Go.RowKit
set_option linter.unusedVariables false
set_option linter.unusedSimpArgs false

variable {x : Cx} {ops : Array Oper} {Q : Exit → Act → World → Prop} {rest : List Oper} {l : Slots} {own : List Own} {H : Heaplet}

/-- a slice value and the row (if any) that it begins; no block below B -/
def Row (B : Nat) (E : TypeId) (size : Nat) (v : Value) (cells : List Value) (n : Nat) (K : Own) : Prop :=
  cells.length = n * size ∧ ((v = .slice none 0 0 ∧ n = 0 ∧ K = []) ∨
    ∃ g cap cur, v = .slice (some ⟨g, 0, none⟩) n cap ∧ K = [(g, .cells cur E (0, 0))] ∧ B ≤ g ∧ n ≤ cap ∧ cap ≤ maxLen ∧ cap * size ≤ cur.size ∧ cur.toList.take (n * size) = cells)
def oneCells (cs : List Value) : Prop := ∀ u ∈ cs, u.oneCell' = true
def RowOf {α : Type} (H : Heaplet) (R : Rep α) (B : Nat) (E : TypeId) (size : Nat) (v : Value) (ls : List α) (K : Own) : Prop :=
  ∃ cells, Row B E size v cells ls.length K ∧ Flat H R size cells ls ∧ oneCells cells
theorem RowOf.nil {α : Type} (H : Heaplet) (R : Rep α) (B : Nat) (E : TypeId) (size : Nat) : RowOf H R B E size (.slice none 0 0) [] [] :=
  ⟨[], ⟨by simp, .inl ⟨rfl, rfl, rfl⟩⟩, rfl, fun _ h => by cases h⟩
theorem RowOf.mono {α : Type} {R : Rep α} (hR : R.Mono) {B : Nat} {E : TypeId} {size : Nat} {v : Value} {ls : List α} {K : Own} {H' : Heaplet} (hle : Hle H H') (h : RowOf H R B E size v ls K) : RowOf H' R B E size v ls K := by
  obtain ⟨cells, h1, h2, h3⟩ := h
  exact ⟨cells, h1, h2.mono hR hle, h3⟩
theorem RowOf.weak {α : Type} {R : Rep α} {B B' : Nat} (hB : B' ≤ B) {E : TypeId} {size : Nat} {v : Value} {ls : List α} {K : Own} (h : RowOf H R B E size v ls K) : RowOf H R B' E size v ls K := by
  obtain ⟨cells, ⟨h0, h1⟩, h2, h3⟩ := h
  refine ⟨cells, ⟨h0, ?_⟩, h2, h3⟩
  rcases h1 with h1 | ⟨g, cap, cur, e1, e2, e3, r⟩
  · exact .inl h1
  · exact .inr ⟨g, cap, cur, e1, e2, Nat.le_trans hB e3, r⟩
/-- of what a call hands back, all blocks are new -/
theorem RowOf.base {α : Type} {R : Rep α} {B B' : Nat} {E : TypeId} {size : Nat} {v : Value} {ls : List α} {K : Own} (h : RowOf H R B E size v ls K) (hB : ∀ p ∈ K, B' ≤ p.1) : RowOf H R B' E size v ls K := by
  obtain ⟨cells, ⟨h0, h1⟩, h2, h3⟩ := h
  refine ⟨cells, ⟨h0, ?_⟩, h2, h3⟩
  rcases h1 with h1 | ⟨g, cap, cur, e1, e2, e3, r⟩
  · exact .inl h1
  · exact .inr ⟨g, cap, cur, e1, e2, hB (g, .cells cur E (0, 0)) (by simp [e2]), r⟩
theorem RowOf.len {α : Type} {R : Rep α} {B : Nat} {E : TypeId} {size : Nat} {v : Value} {ls : List α} {K : Own} (h : RowOf H R B E size v ls K) : ∃ ao cap, v = .slice ao ls.length cap ∧ ls.length ≤ cap ∧ cap ≤ maxLen := by
  obtain ⟨cells, ⟨h0, h1⟩, h2, h3⟩ := h
  rcases h1 with ⟨e1, e2, _⟩ | ⟨g, cap, cur, e1, e2, e3, e4, e5, r⟩
  · exact ⟨none, 0, by rw [e1, e2], by omega, by simp [maxLen]⟩
  · exact ⟨_, cap, e1, e4, e5⟩

def Rep.One {α : Type} (R : Rep α) : Prop := ∀ H cs y, R H cs y → oneCells cs
theorem RU8.one : RU8.One := fun _ cs y h => by rw [show cs = _ from h]; intro u hu; simp at hu; subst hu; rfl
theorem RU32.one : RU32.One := fun _ cs y h => by rw [show cs = _ from h]; intro u hu; simp at hu; subst hu; rfl
theorem RI64.one : RI64.One := fun _ cs y h => by rw [h.1]; intro u hu; simp at hu; subst hu; rfl
theorem RBool.one : RBool.One := fun _ cs y h => by rw [show cs = _ from h]; intro u hu; simp at hu; subst hu; rfl
theorem Flat.one' {α : Type} {R : Rep α} (hR : R.One) {size : Nat} : ∀ {l : List α} {cells : List Value}, Flat H R size cells l → oneCells cells
  | [], cells, h => by simp only [Flat] at h; subst h; intro u hu; cases hu
  | y :: r, cells, h => by
    obtain ⟨cs, more, rfl, h1, h2, h3⟩ := h
    intro u hu
    rcases List.mem_append.1 hu with hu | hu
    · exact hR _ _ _ h2 u hu
    · exact Flat.one' hR h3 u hu

/-! ### Sources of an append -/
def SrcR {α : Type} (x : Cx) (H : Heaplet) (own : List Own) (R : Rep α) (size : Nat) (tx : TypeId) (y : Value) (ls : List α) : Prop :=
  ∃ cells, Flat H R size cells ls ∧ oneCells cells ∧ ∀ w, Mem x.w0 x.H0 x.S own.flatten H w → Src x.P size tx y ls.length cells w
theorem SrcR.slice {α : Type} {R : Rep α} (hR : R.One) {size : Nat} {tx e : TypeId} {y : Value} {ls : List α} (hu : x.P.underlying tx = some (.slice e)) (hs : IsSlice H R size y ls) : SrcR x H own R size tx y ls := by
  obtain ⟨cells, hf, ao, cap, rfl, hc⟩ := hs.cells
  refine ⟨cells, hf, hf.one' hR, fun w hm => ?_⟩
  rcases hc with rfl | ⟨b, o, rfl, hc⟩
  · simp only [Flat] at hf; subst hf
    cases ao with
    | none => exact Src.ofNil w hu cap
    | some a => exact Src.ofSlice w hu a 0 cap [] (by simp) (fun j u h => by simp at h) (fun u h => by cases h)
  · exact Src.ofSlice w hu ⟨b, o, none⟩ _ cap cells (by rw [hf.length]) (fun j u h => by rw [add_lit]; exact hm.agr _ _ _ (hc j u h)) (hf.one' hR)
theorem SrcR.row {α : Type} {R : Rep α} {size B : Nat} {tx e E : TypeId} {y : Value} {ls : List α} {K : Own} (j : Nat) (hu : x.P.underlying tx = some (.slice e)) (hj : own[j]? = some K) (hs : RowOf H R B E size y ls K) : SrcR x H own R size tx y ls := by
  obtain ⟨cells, ⟨h0, h1⟩, hf, ho⟩ := hs
  refine ⟨cells, hf, ho, fun w hm => ?_⟩
  rcases h1 with ⟨rfl, h3, h4⟩ | ⟨g, cap, cur, rfl, e2, e3, e4, e5, e6, e7⟩
  · have : ls = [] := List.length_eq_zero_iff.1 h3
    subst this
    simp only [Flat] at hf; subst hf
    exact Src.ofNil w hu 0
  · subst e2
    have hg := (own_here hm hj).here (g, .cells cur E (0, 0)) (by simp)
    refine Src.ofSlice w hu ⟨g, 0, none⟩ _ cap cells h0 (fun k u h => ?_) ho
    rw [add_lit, Nat.zero_add, cell_of_row w g k cur E (0, 0) hg]
    rw [← e7, List.getElem?_take] at h
    split at h
    · simpa using h
    · cases h
/-! ### append -/
/-- its default value, its cells, its bytes -/
def eInfo (P : Program) (E : TypeId) : Option (Value × Nat × Nat) :=
  (P.info? E).bind fun i => i.zero.bind fun z => if z.cells.size = i.size ∧ 0 < i.size then some (z, i.size, i.bytes) else none
theorem eInfo_parts {P : Program} {E : TypeId} {z : Value} {size bytes : Nat} (h : eInfo P E = some (z, size, bytes)) :
    ∃ i, P.info? E = some i ∧ i.zero = some z ∧ i.size = size ∧ i.bytes = bytes ∧ z.cells.size = size ∧ 0 < size := by
  unfold eInfo at h
  cases hi : P.info? E with
  | none => simp [hi] at h
  | some i =>
    cases hz : i.zero with
    | none => simp [hi, hz] at h
    | some z' =>
      simp only [hi, hz, Option.bind_some] at h
      split at h
      · rename_i hc; simp at h; obtain ⟨rfl, rfl, rfl⟩ := h; exact ⟨i, rfl, hz, rfl, rfl, hc.1, hc.2⟩
      · cases h

theorem Mem.drew {w : World} {H : Heaplet} {w0 : World} {H0 : Heaplet} {S : List Nat} {o : Own} (h : Mem w0 H0 S o H w) : Mem w0 H0 S o H w.drew :=
  ⟨h.agr, ⟨h.ok.here, h.ok.nodup, h.ok.apart⟩, ⟨h.kept.os, h.kept.tape, h.kept.output, h.kept.size, Nat.le_succ_of_le h.kept.drawn, h.kept.block⟩, h.fresh, h.le, h.grow, h.soft⟩
theorem Mem.same {w : World} {H : Heaplet} {K : Own} (ha : Agrees H w) (hk : OwnOk H K w) : Mem w H (ids K) K H w :=
  ⟨ha, hk, Kept.refl _ _, fun p hp => .inl (List.mem_map_of_mem hp), Hle.refl _, fun _ _ _ => rfl, Mem.soft0⟩

theorem append_row {P : Program} {w : World} {H : Heaplet} {t tx ty E : TypeId} {z : Value} {size bytes : Nat} (hu : P.underlying t = some (.slice E)) (he : eInfo P E = some (z, size, bytes))
    {B n m : Nat} {v y : Value} {cells news : List Value} {K : Own} (ha : Agrees H w) (hk : OwnOk H K w) (hr : Row B E size v cells n K) (hs : Src P size tx y m news w)
    (h63 : n + m ≤ maxLen) (hb : (n + m) * bytes ≤ 140737488355328) (hB : B ≤ w.heap.size) :
    ∃ v' K' w', (Builtin.append_ #[t, tx] ty #[v, y]).run P w = .ok v' w' ∧ Row B E size v' (cells ++ news) (n + m) K' ∧ Mem w H (ids K) K' H w' := by
  obtain ⟨i, hi, hz, hsz, hby, hzs, hpos⟩ := eInfo_parts he
  subst hsz; subst hby
  obtain ⟨h0, h1⟩ := hr
  have hlen : (cells ++ news).length = (n + m) * i.size := by rw [List.length_append, h0, hs.newsLen, Nat.add_mul]
  by_cases hm0 : m = 0
  · subst hm0
    have hn : news = [] := List.length_eq_zero_iff.1 (by rw [hs.newsLen]; simp)
    subst hn
    refine ⟨v, K, w, ?_, ⟨by simpa using hlen, by simpa using h1⟩, Mem.same ha hk⟩
    rcases h1 with ⟨rfl, rfl, rfl⟩ | ⟨g, cap, cur, rfl, rfl, e3, e4, e5, e6, e7⟩
    · exact run_append_nothing w t tx ty E i hu hi none 0 0 (Nat.le_refl _) y hs
    · exact run_append_nothing w t tx ty E i hu hi _ n cap e4 y hs
  · have grows : ∀ (base : Option Addr) (sCap : Nat), (Builtin.firstCells i.size n (.slice base n sCap)).run P w.drew = .ok cells.toArray w.drew → sCap < n + m →
        ∃ v' K' w', (Builtin.append_ #[t, tx] ty #[.slice base n sCap, y]).run P w = .ok v' w' ∧ Row B E i.size v' (cells ++ news) (n + m) K' ∧ Mem w H [] K' H w' := by
      intro base sCap hold hg
      have hsmall : n + m ≤ 9223372036854775807 := by simp only [maxLen] at h63; omega
      have hrun := run_append_grow_src (P := P) w t tx ty E i z hu hi hz base n sCap cells hold y m news hs hg (by omega) (growslice_fits hg hb)
      have hge := grownCap_ge w (n + m) sCap E
      have hcm : grownCap w (n + m) sCap E ≤ maxLen := grownCap_le_maxLen w (n + m) sCap E h63
      obtain ⟨C, hC⟩ : ∃ C, C = (cells ++ news).toArray ++ Builtin.zeroCells z.cells (grownCap w (n + m) sCap E - (n + m)) := ⟨_, rfl⟩
      rw [← hC] at hrun
      refine ⟨_, [(w.heap.size, .cells C E (0, 0))], _, hrun, ⟨hlen, .inr ⟨w.heap.size, _, C, rfl, rfl, hB, hge, hcm, ?_, ?_⟩⟩, ?_⟩
      · rw [hC]; simp only [Array.size_append, List.size_toArray, size_zeroCells, hzs, hlen, ← Nat.add_mul]
        refine Nat.mul_le_mul_right _ ?_; omega
      · rw [hC]; simp only [Array.toList_append, List.append_assoc, List.toList_toArray]
        rw [← List.append_assoc, ← hlen]; exact List.take_left
      · have h := Mem.alloc (w := w.drew) (H := H) (fun b o v e => ha b o v e) (.cells C E (0, 0))
        exact ⟨h.agr, h.ok, ⟨h.kept.os, h.kept.tape, h.kept.output, h.kept.size, Nat.le_trans (Nat.le_succ _) h.kept.drawn, h.kept.block⟩, h.fresh, h.le, h.grow, h.soft⟩
    rcases h1 with ⟨rfl, rfl, rfl⟩ | ⟨g, cap, cur, rfl, rfl, e3, e4, e5, e6, e7⟩
    · have hc : cells = [] := List.length_eq_zero_iff.1 (by rw [h0]; simp)
      subst hc
      obtain ⟨v', K', w', r1, r2, r3⟩ := grows none 0 (by simp [Builtin.firstCells, go_sem]) (by omega)
      exact ⟨v', K', w', r1, r2, by simpa [ids] using r3⟩
    · have hg := hk.here (g, .cells cur E (0, 0)) (by simp)
      have hgd : ∀ j u, cells[j]? = some u → w.cell? ((⟨g, 0, none⟩ : Addr).add j) = some u := fun j u hj => by
        rw [add_lit, Nat.zero_add, cell_of_row w g j cur E (0, 0) hg]
        rw [← e7, List.getElem?_take] at hj
        split at hj
        · simpa using hj
        · cases hj
      by_cases hroom : n + m ≤ cap
      · have hfit : n * i.size + news.length ≤ cur.size := by
          rw [hs.newsLen, ← Nat.add_mul]; exact Nat.le_trans (Nat.mul_le_mul_right _ hroom) e6
        have hst := run_storeCells_at P g (n * i.size) E news 0 cur w hg (by simpa using hfit) hs.one
        simp only [Nat.add_zero] at hst
        have hrun : (Builtin.append_ #[t, tx] ty #[.slice (some ⟨g, 0, none⟩) n cap, y]).run P w = .ok (.slice (some ⟨g, 0, none⟩) (n + m) cap) (w.setRow g (cur.toList.take (n * i.size) ++ news ++ cur.toList.drop (n * i.size + news.length)).toArray) := by
          rcases hs.kind with ⟨e', hk'⟩ | hk' <;> simp [Builtin.append_, run_underlying hu, run_underlying hk', sizeOf, typeInfo, hi, hs.len, hroom, hs.cells, Addr.add_lit, hst]
        obtain ⟨C, hC⟩ : ∃ C, C = (cur.toList.take (n * i.size) ++ news ++ cur.toList.drop (n * i.size + news.length)).toArray := ⟨_, rfl⟩
        rw [← hC] at hrun
        refine ⟨_, [(g, .cells C E (0, 0))], _, hrun, ⟨hlen, .inr ⟨g, cap, C, rfl, rfl, e3, hroom, e5, ?_, ?_⟩⟩, by simpa [ids] using Mem.setRow ha hg (fun o => hk.apart (g, .cells cur E (0, 0)) (by simp) o) _⟩
        · rw [hC]; simp only [List.size_toArray, List.length_append, List.length_take, List.length_drop, Array.length_toList]; omega
        · rw [hC, e7, ← hlen]; exact List.take_left
      · have hf := run_firstCells_some (P := P) w.drew i.size n ⟨g, 0, none⟩ n cap cells h0 (by simpa using hgd)
        obtain ⟨v', K', w', r1, r2, r3⟩ := grows (some ⟨g, 0, none⟩) cap hf (by omega)
        refine ⟨v', K', w', r1, r2, ⟨r3.agr, r3.ok, ⟨r3.kept.os, r3.kept.tape, r3.kept.output, r3.kept.size, r3.kept.drawn, fun k hk' _ => r3.kept.block k hk' (by simp)⟩, fun p hp => .inr ((r3.fresh p hp).resolve_left (by simp)), r3.le, r3.grow, r3.soft⟩⟩

section ops
variable {ty : TypeId} {d : Nat} {pos : String} {aft : Array Edge} {v : Value}

theorem JL.app {α : Type} {R : Rep α} (i : Nat) {p q : Operand} {t tx E : TypeId} {z y : Value} {size bytes B : Nat} {ls ms : List α} {K : Own} (hu : x.P.underlying t = some (.slice E)) (he : eInfo x.P E = some (z, size, bytes))
    (h1 : evo l p = some v) (hi : own[i]? = some K) (hr : RowOf H R B E size v ls K) (h2 : evo l q = some y) (hs : SrcR x H own R size tx y ms)
    (h63 : ls.length + ms.length ≤ maxLen) (hb : (ls.length + ms.length) * bytes ≤ 140737488355328) (hB : B ≤ x.w0.heap.size) (hd : Nat.blt d x.n = true)
    (h : ∀ v' K', RowOf H R B E size v' (ls ++ ms) K' → JL x ops Q rest ((d, v') :: l) (own.set i K') H) :
    JL x ops Q (⟨some d, .call ⟨.builtin .append, #[p, q], #[t, tx]⟩, ty, pos, aft, none⟩ :: rest) l own H := fun a w hh => by
  simp only [wpLs, wanted_none, if_true]
  refine ⟨fun _ _ => trivial, ?_⟩
  obtain ⟨cells, hrow, hf, hone⟩ := hr
  obtain ⟨news, hfn, honen, hsrc⟩ := hs
  obtain ⟨v', K', w', hrun, hrow', hm⟩ := append_row (ty := ty) hu he hh.mem.agr (own_here hh.mem hi) hrow (hsrc w hh.mem) h63 hb (Nat.le_trans hB hh.mem.kept.size)
  have hrun' : (execOp a.eval ⟨some d, .call ⟨.builtin .append, #[p, q], #[t, tx]⟩, ty, pos, aft, none⟩).run x.P w = .ok (.value v') w' := by
    have e1 := eval_of hh h1
    have e2 := eval_of hh h2
    have : (execOp a.eval ⟨some d, .call ⟨.builtin .append, #[p, q], #[t, tx]⟩, ty, pos, aft, none⟩).run x.P w = ((Builtin.append_ #[t, tx] ty #[v, y]).run x.P w).andThen (fun r w'' => .ok (.value r) w'') := by
      generalize a.eval = ρ at e1 e2
      have e3 : Array.map ρ #[p, q] = #[v, y] := by simp [e1, e2]
      simp only [execOp, resolve, e3, Sem.run_bind, Sem.run_pure, Result.andThen, invoke, builtin]
    rw [this, hrun]; rfl
  rw [semAt_of rfl, hrun']
  exact h v' K' ⟨cells ++ news, by simpa using hrow', Flat.append hfn hf, fun u hu => (List.mem_append.1 hu).elim (hone u) (honen u)⟩ _ _
    (Holds.put (x := x) (l := l) ⟨hh.size, hh.ds, hh.slots, hh.mem.go1 hi hm⟩ hd v')
theorem set_fold : ∀ (vs : List Value) (k off : Nat) (cells : Array Value), off + k + vs.length ≤ cells.size →
    ((vs.zipIdx k).foldl (fun cs (c, j) => cs.setIfInBounds (off + j) c) cells).toList = cells.toList.take (off + k) ++ vs ++ cells.toList.drop (off + k + vs.length)
  | [], k, off, cells, h => by simp
  | v :: vs, k, off, cells, h => by
    simp only [List.length_cons] at h
    rw [List.zipIdx_cons, List.foldl_cons, set_fold vs (k + 1) off _ (by simp; omega)]
    simp only [Array.toList_setIfInBounds]
    have := list_seg_step cells.toList (off + k) v vs (by simpa using h)
    rw [← Nat.add_assoc, this]
    simp [Nat.add_assoc, Nat.add_comm 1]
theorem fill_parts {size : Nat} : ∀ (vs : List Value) (k : Nat) (cells : Array Value), (∀ v ∈ vs, v.cells.size = size) → (k + vs.length) * size ≤ cells.size →
    Instr.fill (fun i => some (i * size, size)) cells ((List.range' k vs.length).zip vs) = some (cells.toList.take (k * size) ++ (vs.map (·.cells.toList)).flatten ++ cells.toList.drop ((k + vs.length) * size)).toArray
  | [], k, cells, _, h => by simp [Instr.fill]
  | v :: vs, k, cells, hv, h => by
    have h1 := hv v (by simp)
    simp only [List.length_cons] at h
    have h2 : k * size + size ≤ cells.size := by
      have : (k + (vs.length + 1)) * size = k * size + size + vs.length * size := by simp [Nat.add_mul]; omega
      omega
    have hf : (v.cells.zipIdx.foldl (fun cs (c, j) => cs.setIfInBounds (k * size + j) c) cells).toList = cells.toList.take (k * size) ++ v.cells.toList ++ cells.toList.drop (k * size + size) := by
      have := set_fold v.cells.toList 0 (k * size) cells (by simp [h1]; omega)
      simp only [Nat.add_zero, Array.length_toList, h1] at this
      rw [← this, ← Array.foldl_toList]
      simp
    simp only [List.length_cons, List.range'_succ, List.zip_cons_cons, Instr.fill, h1, ne_eq, not_true, decide_false, Bool.false_or]
    rw [if_neg (by simp; omega)]
    have hsz : (v.cells.zipIdx.foldl (fun cs (c, j) => cs.setIfInBounds (k * size + j) c) cells).size = cells.size := by
      rw [← Array.length_toList, hf]; simp [h1]; omega
    have ih := fill_parts vs (k + 1) (v.cells.zipIdx.foldl (fun cs (c, j) => cs.setIfInBounds (k * size + j) c) cells) (fun u hu => hv u (by simp [hu])) (by rw [hsz]; rw [show k + 1 + vs.length = k + (vs.length + 1) by omega]; exact h)
    refine ih.trans ?_
    rw [hf]
    have e1 : (k + 1) * size = k * size + size := by rw [Nat.add_mul]; omega
    have e2 : (k + 1 + vs.length) * size = k * size + size + vs.length * size := by simp [Nat.add_mul]
    have e3 : (k + (vs.length + 1)) * size = k * size + size + vs.length * size := by simp [Nat.add_mul]; omega
    have l1 : (cells.toList.take (k * size) ++ v.cells.toList).length = k * size + size := by simp [h1]; omega
    rw [e1, e2, e3]
    congr 2
    rw [List.take_left' l1, List.drop_append, l1, List.drop_eq_nil_of_le (by rw [l1]; omega)]
    simp [List.drop_drop, List.map_cons, List.flatten_cons]

/-- a slice, element by element -/
theorem JL.bsl {α : Type} {R : Rep α} {t E n : Nat} {z : Value} {size bytes : Nat} {parts : Array (Nat × Operand)} {vs : List Value} {ls : List α} (hu : x.P.underlying t = some (.slice E)) (he : eInfo x.P E = some (z, size, bytes))
    (hv : parts.toList.mapM (fun p => (evo l p.2).map (fun u => (p.1, u))) = some ((List.range' 0 vs.length).zip vs)) (hs : vs.all (fun u => Nat.beq u.cells.size size) = true) (hf : Flat H R size (vs.map (·.cells.toList)).flatten ls)
    (hR1 : R.One) (hn : n = vs.length) (hl : ls.length = vs.length) (hb : Nat.ble (n * size) 16777216 = true) (hm : n ≤ maxLen) (hd : Nat.blt d x.n = true)
    (h : ∀ v' K', RowOf H R x.w0.heap.size E size v' ls K' → JL x ops Q rest ((d, v') :: l) (K' :: own) H) : JL x ops Q (⟨some d, .buildSlice t n parts, ty, pos, aft, none⟩ :: rest) l own H := fun a w hh => by
  simp only [wpLs, wanted_none, if_true]
  refine ⟨fun _ _ => trivial, ?_⟩
  have hone := hf.one' hR1
  obtain ⟨i, hi, hz, hsz, hby, hzs, hpos⟩ := eInfo_parts he
  have hparts : parts.map (fun (i, o) => (i, a.eval o)) = ((List.range' 0 vs.length).zip vs).toArray := by
    have key : ∀ (ps : List (Nat × Operand)) (us : List (Nat × Value)), ps.mapM (fun p => (evo l p.2).map (fun u => (p.1, u))) = some us → ps.map (fun (i, o) => (i, a.eval o)) = us := by
      intro ps
      induction ps with
      | nil => intro us e; simp at e; simp [e]
      | cons p ps ih =>
        intro us e
        simp only [List.mapM_cons] at e
        cases ho : evo l p.2 with
        | none => simp [ho] at e
        | some u =>
          cases hos : ps.mapM (fun p => (evo l p.2).map (fun u => (p.1, u))) with
          | none => simp [ho, hos] at e
          | some us' => simp [ho, hos] at e; subst e; simp [eval_of hh ho, ih us' hos]
    rw [← Array.toList_inj]; simpa using key _ _ hv
  have hall : ∀ u ∈ vs, u.cells.size = size := fun u hu => by have := List.all_eq_true.1 hs u hu; exact Nat.eq_of_beq_eq_true this
  obtain ⟨C, hC⟩ : ∃ C, C = ((vs.map (·.cells.toList)).flatten).toArray := ⟨_, rfl⟩
  have hfl : ((vs.map (·.cells.toList)).flatten).length = n * size := by rw [hf.length, hl, hn]
  have hrun : (Instr.buildSlice t n (((List.range' 0 vs.length).zip vs).toArray)).run x.P w = .ok (.slice (some ⟨w.heap.size, 0, none⟩) n n) (w.alloc (.cells C E (0, 0))) := by
    have hfill : ∀ cells : Array Value, cells.size = n * size → Instr.fill (fun i => some (i * size, size)) cells ((List.range' 0 vs.length).zip vs) = some C := fun cells hc => by
      rw [fill_parts vs 0 cells hall (by rw [hc, hn]; simp), hC]
      have : cells.toList.drop ((0 + vs.length) * size) = [] := List.drop_eq_nil_of_le (by rw [Array.length_toList, hc, hn]; simp)
      rw [this]; simp
    have h24 : ¬ (n * i.size > 2 ^ 24) := by have := Nat.le_of_ble_eq_true hb; rw [hsz]; omega
    subst hsz
    simp only [Instr.buildSlice, Sem.run_bind, run_underlying hu, Result.andThen, Go.sizeOf, typeInfo, run_program, hi, Sem.run_pure, if_neg h24]
    by_cases h0 : n * i.size = 0
    · simp only [h0, if_true, Sem.run_bind, Sem.run_pure, Result.andThen, List.toList_toArray]
      have := hfill (Array.map (fun x => (#[] : Array Value)[x % (#[] : Array Value).size]!) (Array.range (n * i.size))) (by simp)
      simp only [h0] at this
      simp only [this, newRow, Sem.run_bind, run_newObj_alloc, Result.andThen, Sem.run_pure]
    · simp only [h0, if_false, Sem.run_bind, run_zeroValue (show zeroOf x.P E = some z by simp [zeroOf, hi, hz]), Result.andThen, Sem.run_pure, List.toList_toArray]
      have := hfill (Array.map (fun k => z.cells[k % z.cells.size]!) (Array.range (n * i.size))) (by simp)
      simp only [this, newRow, Sem.run_bind, run_newObj_alloc, Result.andThen, Sem.run_pure]
  have hrun' : (execOp a.eval ⟨some d, .buildSlice t n parts, ty, pos, aft, none⟩).run x.P w = .ok (.value (.slice (some ⟨w.heap.size, 0, none⟩) n n)) (w.alloc (.cells C E (0, 0))) := by
    simp only [execOp, hparts]
    exact run_v hrun
  rw [semAt_of rfl, hrun']
  refine h _ [(w.heap.size, .cells C E (0, 0))] ⟨(vs.map (·.cells.toList)).flatten, ⟨hf.length, .inr ⟨w.heap.size, n, C, by rw [hl, hn], rfl, hh.mem.kept.size, by rw [hl, hn]; exact Nat.le_refl _, hm, ?_, ?_⟩⟩, hf, hone⟩ _ _ (Holds.put (x := x) (l := l) ?_ hd _)
  · rw [hC]; simp only [List.size_toArray]; exact Nat.le_of_eq hfl.symm
  · rw [hC, hl, ← hn, ← hfl, List.toList_toArray]; exact List.take_length
  · exact ⟨hh.size, hh.ds, hh.slots, by simpa using hh.mem.go0 (K' := [[(w.heap.size, .cells C E (0, 0))]]) (by simpa using Mem.alloc hh.mem.agr (.cells C E (0, 0)))⟩
end ops

/-! ### Segments -/
theorem JL.seg0 (h : JL x ops Q rest l ([] :: own) H) : JL x ops Q rest l own H := fun a w hh => h a w ⟨hh.size, hh.ds, hh.slots, by simpa using hh.mem⟩
theorem JC.seg0 {c : Code} (h : JC x c Q l ([] :: own) H) : JC x c Q l own H := fun a w hh => h a w ⟨hh.size, hh.ds, hh.slots, by simpa using hh.mem⟩
theorem JN.seg0 {K : Act → World → Prop} (h : JN x K l ([] :: own) H) : JN x K l own H := fun a w hh => h a w ⟨hh.size, hh.ds, hh.slots, by simpa using hh.mem⟩

theorem Holds.forget {i : Nat} {a : Act} {w : World} (hh : Holds x l own H a w) : Holds x l (own.eraseIdx i) H a w := by
  refine ⟨hh.size, hh.ds, hh.slots, ?_⟩
  have key : ∀ (o : List Own) (i : Nat), (o.eraseIdx i).flatten.Sublist o.flatten := by
    intro o
    induction o with
    | nil => intro i; simp
    | cons s o ih =>
      intro i
      cases i with
      | zero => simp
      | succ i => simpa using ih i
  have hs := key own i
  exact ⟨hh.mem.agr, ⟨fun p hp => hh.mem.ok.here p (hs.subset hp), (hs.map _).nodup hh.mem.ok.nodup, fun p hp => hh.mem.ok.apart p (hs.subset hp)⟩, hh.mem.kept, fun p hp => hh.mem.fresh p (hs.subset hp), hh.mem.le, hh.mem.grow, hh.mem.soft⟩
theorem JN.forget {K : Act → World → Prop} (i : Nat) (h : JN x K l (own.eraseIdx i) H) : JN x K l own H := fun a w hh => h a w hh.forget
theorem JC.forget {c : Code} (i : Nat) (h : JC x c Q l (own.eraseIdx i) H) : JC x c Q l own H := fun a w hh => h a w hh.forget
theorem JL.forget (i : Nat) (h : JL x ops Q rest l (own.eraseIdx i) H) : JL x ops Q rest l own H := fun a w hh => h a w hh.forget

/-- what is owned may be given away: its cells stay as they are from then on -/
theorem Mem.pub {w0 : World} {H0 : Heaplet} {S : List Nat} {w : World} {i g : Nat} {cur : Array Value} {t : TypeId} (hm : Mem w0 H0 S own.flatten H w) (hi : own[i]? = some [(g, .cells cur t (0, 0))]) (hg : w0.heap.size ≤ g) :
    Mem w0 H0 S (own.set i []).flatten (fun b o => if b = g then cur[o]? else H b o) w := by
  have hp := flatten_perm hi
  have hp' := flatten_set_perm (seg' := []) hi
  have hok := hm.ok.perm hp
  have hgh := hok.here (g, .cells cur t (0, 0)) (by simp)
  have hgn : ∀ o, H g o = none := fun o => hok.apart (g, .cells cur t (0, 0)) (by simp) o
  have hrest : ∀ p ∈ (own.eraseIdx i).flatten, p.1 ≠ g := fun p hp1 e => by
    have := hok.nodup
    simp only [ids, List.cons_append, List.nil_append, List.map_cons, List.nodup_cons] at this
    exact this.1 (e ▸ List.mem_map_of_mem hp1)
  have hle : Hle H (fun b o => if b = g then cur[o]? else H b o) := fun b o v e => by
    by_cases hb : b = g
    · subst hb; rw [hgn] at e; cases e
    · simp [hb, e]
  refine ⟨fun b o v e => ?_, ⟨fun p hp1 => ?_, ?_, fun p hp1 o => ?_⟩, hm.kept, fun p hp1 => ?_, hm.le.trans hle, fun b o hb => ?_, fun b o v h0 h1 => ?_⟩
  · by_cases hb : b = g
    · subst hb; simp at e; rw [cell_of_row w b o cur t (0, 0) hgh]; exact e
    · simp [hb] at e; exact hm.agr b o v e
  · have := hp'.mem_iff.1 hp1; simp at this; exact hok.here p (by simp [this])
  · refine ((hp'.map _).nodup_iff).2 ?_
    have := hok.nodup
    simp only [ids, List.cons_append, List.nil_append, List.map_cons, List.nodup_cons] at this
    simpa using this.2
  · have := hp'.mem_iff.1 hp1; simp at this
    have hne := hrest p (by simpa using this)
    simp [hne]; exact hok.apart p (by simp [this]) o
  · have := hp'.mem_iff.1 hp1; simp at this; exact hm.fresh p (hp.mem_iff.2 (by simp [this]))
  · have : b ≠ g := by omega
    simp [this, hm.grow b o hb]
  · by_cases hb : b = g
    · subst hb; exact ⟨cur, t, hgh⟩
    · simp only [if_neg hb] at h1; exact hm.soft b o v h0 h1
theorem Holds.pub {α : Type} {R : Rep α} (hR : R.Mono) {i : Nat} {K : Own} {B : Nat} {E : TypeId} {size : Nat} {v : Value} {ls : List α} (hi : own[i]? = some K) (hr : RowOf H R B E size v ls K) (hB : x.w0.heap.size ≤ B)
    {a : Act} {w : World} (hh : Holds x l own H a w) : ∃ H', Hle H H' ∧ IsSlice H' R size v ls ∧ Holds x l (own.set i []) H' a w := by
  obtain ⟨cells, ⟨h0, h1⟩, hf, ho⟩ := hr
  rcases h1 with ⟨rfl, h3, rfl⟩ | ⟨g, cap, cur, rfl, rfl, e3, e4, e5, e6, e7⟩
  · have : ls = [] := List.length_eq_zero_iff.1 h3
    subst this
    exact ⟨H, Hle.refl _, IsSlice.nil _ _ _, hh.size, hh.ds, hh.slots, by
      have e : own.set i [] = own := by
        apply List.ext_getElem?
        intro j
        rw [List.getElem?_set]
        split
        · rename_i hj; subst hj; rw [hi]; split
          · rfl
          · rename_i hlt; have := (List.getElem?_eq_some_iff.1 hi).1; omega
        · rfl
      rw [e]; exact hh.mem⟩
  · have hm := Mem.pub hh.mem hi (Nat.le_trans hB e3)
    have hgn : ∀ o, H g o = none := fun o => (own_here hh.mem hi).apart (g, .cells cur E (0, 0)) (by simp) o
    have hle : Hle H (fun b o => if b = g then cur[o]? else H b o) := fun b o v e => by
      by_cases hb : b = g
      · subst hb; rw [hgn] at e; cases e
      · simp [hb, e]
    refine ⟨_, hle, ?_, hh.size, hh.ds, hh.slots, hm⟩
    refine IsSlice.of_cells (hf.mono hR hle) e4 e5 (fun j u hj => ?_)
    rw [← e7, List.getElem?_take] at hj
    split at hj
    · simpa using hj
    · cases hj
theorem JL.pub {α : Type} {R : Rep α} (i : Nat) (hR : R.Mono) {K : Own} {B : Nat} {E : TypeId} {size : Nat} {v : Value} {ls : List α} (hi : own[i]? = some K) (hr : RowOf H R B E size v ls K) (hB : x.w0.heap.size ≤ B)
    (h : ∀ H', Hle H H' → IsSlice H' R size v ls → JL x ops Q rest l (own.set i []) H') : JL x ops Q rest l own H := fun a w hh => by
  obtain ⟨H', h1, h2, h3⟩ := hh.pub hR hi hr hB; exact h H' h1 h2 a w h3
theorem JC.pub {c : Code} {α : Type} {R : Rep α} (i : Nat) (hR : R.Mono) {K : Own} {B : Nat} {E : TypeId} {size : Nat} {v : Value} {ls : List α} (hi : own[i]? = some K) (hr : RowOf H R B E size v ls K) (hB : x.w0.heap.size ≤ B)
    (h : ∀ H', Hle H H' → IsSlice H' R size v ls → JC x c Q l (own.set i []) H') : JC x c Q l own H := fun a w hh => by
  obtain ⟨H', h1, h2, h3⟩ := hh.pub hR hi hr hB; exact h H' h1 h2 a w h3
theorem JN.pub {C : Act → World → Prop} {α : Type} {R : Rep α} (i : Nat) (hR : R.Mono) {K : Own} {B : Nat} {E : TypeId} {size : Nat} {v : Value} {ls : List α} (hi : own[i]? = some K) (hr : RowOf H R B E size v ls K) (hB : x.w0.heap.size ≤ B)
    (h : ∀ H', Hle H H' → IsSlice H' R size v ls → JN x C l (own.set i []) H') : JN x C l own H := fun a w hh => by
  obtain ⟨H', h1, h2, h3⟩ := hh.pub hR hi hr hB; exact h H' h1 h2 a w h3
end Go.Ow
