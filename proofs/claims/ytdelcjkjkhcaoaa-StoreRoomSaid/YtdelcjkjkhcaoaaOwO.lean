/-
  What is proved here: operations that make or turn memory, with elements that may be new; calls with blocks handed in; over OwU.
-/
import Derived.Test.YtdelcjkjkhcaoaaOwU
namespace Go.Ow
open Go.RowKit
set_option linter.unusedVariables false
set_option linter.unusedSimpArgs false

variable {x : Cx} {ops : Array Oper} {Q : Exit → Act → World → Prop} {rest : List Oper} {l : Slots} {own : List Own} {H HF : Heaplet}
variable {ty : TypeId} {d : Nat} {pos : String} {aft : Array Edge} {v : Value} {p q : Operand} {t : TypeId}

/-! ### Sources -/
def SrcF {α : Type} (x : Cx) (H HF : Heaplet) (own : List Own) (R : Rep α) (size : Nat) (tx : TypeId) (y : Value) (ls : List α) : Prop :=
  ∃ cells, Flat HF R size cells ls ∧ oneCells cells ∧ ∀ w, Mem x.w0 x.H0 x.S own.flatten H w → Src x.P size tx y ls.length cells w
theorem SrcF.slice {α : Type} {R : Rep α} (hR : R.One) {size : Nat} {tx e : TypeId} {y : Value} {ls : List α} (hu : x.P.underlying tx = some (.slice e)) (hle : Hle HF H) (hs : IsSlice HF R size y ls) : SrcF x H HF own R size tx y ls := by
  obtain ⟨cells, hf, ao, cap, rfl, hc⟩ := hs.cells
  refine ⟨cells, hf, hf.one' hR, fun w hm => ?_⟩
  rcases hc with rfl | ⟨b, o, rfl, hc⟩
  · simp only [Flat] at hf; subst hf
    cases ao with
    | none => exact Src.ofNil w hu cap
    | some a => exact Src.ofSlice w hu a 0 cap [] (by simp) (fun j u h => by simp at h) (fun u h => by cases h)
  · exact Src.ofSlice w hu ⟨b, o, none⟩ _ cap cells (by rw [hf.length]) (fun j u h => by rw [add_lit]; exact hm.agr _ _ _ (hle _ _ _ (hc j u h))) (hf.one' hR)
theorem SrcF.row {α : Type} {R : Rep α} {size B : Nat} {tx e E : TypeId} {y : Value} {ls : List α} {K : Own} (j : Nat) (hu : x.P.underlying tx = some (.slice e)) (hj : own[j]? = some K) (hs : RowOf HF R B E size y ls K) : SrcF x H HF own R size tx y ls := by
  obtain ⟨cells, ⟨h0, h1⟩, hf, ho⟩ := hs
  refine ⟨cells, hf, ho, fun w hm => ?_⟩
  rcases h1 with ⟨rfl, h3, h4⟩ | ⟨g, cap, cur, rfl, e2, e3, e4, e5, e6, e7⟩
  · have : ls = [] := List.length_eq_zero_iff.1 h3
    subst this
    simp only [Flat] at hf; subst hf
    exact Src.ofNil w hu 0
  · subst e2
    have hg := (own_here hm hj).here (g, .cells cur E (0, 0)) (by simp)
    refine Src.ofSlice w hu ⟨g, 0, none⟩ _ cap cells (by rw [h0]) (fun j u h => ?_) ho
    rw [add_lit, Nat.zero_add, cell_of_row w g j cur E (0, 0) hg]
    rw [← e7, List.getElem?_take] at h
    split at h
    · simpa using h
    · cases h
theorem SrcF.nil {α : Type} {R : Rep α} {size : Nat} {tx e : TypeId} (hu : x.P.underlying tx = some (.slice e)) : SrcF x H HF own R size tx (.slice none 0 0) ([] : List α) :=
  ⟨[], rfl, (fun u h => by cases h), fun w hm => Src.ofNil w hu 0⟩

theorem lim_max {n : Nat} (h : n ≤ LIM) : n ≤ maxLen := by unfold LIM at h; unfold maxLen; omega
theorem lim_bytes {n bytes : Nat} (h : n ≤ LIM) (hb : Nat.ble bytes 128 = true) : n * bytes ≤ 140737488355328 := by
  have h2 := Nat.le_of_ble_eq_true hb
  have := Nat.mul_le_mul h h2
  unfold LIM at this; omega
/-- append to an own row -/
theorem JL.appF {α : Type} {R : Rep α} (i : Nat) {tx E : TypeId} {z y : Value} {size bytes B : Nat} {ls ms rs : List α} {K : Own} (hu : x.P.underlying t = some (.slice E)) (he : eInfo x.P E = some (z, size, bytes))
    (h1 : evo l p = some v) (hi : own[i]? = some K) (hr : RowOf HF R B E size v ls K) (h2 : evo l q = some y) (hs : SrcF x H HF own R size tx y ms)
    (hrs : rs = ls ++ ms) (hl : ls.length + ms.length ≤ LIM) (hb : Nat.ble bytes 128 = true) (hB : B ≤ x.w0.heap.size) (hd : Nat.blt d x.n = true)
    (h : ∀ v' K', RowOf HF R B E size v' rs K' → JL x ops Q rest ((d, v') :: l) (own.set i K') H) :
    JL x ops Q (⟨some d, .call ⟨.builtin .append, #[p, q], #[t, tx]⟩, ty, pos, aft, none⟩ :: rest) l own H := fun a w hh => by
  subst hrs
  simp only [wpLs, wanted_none, if_true]
  refine ⟨fun _ _ => trivial, ?_⟩
  obtain ⟨cells, hrow, hf, hone⟩ := hr
  obtain ⟨news, hfn, honen, hsrc⟩ := hs
  obtain ⟨v', K', w', hrun, hrow', hm⟩ := append_row (ty := ty) hu he hh.mem.agr (own_here hh.mem hi) hrow (hsrc w hh.mem) (lim_max hl) (lim_bytes hl hb) (Nat.le_trans hB hh.mem.kept.size)
  have hrun' : (execOp a.eval ⟨some d, .call ⟨.builtin .append, #[p, q], #[t, tx]⟩, ty, pos, aft, none⟩).run x.P w = .ok (.value v') w' := by
    have e1 := eval_of hh h1
    have e2 := eval_of hh h2
    have : (execOp a.eval ⟨some d, .call ⟨.builtin .append, #[p, q], #[t, tx]⟩, ty, pos, aft, none⟩).run x.P w = ((Builtin.append_ #[t, tx] ty #[v, y]).run x.P w).andThen (fun r w'' => .ok (.value r) w'') := by
      generalize a.eval = ρ at e1 e2
      have e3 : Array.map ρ #[p, q] = #[v, y] := by simp [e1, e2]
      simp only [execOp, resolve, e3, Sem.run_bind, Sem.run_pure, Result.andThen, invoke, builtin]
    rw [this, hrun]; rfl
  rw [semAt_of rfl, hrun']
  exact h v' K' ⟨cells ++ news, by simpa using hrow', Flat.append hfn hf, fun u hu => (List.mem_append.1 hu).elim (hone u) (honen u)⟩ _ _
    (Holds.put (x := x) (l := l) ⟨hh.size, hh.ds, hh.slots, hh.mem.go1 hi hm⟩ hd v')

theorem RowOf.conv {α : Type} {R : Rep α} {H1 H2 : Heaplet} (hR : ∀ cs y, R H1 cs y → R H2 cs y) {B : Nat} {E : TypeId} {size : Nat} {v : Value} {ls : List α} {K : Own} (h : RowOf H1 R B E size v ls K) : RowOf H2 R B E size v ls K := by
  obtain ⟨cells, h1, h2, h3⟩ := h
  exact ⟨cells, h1, h2.conv hR, h3⟩
/-- a slice, element by element -/
theorem JL.bslF {α : Type} {R : Rep α} {E n : Nat} {z : Value} {size bytes : Nat} {parts : Array (Nat × Operand)} {vs : List Value} {ls : List α} (hu : x.P.underlying t = some (.slice E)) (he : eInfo x.P E = some (z, size, bytes))
    (hv : parts.toList.mapM (fun p => (evo l p.2).map (fun u => (p.1, u))) = some ((List.range' 0 vs.length).zip vs)) (hs : vs.all (fun u => Nat.beq u.cells.size size) = true) (hf : Flat HF R size (vs.map (·.cells.toList)).flatten ls)
    (hR1 : R.One) (hn : n = vs.length) (hl : ls.length = vs.length) (hb : Nat.ble (n * size) 16777216 = true) (hm : n ≤ maxLen) (hd : Nat.blt d x.n = true)
    (h : ∀ v' K', RowOf HF R x.w0.heap.size E size v' ls K' → JL x ops Q rest ((d, v') :: l) (K' :: own) H) : JL x ops Q (⟨some d, .buildSlice t n parts, ty, pos, aft, none⟩ :: rest) l own H := by
  -- the elements as bare cells
  refine JL.bsl (R := (fun _ cs (k : Nat) => cs.length = size ∧ oneCells cs ∧ ∃ y, ls[k]? = some y ∧ R HF cs y : Rep Nat)) (ls := List.range' 0 ls.length) (vs := vs) hu he hv hs ?_ ?_ hn (by simpa using hl) hb hm hd ?_
  · have key : ∀ (m : List α) (k : Nat) (cells : List Value), (∀ i y, m[i]? = some y → ls[k + i]? = some y) → Flat HF R size cells m →
        Flat H (fun _ cs (k : Nat) => cs.length = size ∧ oneCells cs ∧ ∃ y, ls[k]? = some y ∧ R HF cs y : Rep Nat) size cells (List.range' k m.length) := by
      intro m
      induction m with
      | nil => intro k cells _ h; exact h
      | cons y r ih =>
        intro k cells hk h
        obtain ⟨cs, more, rfl, h1, h2, h3⟩ := h
        simp only [List.length_cons, List.range'_succ]
        exact ⟨cs, more, rfl, h1, ⟨h1, hR1 _ _ _ h2, y, by simpa using hk 0 y rfl, h2⟩, ih (k + 1) more (fun i z hz => by have := hk (i + 1) z (by simpa using hz); rwa [show k + (i + 1) = k + 1 + i by omega] at this) h3⟩
    exact key ls 0 _ (fun i y hy => by simpa using hy) hf
  · intro H cs y h; exact h.2.1
  · intro v' K' hr
    refine h v' K' ?_
    obtain ⟨cells, h1, h2, h3⟩ := hr
    refine ⟨cells, by simpa using h1, ?_, h3⟩
    have key : ∀ (m : List α) (k : Nat) (cells : List Value), (∀ i y, m[i]? = some y → ls[k + i]? = some y) →
        Flat H (fun _ cs (k : Nat) => cs.length = size ∧ oneCells cs ∧ ∃ y, ls[k]? = some y ∧ R HF cs y : Rep Nat) size cells (List.range' k m.length) → Flat HF R size cells m := by
      intro m
      induction m with
      | nil => intro k cells _ h; exact h
      | cons y r ih =>
        intro k cells hk h
        simp only [List.length_cons, List.range'_succ] at h
        obtain ⟨cs, more, rfl, h1, ⟨_, _, y', hy', h2⟩, h3⟩ := h
        have : y' = y := by have := hk 0 y rfl; rw [Nat.add_zero, hy'] at this; exact Option.some.inj this
        subst this
        exact ⟨cs, more, rfl, h1, h2, ih (k + 1) more (fun i z hz => by have := hk (i + 1) z (by simpa using hz); rwa [show k + (i + 1) = k + 1 + i by omega] at this) h3⟩
    exact key ls 0 cells (fun i y hy => by simpa using hy) h2

/-- make([]T, n), its elements at zero -/
theorem JL.mkF {α : Type} {R : Rep α} {E : TypeId} {z : Value} {size bytes : Nat} {kl kc : IntKind} {n : Int} {y : α} {rs : List α} (hu : x.P.underlying t = some (.slice E)) (he : eInfo x.P E = some (z, size, bytes)) (h1 : evo l p = some (.int kl n)) (h2 : evo l q = some (.int kc n))
    (hR : ∀ H, R H z.cells.toList y) (hR1 : R.One) (hrs : rs = List.replicate n.toNat y) (hn : 0 ≤ n ∧ n.toNat ≤ LIM) (hb : Nat.ble bytes 128 = true) (hd : Nat.blt d x.n = true)
    (h : ∀ v' K', RowOf HF R x.w0.heap.size E size v' rs K' → JL x ops Q rest ((d, v') :: l) (K' :: own) H) : JL x ops Q (⟨some d, .makeSlice t p q, ty, pos, aft, none⟩ :: rest) l own H := by
  subst hrs
  obtain ⟨N, rfl⟩ := Int.eq_ofNat_of_zero_le hn.1
  have hN : N ≤ LIM := by simpa using hn.2
  refine JL.mk (R := (fun _ cs (k : Unit) => R HF cs y ∧ oneCells cs : Rep Unit)) (y := ()) hu he h1 h2 ⟨hR _, hR1 _ _ _ (hR HF)⟩ (fun _ _ _ h => h.2) ?_ (lim_max hN) hd ?_
  · have := lim_bytes hN hb; rw [Nat.mul_comm]; omega
  · intro ao cap K' hr
    refine h _ K' ?_
    obtain ⟨cells, h1, h2, h3⟩ := hr
    refine ⟨cells, by simpa using h1, ?_, h3⟩
    have key : ∀ (k : Nat) (cells : List Value), Flat H (fun _ cs (k : Unit) => R HF cs y ∧ oneCells cs : Rep Unit) size cells (List.replicate k ()) → Flat HF R size cells (List.replicate k y) := by
      intro k
      induction k with
      | zero => intro cells h; exact h
      | succ k ih =>
        intro cells h
        obtain ⟨cs, more, rfl, h1, h2, h3⟩ := h
        exact ⟨cs, more, rfl, h1, h2.1, ih more h3⟩
    simpa using key N cells h2

/-- storing a whole element of an own row -/
theorem JL.stE {α : Type} {R : Rep α} (i : Nat) {T E : TypeId} {g : Bool} {size B b o : Nat} {k : Int} {v u : Value} {m m' : List α} {K : Own} {y : α} (hs : shapeOf x.P T = some (g, size)) (hi : own[i]? = some K) (hS : RowOf HF R B E size v m K)
    (h1 : evo l p = some (.pointer (some ⟨b, o, none⟩))) (hE : ElemAt v size k b o) (h2 : evo l q = some u) (hu : u.cells.size = size) (hR : R HF u.cells.toList y) (hR1 : R.One) (hm : m' = m.set k.toNat y)
    (h : ∀ K', RowOf HF R B E size v m' K' → m'.length = m.length → JL x ops Q rest l (own.set i K') H) : JL x ops Q (⟨none, .store T p q, ty, pos, aft, none⟩ :: rest) l own H := by
  obtain ⟨cells, ⟨h0, h3⟩, hf, ho⟩ := hS
  obtain ⟨hk0, o0, len, cap0, ev, rfl, hklt⟩ := hE
  rcases h3 with ⟨rfl, h3, rfl⟩ | ⟨b', cap, cur, rfl, rfl, e3, e4, e5, e6, e7⟩
  · simp only [Value.slice.injEq] at ev; obtain ⟨ev, _⟩ := ev; cases ev
  · simp only [Value.slice.injEq, Option.some.injEq, Addr.mk.injEq] at ev
    obtain ⟨⟨rfl, rfl, -⟩, rfl, rfl⟩ := ev
    have hk : k.toNat < m.length := hklt
    have hone := hR1 _ _ _ hR
    have hks : k.toNat * size + size ≤ m.length * size := by rw [← Nat.succ_mul]; exact Nat.mul_le_mul_right _ hk
    have hms : m.length * size ≤ cap * size := Nat.mul_le_mul_right _ e4
    subst hm
    refine JL.store i hs h1 h2 hi hu (List.all_eq_true.2 hone) (by omega) (h _ ?_ (List.length_set ..))
    have hul : u.cells.toList.length = size := by simpa using hu
    have hcl : cap * size ≤ cur.toList.length := by simpa using e6
    have hf' := Flat.set (y := y) hul hR hf hk
    refine ⟨_, ⟨by rw [hf'.length], .inr ⟨b', cap, _, by rw [List.length_set], rfl, e3, by rw [List.length_set]; exact e4, e5, ?_, ?_⟩⟩, hf', ?_⟩
    · simp only [List.size_toArray, List.length_append, List.length_take, List.length_drop, hul]; omega
    · rw [List.length_set, ← e7, Nat.zero_add]
      simp only []
      rw [List.take_append, List.take_append, List.take_take, List.take_take, Nat.min_eq_right (by omega), Nat.min_eq_left (by omega)]
      rw [List.take_of_length_le (l := u.cells.toList) (by simp only [List.length_take, hul]; omega)]
      congr 1
      rw [List.take_drop]
      congr 2
      simp only [List.length_append, List.length_take, hul]; omega
    · intro w hw
      rcases List.mem_append.1 hw with hw | hw
      · rcases List.mem_append.1 hw with hw | hw
        · exact ho w (List.mem_of_mem_take hw)
        · exact hone w hw
      · exact ho w (List.mem_of_mem_drop hw)
/-- the place of an element of an own row -/
theorem RowOf.place {α : Type} {R : Rep α} {n B : Nat} {E : TypeId} {v : Value} {m : List α} {K : Own} {i : Int} (hS : RowOf HF R B E n v m K) (hi : 0 ≤ i ∧ i.toNat < m.length) : ∃ b o, ElemAt v n i b o := by
  obtain ⟨b, o, cs, cur, _, h, _⟩ := hS.elem (i := i) (y := m[i.toNat]'hi.2) ⟨hi.1, by simp [hi.2]⟩
  exact ⟨b, o, h⟩

/-! ### Calls -/
theorem picks0 : own.flatten.Perm (([] : List Own).flatten ++ own.flatten) := by simp
theorem picks {s : Own} {K rst : List Own} (i : Nat) (hi : own[i]? = some s) (h : (own.eraseIdx i).flatten.Perm (K.flatten ++ rst.flatten)) : own.flatten.Perm ((s :: K).flatten ++ rst.flatten) := by
  refine (flatten_perm hi).trans ?_
  simp only [List.flatten_cons, List.append_assoc]
  exact h.append_left s
theorem RowOf.new {α : Type} {R : Rep α} {B : Nat} {E : TypeId} {size : Nat} {v : Value} {ls : List α} {K : Own} {H0 : Heaplet} {N : Nat} (hle : Hle H0 H) {H' : Heaplet} (hR : R.Mono) (h : RowOf (New H H') R B E size v ls K) (hB : ∀ p ∈ K, N ≤ p.1) : RowOf (New H0 H') R N E size v ls K :=
  (h.mono hR (New.call hle)).base hB
theorem IsSlice.new {α : Type} {R : Rep α} {size : Nat} {v : Value} {m : List α} {H0 H' : Heaplet} (hR : R.Mono) (hle : Hle H0 H) (h : IsSlice (New H H') R size v m) : IsSlice (New H0 H') R size v m := h.mono hR (New.call hle)
theorem IsSlice.old {α : Type} {R : Rep α} {size : Nat} {v : Value} {m : List α} {H0 : Heaplet} (hR : R.Mono) (h : IsSlice (New H0 H) R size v m) : IsSlice H R size v m := h.mono hR (New.le _ _)
theorem RowOf.old {α : Type} {R : Rep α} {B : Nat} {E : TypeId} {size : Nat} {v : Value} {ls : List α} {K : Own} {H0 : Heaplet} (hR : R.Mono) (h : RowOf (New H0 H) R B E size v ls K) : RowOf H R B E size v ls K := h.mono hR (New.le _ _)
theorem RowOf.ge {α : Type} {R : Rep α} {B : Nat} {E : TypeId} {size : Nat} {v : Value} {ls : List α} {K : Own} (h : RowOf HF R B E size v ls K) : ∀ p ∈ K, B ≤ p.1 := by
  obtain ⟨cells, ⟨h0, h1⟩, h2, h3⟩ := h
  rcases h1 with ⟨_, _, rfl⟩ | ⟨g, cap, cur, e1, rfl, e3, r⟩
  · intro p hp; cases hp
  · intro p hp; simp at hp; subst hp; exact e3
theorem mem_seg {K : Own} {p : Nat × Obj} (i : Nat) (h : own[i]? = some K) (hp : p ∈ K) : p ∈ own.flatten := List.mem_flatten.2 ⟨K, List.mem_of_getElem? h, hp⟩
theorem SrcF.sliceC {α : Type} {R : Rep α} (hC : R.Const) (hR : R.One) {size : Nat} {tx e : TypeId} {y : Value} {ls : List α} (hu : x.P.underlying tx = some (.slice e)) (hs : IsSlice H R size y ls) : SrcF x H HF own R size tx y ls := by
  obtain ⟨cells, hf, ho, h⟩ := SrcF.slice (own := own) hR hu (Hle.refl _) hs
  exact ⟨cells, hf.conv (fun cs y h => hC _ _ _ _ h), ho, h⟩
theorem Holds.le {a : Act} {w : World} (hh : Holds x l own H a w) : Hle x.H0 H := hh.mem.le
end Go.Ow
