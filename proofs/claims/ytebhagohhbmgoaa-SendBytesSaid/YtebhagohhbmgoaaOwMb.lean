import Derived.Test.YtebhagohhbmgoaaOwMa
import Derived.Laws.StructEq
import Derived.Lib.AppendZerosOnto
import Derived.Carry
import Derived.WalkKit
import Derived.ProofKit
import Derived.OpenShut
import Derived.JoinedCond
import Derived.Maps.RangeRun
import Derived.Laws.Externs
import Derived.Lib.BytesEntry
import Derived.Lib.Bytealg
import Derived.Room.MakeNoZero
import Derived.ChangeKeysEq
/-
  What is proved here: what operations on unsigned integers yield, told by the types UInt8, UInt32, UInt64. Printed by mku.py.
-/
namespace Go.Ow
open Go.RowKit
set_option linter.unusedVariables false
set_option linter.unusedSimpArgs false
variable {x : Cx} {l : Slots} {own : List Own} {H : Heaplet} {ty : TypeId} {p q : Operand} {t u : TypeId}

theorem wrapU8 (n : Int) : IntKind.u8.wrap n = n % 256 := by simp [IntKind.wrap, IntKind.bits, IntKind.signed]
theorem ltU8 (a : UInt8) : a.toNat < 256 := a.toNat_lt
theorem wr_add8 (a b : UInt8) : IntKind.u8.wrap ((a.toNat : Int) + (b.toNat : Int)) = ((a + b).toNat : Int) := by
  rw [wrapU8, UInt8.toNat_add]; omega
theorem R.add8 {a b : UInt8} (h1 : evo l p = some (.int .u8 ((a).toNat : Int))) (h2 : evo l q = some (.int .u8 ((b).toNat : Int))) : Runs x (.binOp .add t p q u) ty l own H (.int .u8 ((a + b).toNat : Int)) :=
  fun ρ w _ _ _ _ hρ hm => by rw [← wr_add8]; simp [execOp, hρ _ _ h1, hρ _ _ h2, eqGuard, binOp, Op.intArith, go_sem]
theorem R.gtr8 {a b : UInt8} (h1 : evo l p = some (.int .u8 ((a).toNat : Int))) (h2 : evo l q = some (.int .u8 ((b).toNat : Int))) : Runs x (.binOp .gtr t p q u) ty l own H (.bool (decide (b < a))) :=
  fun ρ w _ _ _ _ hρ hm => by simp [execOp, hρ _ _ h1, hρ _ _ h2, eqGuard, binOp, Op.intCmp, go_sem, UInt8.lt_iff_toNat_lt]
theorem R.neq8 {a b : UInt8} (h1 : evo l p = some (.int .u8 ((a).toNat : Int))) (h2 : evo l q = some (.int .u8 ((b).toNat : Int))) : Runs x (.binOp .neq t p q u) ty l own H (.bool (!decide (a = b))) :=
  fun ρ w _ _ _ _ hρ hm => by simp [execOp, hρ _ _ h1, hρ _ _ h2, eqGuard, binOp, Op.intCmp, go_sem, ← UInt8.toNat_inj]; rw [Bool.eq_iff_iff]; simp; omega
theorem wrapU32 (n : Int) : IntKind.u32.wrap n = n % 4294967296 := by simp [IntKind.wrap, IntKind.bits, IntKind.signed]
theorem ltU32 (a : UInt32) : a.toNat < 4294967296 := a.toNat_lt
theorem R.eql32 {a b : UInt32} (h1 : evo l p = some (.int .u32 ((a).toNat : Int))) (h2 : evo l q = some (.int .u32 ((b).toNat : Int))) : Runs x (.binOp .eql t p q u) ty l own H (.bool (decide (a = b))) :=
  fun ρ w _ _ _ _ hρ hm => by simp [execOp, hρ _ _ h1, hρ _ _ h2, eqGuard, binOp, Op.intCmp, go_sem, ← UInt32.toNat_inj]; rw [Bool.eq_iff_iff]; simp; omega
theorem R.neq32 {a b : UInt32} (h1 : evo l p = some (.int .u32 ((a).toNat : Int))) (h2 : evo l q = some (.int .u32 ((b).toNat : Int))) : Runs x (.binOp .neq t p q u) ty l own H (.bool (!decide (a = b))) :=
  fun ρ w _ _ _ _ hρ hm => by simp [execOp, hρ _ _ h1, hρ _ _ h2, eqGuard, binOp, Op.intCmp, go_sem, ← UInt32.toNat_inj]; rw [Bool.eq_iff_iff]; simp; omega
theorem wr_u8i (n : Int) : IntKind.u8.wrap n = ((u8i n).toNat : Int) := by rw [wrapU8, u8i, UInt8.toNat_ofNat']; omega
theorem R.cv_i64_u8 {s : TypeId} {ds : TypeDesc} {k : IntKind} {m : Int} (hs : x.P.underlying s = some ds) (ht : x.P.underlying t = some (.int .u8)) (h1 : evo l p = some (.int k m)) : Runs x (.convert s t p) ty l own H (.int .u8 ((u8i m).toNat : Int)) := by
  rw [← wr_u8i]; exact R.convW hs ht h1
theorem R.cv_u8_i64 {s : TypeId} {ds : TypeDesc} {a : UInt8} (hs : x.P.underlying s = some ds) (ht : x.P.underlying t = some (.int .i64)) (h1 : evo l p = some (.int .u8 (a.toNat : Int))) : Runs x (.convert s t p) ty l own H (.int .i64 (a.toNat : Int)) := by
  have e : IntKind.i64.wrap (a.toNat : Int) = (a.toNat : Int) := wi64 (by omega) (by have := ltU8 a; omega)
  have := R.convW (x := x) (own := own) (H := H) (ty := ty) hs ht h1; rw [e] at this; exact this
theorem wr_u32i (n : Int) : IntKind.u32.wrap n = ((u32i n).toNat : Int) := by rw [wrapU32, u32i, UInt32.toNat_ofNat']; omega
theorem R.cv_i64_u32 {s : TypeId} {ds : TypeDesc} {k : IntKind} {m : Int} (hs : x.P.underlying s = some ds) (ht : x.P.underlying t = some (.int .u32)) (h1 : evo l p = some (.int k m)) : Runs x (.convert s t p) ty l own H (.int .u32 ((u32i m).toNat : Int)) := by
  rw [← wr_u32i]; exact R.convW hs ht h1
theorem R.cv_u32_i64 {s : TypeId} {ds : TypeDesc} {a : UInt32} (hs : x.P.underlying s = some ds) (ht : x.P.underlying t = some (.int .i64)) (h1 : evo l p = some (.int .u32 (a.toNat : Int))) : Runs x (.convert s t p) ty l own H (.int .i64 (a.toNat : Int)) := by
  have e : IntKind.i64.wrap (a.toNat : Int) = (a.toNat : Int) := wi64 (by omega) (by have := ltU32 a; omega)
  have := R.convW (x := x) (own := own) (H := H) (ty := ty) hs ht h1; rw [e] at this; exact this
end Go.Ow

/-
  What is proved here: operations that make or turn memory, with elements that may be new; calls with blocks handed in; over OwU.
-/
namespace Go.Ow
open Go.RowKit
set_option linter.unusedVariables false
set_option linter.unusedSimpArgs false

variable {x : Cx} {ops : Array Oper} {Q : Exit → Act → World → Prop} {rest : List Oper} {l : Slots} {own : List Own} {H HF : Heaplet}
variable {ty : TypeId} {d : Nat} {pos : String} {aft : Array Edge} {v : Value} {p q : Operand} {t : TypeId}

/-! ### Sources -/
def SrcF {α : Type} (x : Cx) (H HF : Heaplet) (own : List Own) (R : Rep α) (size : Nat) (tx : TypeId) (y : Value) (ls : List α) : Prop :=
  ∃ cells, Flat HF R size cells ls ∧ oneCells cells ∧ ∀ w, Mem x.w0 x.H0 x.S own.flatten H w → Src x.P size tx y ls.length cells w
theorem SrcF.slice {α : Type} {R : Rep α} (hR : R.One) {size : Nat} {tx e : TypeId} {y : Value} {ls : List α} (hu : x.P.underlying tx = some (.slice e)) (hle : Hle HF H) (hs : IsSlice HF R size y ls) : SrcF x H HF own R size tx y ls := by
  obtain ⟨cells, hf, ao, cap, rfl, hc⟩ := hs.cells
  refine ⟨cells, hf, hf.one' hR, fun w hm => ?_⟩
  rcases hc with rfl | ⟨b, o, rfl, hc⟩
  · simp only [Flat] at hf; subst hf
    cases ao with
    | none => exact Src.ofNil w hu cap
    | some a => exact Src.ofSlice w hu a 0 cap [] (by simp) (fun j u h => by simp at h) (fun u h => by cases h)
  · exact Src.ofSlice w hu ⟨b, o, none⟩ _ cap cells (by rw [hf.length]) (fun j u h => by rw [add_lit]; exact hm.agr _ _ _ (hle _ _ _ (hc j u h))) (hf.one' hR)
theorem SrcF.row {α : Type} {R : Rep α} {size B : Nat} {tx e E : TypeId} {y : Value} {ls : List α} {K : Own} (j : Nat) (hu : x.P.underlying tx = some (.slice e)) (hj : own[j]? = some K) (hs : RowOf HF R B E size y ls K) : SrcF x H HF own R size tx y ls := by
  obtain ⟨cells, ⟨h0, h1⟩, hf, ho⟩ := hs
  refine ⟨cells, hf, ho, fun w hm => ?_⟩
  rcases h1 with ⟨rfl, h3, h4⟩ | ⟨g, cap, cur, rfl, e2, e3, e4, e5, e6, e7⟩
  · have : ls = [] := List.length_eq_zero_iff.1 h3
    subst this
    simp only [Flat] at hf; subst hf
    exact Src.ofNil w hu 0
  · subst e2
    have hg := (own_here hm hj).here (g, .cells cur E (0, 0)) (by simp)
    refine Src.ofSlice w hu ⟨g, 0, none⟩ _ cap cells (by rw [h0]) (fun j u h => ?_) ho
    rw [add_lit, Nat.zero_add, cell_of_row w g j cur E (0, 0) hg]
    rw [← e7, List.getElem?_take] at h
    split at h
    · simpa using h
    · cases h
theorem SrcF.nil {α : Type} {R : Rep α} {size : Nat} {tx e : TypeId} (hu : x.P.underlying tx = some (.slice e)) : SrcF x H HF own R size tx (.slice none 0 0) ([] : List α) :=
  ⟨[], rfl, (fun u h => by cases h), fun w hm => Src.ofNil w hu 0⟩

theorem lim_max {n : Nat} (h : n ≤ LIM) : n ≤ maxLen := by unfold LIM at h; unfold maxLen; omega
theorem lim_bytes {n bytes : Nat} (h : n ≤ LIM) (hb : Nat.ble bytes 128 = true) : n * bytes ≤ 140737488355328 := by
  have h2 := Nat.le_of_ble_eq_true hb
  have := Nat.mul_le_mul h h2
  unfold LIM at this; omega
/-- append to an own row -/
theorem JL.appF {α : Type} {R : Rep α} (i : Nat) {tx E : TypeId} {z y : Value} {size bytes B : Nat} {ls ms rs : List α} {K : Own} (hu : x.P.underlying t = some (.slice E)) (he : eInfo x.P E = some (z, size, bytes))
    (h1 : evo l p = some v) (hi : own[i]? = some K) (hr : RowOf HF R B E size v ls K) (h2 : evo l q = some y) (hs : SrcF x H HF own R size tx y ms)
    (hrs : rs = ls ++ ms) (hl : ls.length + ms.length ≤ LIM) (hb : Nat.ble bytes 128 = true) (hB : B ≤ x.w0.heap.size) (hd : Nat.blt d x.n = true)
    (h : ∀ v' K', RowOf HF R B E size v' rs K' → JL x ops Q rest ((d, v') :: l) (own.set i K') H) :
    JL x ops Q (⟨some d, .call ⟨.builtin .append, #[p, q], #[t, tx]⟩, ty, pos, aft, none⟩ :: rest) l own H := fun a w hh => by
  subst hrs
  simp only [wpLs, wanted_none, if_true]
  refine ⟨fun _ _ => trivial, ?_⟩
  obtain ⟨cells, hrow, hf, hone⟩ := hr
  obtain ⟨news, hfn, honen, hsrc⟩ := hs
  obtain ⟨v', K', w', hrun, hrow', hm⟩ := append_row (ty := ty) hu he hh.mem.agr (own_here hh.mem hi) hrow (hsrc w hh.mem) (lim_max hl) (lim_bytes hl hb) (Nat.le_trans hB hh.mem.kept.size)
  have hrun' : (execOp a.eval ⟨some d, .call ⟨.builtin .append, #[p, q], #[t, tx]⟩, ty, pos, aft, none⟩).run x.P w = .ok (.value v') w' := by
    have e1 := eval_of hh h1
    have e2 := eval_of hh h2
    have : (execOp a.eval ⟨some d, .call ⟨.builtin .append, #[p, q], #[t, tx]⟩, ty, pos, aft, none⟩).run x.P w = ((Builtin.append_ #[t, tx] ty #[v, y]).run x.P w).andThen (fun r w'' => .ok (.value r) w'') := by
      generalize a.eval = ρ at e1 e2
      have e3 : Array.map ρ #[p, q] = #[v, y] := by simp [e1, e2]
      simp only [execOp, resolve, e3, Sem.run_bind, Sem.run_pure, Result.andThen, invoke, builtin]
    rw [this, hrun]; rfl
  rw [semAt_of rfl, hrun']
  exact h v' K' ⟨cells ++ news, by simpa using hrow', Flat.append hfn hf, fun u hu => (List.mem_append.1 hu).elim (hone u) (honen u)⟩ _ _
    (Holds.put (x := x) (l := l) ⟨hh.size, hh.ds, hh.slots, hh.mem.go1 hi hm⟩ hd v')

theorem RowOf.conv {α : Type} {R : Rep α} {H1 H2 : Heaplet} (hR : ∀ cs y, R H1 cs y → R H2 cs y) {B : Nat} {E : TypeId} {size : Nat} {v : Value} {ls : List α} {K : Own} (h : RowOf H1 R B E size v ls K) : RowOf H2 R B E size v ls K := by
  obtain ⟨cells, h1, h2, h3⟩ := h
  exact ⟨cells, h1, h2.conv hR, h3⟩
/-- a slice, element by element -/
theorem JL.bslF {α : Type} {R : Rep α} {E n : Nat} {z : Value} {size bytes : Nat} {parts : Array (Nat × Operand)} {vs : List Value} {ls : List α} (hu : x.P.underlying t = some (.slice E)) (he : eInfo x.P E = some (z, size, bytes))
    (hv : parts.toList.mapM (fun p => (evo l p.2).map (fun u => (p.1, u))) = some ((List.range' 0 vs.length).zip vs)) (hs : vs.all (fun u => Nat.beq u.cells.size size) = true) (hf : Flat HF R size (vs.map (·.cells.toList)).flatten ls)
    (hR1 : R.One) (hn : n = vs.length) (hl : ls.length = vs.length) (hb : Nat.ble (n * size) 16777216 = true) (hm : n ≤ maxLen) (hd : Nat.blt d x.n = true)
    (h : ∀ v' K', RowOf HF R x.w0.heap.size E size v' ls K' → JL x ops Q rest ((d, v') :: l) (K' :: own) H) : JL x ops Q (⟨some d, .buildSlice t n parts, ty, pos, aft, none⟩ :: rest) l own H := by
  -- the elements as bare cells
  refine JL.bsl (R := (fun _ cs (k : Nat) => cs.length = size ∧ oneCells cs ∧ ∃ y, ls[k]? = some y ∧ R HF cs y : Rep Nat)) (ls := List.range' 0 ls.length) (vs := vs) hu he hv hs ?_ ?_ hn (by simpa using hl) hb hm hd ?_
  · have key : ∀ (m : List α) (k : Nat) (cells : List Value), (∀ i y, m[i]? = some y → ls[k + i]? = some y) → Flat HF R size cells m →
        Flat H (fun _ cs (k : Nat) => cs.length = size ∧ oneCells cs ∧ ∃ y, ls[k]? = some y ∧ R HF cs y : Rep Nat) size cells (List.range' k m.length) := by
      intro m
      induction m with
      | nil => intro k cells _ h; exact h
      | cons y r ih =>
        intro k cells hk h
        obtain ⟨cs, more, rfl, h1, h2, h3⟩ := h
        simp only [List.length_cons, List.range'_succ]
        exact ⟨cs, more, rfl, h1, ⟨h1, hR1 _ _ _ h2, y, by simpa using hk 0 y rfl, h2⟩, ih (k + 1) more (fun i z hz => by have := hk (i + 1) z (by simpa using hz); rwa [show k + (i + 1) = k + 1 + i by omega] at this) h3⟩
    exact key ls 0 _ (fun i y hy => by simpa using hy) hf
  · intro H cs y h; exact h.2.1
  · intro v' K' hr
    refine h v' K' ?_
    obtain ⟨cells, h1, h2, h3⟩ := hr
    refine ⟨cells, by simpa using h1, ?_, h3⟩
    have key : ∀ (m : List α) (k : Nat) (cells : List Value), (∀ i y, m[i]? = some y → ls[k + i]? = some y) →
        Flat H (fun _ cs (k : Nat) => cs.length = size ∧ oneCells cs ∧ ∃ y, ls[k]? = some y ∧ R HF cs y : Rep Nat) size cells (List.range' k m.length) → Flat HF R size cells m := by
      intro m
      induction m with
      | nil => intro k cells _ h; exact h
      | cons y r ih =>
        intro k cells hk h
        simp only [List.length_cons, List.range'_succ] at h
        obtain ⟨cs, more, rfl, h1, ⟨_, _, y', hy', h2⟩, h3⟩ := h
        have : y' = y := by have := hk 0 y rfl; rw [Nat.add_zero, hy'] at this; exact Option.some.inj this
        subst this
        exact ⟨cs, more, rfl, h1, h2, ih (k + 1) more (fun i z hz => by have := hk (i + 1) z (by simpa using hz); rwa [show k + (i + 1) = k + 1 + i by omega] at this) h3⟩
    exact key ls 0 cells (fun i y hy => by simpa using hy) h2

/-- make([]T, n), its elements at zero -/
theorem JL.mkF {α : Type} {R : Rep α} {E : TypeId} {z : Value} {size bytes : Nat} {kl kc : IntKind} {n : Int} {y : α} {rs : List α} (hu : x.P.underlying t = some (.slice E)) (he : eInfo x.P E = some (z, size, bytes)) (h1 : evo l p = some (.int kl n)) (h2 : evo l q = some (.int kc n))
    (hR : ∀ H, R H z.cells.toList y) (hR1 : R.One) (hrs : rs = List.replicate n.toNat y) (hn : 0 ≤ n ∧ n.toNat ≤ LIM) (hb : Nat.ble bytes 128 = true) (hd : Nat.blt d x.n = true)
    (h : ∀ v' K', RowOf HF R x.w0.heap.size E size v' rs K' → JL x ops Q rest ((d, v') :: l) (K' :: own) H) : JL x ops Q (⟨some d, .makeSlice t p q, ty, pos, aft, none⟩ :: rest) l own H := by
  subst hrs
  obtain ⟨N, rfl⟩ := Int.eq_ofNat_of_zero_le hn.1
  have hN : N ≤ LIM := by simpa using hn.2
  refine JL.mk (R := (fun _ cs (k : Unit) => R HF cs y ∧ oneCells cs : Rep Unit)) (y := ()) hu he h1 h2 ⟨hR _, hR1 _ _ _ (hR HF)⟩ (fun _ _ _ h => h.2) ?_ (lim_max hN) hd ?_
  · have := lim_bytes hN hb; rw [Nat.mul_comm]; omega
  · intro ao cap K' hr
    refine h _ K' ?_
    obtain ⟨cells, h1, h2, h3⟩ := hr
    refine ⟨cells, by simpa using h1, ?_, h3⟩
    have key : ∀ (k : Nat) (cells : List Value), Flat H (fun _ cs (k : Unit) => R HF cs y ∧ oneCells cs : Rep Unit) size cells (List.replicate k ()) → Flat HF R size cells (List.replicate k y) := by
      intro k
      induction k with
      | zero => intro cells h; exact h
      | succ k ih =>
        intro cells h
        obtain ⟨cs, more, rfl, h1, h2, h3⟩ := h
        exact ⟨cs, more, rfl, h1, h2.1, ih more h3⟩
    simpa using key N cells h2

/-- storing a whole element of an own row -/
theorem JL.stE {α : Type} {R : Rep α} (i : Nat) {T E : TypeId} {g : Bool} {size B b o : Nat} {k : Int} {v u : Value} {m m' : List α} {K : Own} {y : α} (hs : shapeOf x.P T = some (g, size)) (hi : own[i]? = some K) (hS : RowOf HF R B E size v m K)
    (h1 : evo l p = some (.pointer (some ⟨b, o, none⟩))) (hE : ElemAt v size k b o) (h2 : evo l q = some u) (hu : u.cells.size = size) (hR : R HF u.cells.toList y) (hR1 : R.One) (hm : m' = m.set k.toNat y)
    (h : ∀ K', RowOf HF R B E size v m' K' → m'.length = m.length → JL x ops Q rest l (own.set i K') H) : JL x ops Q (⟨none, .store T p q, ty, pos, aft, none⟩ :: rest) l own H := by
  obtain ⟨cells, ⟨h0, h3⟩, hf, ho⟩ := hS
  obtain ⟨hk0, o0, len, cap0, ev, rfl, hklt⟩ := hE
  rcases h3 with ⟨rfl, h3, rfl⟩ | ⟨b', cap, cur, rfl, rfl, e3, e4, e5, e6, e7⟩
  · simp only [Value.slice.injEq] at ev; obtain ⟨ev, _⟩ := ev; cases ev
  · simp only [Value.slice.injEq, Option.some.injEq, Addr.mk.injEq] at ev
    obtain ⟨⟨rfl, rfl, -⟩, rfl, rfl⟩ := ev
    have hk : k.toNat < m.length := hklt
    have hone := hR1 _ _ _ hR
    have hks : k.toNat * size + size ≤ m.length * size := by rw [← Nat.succ_mul]; exact Nat.mul_le_mul_right _ hk
    have hms : m.length * size ≤ cap * size := Nat.mul_le_mul_right _ e4
    subst hm
    refine Zh i hs h1 h2 hi hu (List.all_eq_true.2 hone) (by omega) (h _ ?_ (List.length_set ..))
    have hul : u.cells.toList.length = size := by simpa using hu
    have hcl : cap * size ≤ cur.toList.length := by simpa using e6
    have hf' := Flat.set (y := y) hul hR hf hk
    refine ⟨_, ⟨by rw [hf'.length], .inr ⟨b', cap, _, by rw [List.length_set], rfl, e3, by rw [List.length_set]; exact e4, e5, ?_, ?_⟩⟩, hf', ?_⟩
    · simp only [List.size_toArray, List.length_append, List.length_take, List.length_drop, hul]; omega
    · rw [List.length_set, ← e7, Nat.zero_add]
      simp only []
      rw [List.take_append, List.take_append, List.take_take, List.take_take, Nat.min_eq_right (by omega), Nat.min_eq_left (by omega)]
      rw [List.take_of_length_le (l := u.cells.toList) (by simp only [List.length_take, hul]; omega)]
      congr 1
      rw [List.take_drop]
      congr 2
      simp only [List.length_append, List.length_take, hul]; omega
    · intro w hw
      rcases List.mem_append.1 hw with hw | hw
      · rcases List.mem_append.1 hw with hw | hw
        · exact ho w (List.mem_of_mem_take hw)
        · exact hone w hw
      · exact ho w (List.mem_of_mem_drop hw)
/-- the place of an element of an own row -/
theorem RowOf.place {α : Type} {R : Rep α} {n B : Nat} {E : TypeId} {v : Value} {m : List α} {K : Own} {i : Int} (hS : RowOf HF R B E n v m K) (hi : 0 ≤ i ∧ i.toNat < m.length) : ∃ b o, ElemAt v n i b o := by
  obtain ⟨b, o, cs, cur, _, h, _⟩ := hS.elem (i := i) (y := m[i.toNat]'hi.2) ⟨hi.1, by simp [hi.2]⟩
  exact ⟨b, o, h⟩

/-! ### Calls -/
theorem ZL : own.flatten.Perm (([] : List Own).flatten ++ own.flatten) := by simp
theorem ZS {s : Own} {K rst : List Own} (i : Nat) (hi : own[i]? = some s) (h : (own.eraseIdx i).flatten.Perm (K.flatten ++ rst.flatten)) : own.flatten.Perm ((s :: K).flatten ++ rst.flatten) := by
  refine (flatten_perm hi).trans ?_
  simp only [List.flatten_cons, List.append_assoc]
  exact h.append_left s
theorem RowOf.new {α : Type} {R : Rep α} {B : Nat} {E : TypeId} {size : Nat} {v : Value} {ls : List α} {K : Own} {H0 : Heaplet} {N : Nat} (hle : Hle H0 H) {H' : Heaplet} (hR : R.Mono) (h : RowOf (New H H') R B E size v ls K) (hB : ∀ p ∈ K, N ≤ p.1) : RowOf (New H0 H') R N E size v ls K :=
  (h.mono hR (New.call hle)).base hB
theorem IsSlice.new {α : Type} {R : Rep α} {size : Nat} {v : Value} {m : List α} {H0 H' : Heaplet} (hR : R.Mono) (hle : Hle H0 H) (h : IsSlice (New H H') R size v m) : IsSlice (New H0 H') R size v m := h.mono hR (New.call hle)
theorem IsSlice.old {α : Type} {R : Rep α} {size : Nat} {v : Value} {m : List α} {H0 : Heaplet} (hR : R.Mono) (h : IsSlice (New H0 H) R size v m) : IsSlice H R size v m := h.mono hR (New.le _ _)
theorem RowOf.old {α : Type} {R : Rep α} {B : Nat} {E : TypeId} {size : Nat} {v : Value} {ls : List α} {K : Own} {H0 : Heaplet} (hR : R.Mono) (h : RowOf (New H0 H) R B E size v ls K) : RowOf H R B E size v ls K := h.mono hR (New.le _ _)
theorem RowOf.ge {α : Type} {R : Rep α} {B : Nat} {E : TypeId} {size : Nat} {v : Value} {ls : List α} {K : Own} (h : RowOf HF R B E size v ls K) : ∀ p ∈ K, B ≤ p.1 := by
  obtain ⟨cells, ⟨h0, h1⟩, h2, h3⟩ := h
  rcases h1 with ⟨_, _, rfl⟩ | ⟨g, cap, cur, e1, rfl, e3, r⟩
  · intro p hp; cases hp
  · intro p hp; simp at hp; subst hp; exact e3
theorem ids_nil {N : Nat} : ∀ i ∈ ids ([] : List Own).flatten, N ≤ i := fun i h => by simp [ids] at h
theorem ids_cons {N : Nat} {K : Own} {r : List Own} (h : ∀ p ∈ K, N ≤ p.1) (k : ∀ i ∈ ids r.flatten, N ≤ i) : ∀ i ∈ ids (K :: r).flatten, N ≤ i := fun i hi => by
  simp only [ids, List.flatten_cons, List.map_append, List.mem_append] at hi
  rcases hi with hi | hi
  · obtain ⟨p, hp, rfl⟩ := List.mem_map.1 hi; exact h p hp
  · exact k i hi
theorem Zr {K : Own} {p : Nat × Obj} (i : Nat) (h : own[i]? = some K) (hp : p ∈ K) : p ∈ own.flatten := List.mem_flatten.2 ⟨K, List.mem_of_getElem? h, hp⟩
theorem RowOf.up {α : Type} {R : Rep α} {B N : Nat} {E : TypeId} {size : Nat} {v : Value} {ls : List α} {K : Own} {S : List Nat} (h : RowOf HF R B E size v ls K) (hf : ∀ p ∈ K, p.1 ∈ S ∨ N ≤ p.1) (hS : ∀ i ∈ S, N ≤ i) : RowOf HF R N E size v ls K :=
  h.base (fun p hp => (hf p hp).elim (hS _) id)
theorem SrcF.sliceC {α : Type} {R : Rep α} (hC : R.Const) (hR : R.One) {size : Nat} {tx e : TypeId} {y : Value} {ls : List α} (hu : x.P.underlying tx = some (.slice e)) (hs : IsSlice H R size y ls) : SrcF x H HF own R size tx y ls := by
  obtain ⟨cells, hf, ho, h⟩ := SrcF.slice (own := own) hR hu (Hle.refl _) hs
  exact ⟨cells, hf.conv (fun cs y h => hC _ _ _ _ h), ho, h⟩
theorem Holds.le {a : Act} {w : World} (hh : Holds x l own H a w) : Hle x.H0 H := hh.mem.le
end Go.Ow

/-
  Plain structures for the data of the program. Printed by mkt.py.
-/
namespace Go.Ow

structure Write where
  At : Int
  Data : List UInt8
instance : Inhabited Write := ⟨⟨default, default⟩⟩
structure Disk where
  Blocks : List (List UInt8)
  Waits : List Write
instance : Inhabited Disk := ⟨⟨default, default⟩⟩
structure Ptr where
  At : Int
  Birth : UInt32
  Iv : UInt32
  Tag : UInt32
  Sum : UInt32
instance : Inhabited Ptr := ⟨⟨default, default, default, default, default⟩⟩
structure Label where
  Gen : UInt32
  Epoch : UInt32
  Root : Ptr
instance : Inhabited Label := ⟨⟨default, default, default⟩⟩
structure Object where
  Kind : UInt8
  Links : Int
  Size : Int
  Data : List Ptr
instance : Inhabited Object := ⟨⟨default, default, default, default⟩⟩
structure Line where
  Id : Int
  Kind : UInt8
  Owner : Int
  Prev : Int
  Txg : UInt32
  Guid : UInt32
  Key : Int
  Root : Ptr
  Dead : List Ptr
instance : Inhabited Line := ⟨⟨default, default, default, default, default, default, default, default, default⟩⟩
structure Store where
  Disk : Disk
  Space : List UInt8
  Epoch : UInt32
  Count : UInt32
instance : Inhabited Store := ⟨⟨default, default, default, default⟩⟩
structure Change where
  Set : Int
  Obj : Int
  Index : Int
  Kind : UInt8
  Links : Int
  Size : Int
  Data : List UInt8
  Laid : Ptr
instance : Inhabited Change := ⟨⟨default, default, default, default, default, default, default, default⟩⟩
structure Pool where
  Store : Store
  Gen : UInt32
  Root : Ptr
  MetaL : List Int
  Lines : List Line
  Keys : List (List UInt8)
  Loaded : List (List UInt8)
  Changes : List Change
  Logged : Int
  NextId : Int
  NextGuid : UInt32
instance : Inhabited Pool := ⟨⟨default, default, default, default, default, default, default, default, default, default, default⟩⟩
structure Signer where
  Seed : List UInt8
  Spent : Int
instance : Inhabited Signer := ⟨⟨default, default⟩⟩
structure Entry where
  Name : List UInt8
  Obj : Int
instance : Inhabited Entry := ⟨⟨default, default⟩⟩
structure Info where
  Obj : Int
  Kind : UInt8
  Links : Int
  Size : Int
  To : List UInt8
instance : Inhabited Info := ⟨⟨default, default, default, default, default⟩⟩
structure Call where
  Kind : UInt8
  A : Int
  B : Int
  C : Int
  Name : List UInt8
  As : List UInt8
  Text : List UInt8
  Data : List UInt8
instance : Inhabited Call := ⟨⟨default, default, default, default, default, default, default, default⟩⟩
structure Reply where
  Error : Int
  Id : Int
  Data : List UInt8
  Names : List (List UInt8)
  Info : Info
  Lines : List Int
instance : Inhabited Reply := ⟨⟨default, default, default, default, default, default⟩⟩
structure Part where
  Obj : Int
  Index : Int
  Iv : UInt32
  Tag : UInt32
  Data : List UInt8
instance : Inhabited Part := ⟨⟨default, default, default, default, default⟩⟩
structure Stream where
  Guid : UInt32
  Base : UInt32
  Key : List UInt8
  Parts : List Part
  Sign : List UInt8
instance : Inhabited Stream := ⟨⟨default, default, default, default, default⟩⟩
structure Deed where
  Kind : UInt8
  At : Int
  A : Int
  B : Int
  Call : Call
  Keep : List Bool
instance : Inhabited Deed := ⟨⟨default, default, default, default, default, default⟩⟩
structure Pair where
  Pools : List Pool
  Stream : List UInt8
  Signer : Signer
instance : Inhabited Pair := ⟨⟨default, default, default⟩⟩
end Go.Ow

/-
  What is proved here: plain structures for the data of the program, and how they lie in cells. Printed by mkt.py.
-/
namespace Go.Ow
open Go.RowKit
set_option linter.unusedVariables false
set_option linter.unusedSimpArgs false
def RStr : Rep (List UInt8) := fun _ cs s => cs = [.string (bs s)]
theorem RStr.mono : RStr.Mono := fun _ _ _ _ _ h => h
theorem RStr.const : RStr.Const := fun _ _ _ _ h => h
theorem RStr.one : RStr.One := fun _ cs y h => by rw [show cs = _ from h]; intro u hu; simp at hu; subst hu; rfl


def R_Write : Rep Write := fun H cs x => ∃ v1 : Value, cs = [.int .i64 x.At, v1] ∧ IsSlice H RU8 1 v1 x.Data
theorem R_Write.mono : R_Write.Mono := fun _ _ _ _ hle ⟨v1, e, h1⟩ => ⟨v1, e, h1.mono RU8.mono hle⟩
theorem R_Write.one : R_Write.One := fun _ _ _ ⟨v1, e, h1⟩ => by
  subst e; intro u hu; simp only [List.mem_cons, List.not_mem_nil, or_false] at hu
  rcases hu with rfl | rfl <;> first | rfl | exact h1.one1

def R_Disk : Rep Disk := fun H cs x => ∃ v0 v1 : Value, cs = [v0, v1] ∧ IsSlice H (RSl RU8 1) 1 v0 x.Blocks ∧ IsSlice H R_Write 2 v1 x.Waits
theorem R_Disk.mono : R_Disk.Mono := fun _ _ _ _ hle ⟨v0, v1, e, h0, h1⟩ => ⟨v0, v1, e, h0.mono (RSl.mono RU8.mono) hle, h1.mono R_Write.mono hle⟩
theorem R_Disk.one : R_Disk.One := fun _ _ _ ⟨v0, v1, e, h0, h1⟩ => by
  subst e; intro u hu; simp only [List.mem_cons, List.not_mem_nil, or_false] at hu
  rcases hu with rfl | rfl <;> first | rfl | exact h0.one1 | exact h1.one1

def R_Ptr : Rep Ptr := fun H cs x => cs = [.int .i64 x.At, .int .u32 (x.Birth.toNat : Int), .int .u32 (x.Iv.toNat : Int), .int .u32 (x.Tag.toNat : Int), .int .u32 (x.Sum.toNat : Int)]
theorem R_Ptr.mono : R_Ptr.Mono := fun _ _ _ _ _ h => h
theorem R_Ptr.const : R_Ptr.Const := fun _ _ _ _ h => h
theorem R_Ptr.one : R_Ptr.One := fun _ cs x h => by
  rw [show cs = _ from h]; intro u hu; simp only [List.mem_cons, List.not_mem_nil, or_false] at hu
  rcases hu with rfl | rfl | rfl | rfl | rfl <;> rfl
def R_Label : Rep Label := fun H cs x => cs = [.int .u32 (x.Gen.toNat : Int), .int .u32 (x.Epoch.toNat : Int), .int .i64 x.Root.At, .int .u32 (x.Root.Birth.toNat : Int), .int .u32 (x.Root.Iv.toNat : Int), .int .u32 (x.Root.Tag.toNat : Int), .int .u32 (x.Root.Sum.toNat : Int)]
theorem R_Label.mono : R_Label.Mono := fun _ _ _ _ _ h => h
theorem R_Label.const : R_Label.Const := fun _ _ _ _ h => h
theorem R_Label.one : R_Label.One := fun _ cs x h => by
  rw [show cs = _ from h]; intro u hu; simp only [List.mem_cons, List.not_mem_nil, or_false] at hu
  rcases hu with rfl | rfl | rfl | rfl | rfl | rfl | rfl <;> rfl
def R_Object : Rep Object := fun H cs x => ∃ v3 : Value, cs = [.int .u8 (x.Kind.toNat : Int), .int .i64 x.Links, .int .i64 x.Size, v3] ∧ IsSlice H R_Ptr 5 v3 x.Data
theorem R_Object.mono : R_Object.Mono := fun _ _ _ _ hle ⟨v3, e, h3⟩ => ⟨v3, e, h3.mono R_Ptr.mono hle⟩
theorem R_Object.one : R_Object.One := fun _ _ _ ⟨v3, e, h3⟩ => by
  subst e; intro u hu; simp only [List.mem_cons, List.not_mem_nil, or_false] at hu
  rcases hu with rfl | rfl | rfl | rfl <;> first | rfl | exact h3.one1

def R_Line : Rep Line := fun H cs x => ∃ v12 : Value, cs = [.int .i64 x.Id, .int .u8 (x.Kind.toNat : Int), .int .i64 x.Owner, .int .i64 x.Prev, .int .u32 (x.Txg.toNat : Int), .int .u32 (x.Guid.toNat : Int), .int .i64 x.Key, .int .i64 x.Root.At, .int .u32 (x.Root.Birth.toNat : Int), .int .u32 (x.Root.Iv.toNat : Int), .int .u32 (x.Root.Tag.toNat : Int), .int .u32 (x.Root.Sum.toNat : Int), v12] ∧ IsSlice H R_Ptr 5 v12 x.Dead
theorem R_Line.mono : R_Line.Mono := fun _ _ _ _ hle ⟨v12, e, h12⟩ => ⟨v12, e, h12.mono R_Ptr.mono hle⟩
theorem R_Line.one : R_Line.One := fun _ _ _ ⟨v12, e, h12⟩ => by
  subst e; intro u hu; simp only [List.mem_cons, List.not_mem_nil, or_false] at hu
  rcases hu with rfl | rfl | rfl | rfl | rfl | rfl | rfl | rfl | rfl | rfl | rfl | rfl | rfl <;> first | rfl | exact h12.one1

def R_Store : Rep Store := fun H cs x => ∃ v0 v1 v2 : Value, cs = [v0, v1, v2, .int .u32 (x.Epoch.toNat : Int), .int .u32 (x.Count.toNat : Int)] ∧ IsSlice H (RSl RU8 1) 1 v0 x.Disk.Blocks ∧ IsSlice H R_Write 2 v1 x.Disk.Waits ∧ IsSlice H RU8 1 v2 x.Space
theorem R_Store.mono : R_Store.Mono := fun _ _ _ _ hle ⟨v0, v1, v2, e, h0, h1, h2⟩ => ⟨v0, v1, v2, e, h0.mono (RSl.mono RU8.mono) hle, h1.mono R_Write.mono hle, h2.mono RU8.mono hle⟩
theorem R_Store.one : R_Store.One := fun _ _ _ ⟨v0, v1, v2, e, h0, h1, h2⟩ => by
  subst e; intro u hu; simp only [List.mem_cons, List.not_mem_nil, or_false] at hu
  rcases hu with rfl | rfl | rfl | rfl | rfl <;> first | rfl | exact h0.one1 | exact h1.one1 | exact h2.one1

def R_Change : Rep Change := fun H cs x => ∃ v6 : Value, cs = [.int .i64 x.Set, .int .i64 x.Obj, .int .i64 x.Index, .int .u8 (x.Kind.toNat : Int), .int .i64 x.Links, .int .i64 x.Size, v6, .int .i64 x.Laid.At, .int .u32 (x.Laid.Birth.toNat : Int), .int .u32 (x.Laid.Iv.toNat : Int), .int .u32 (x.Laid.Tag.toNat : Int), .int .u32 (x.Laid.Sum.toNat : Int)] ∧ IsSlice H RU8 1 v6 x.Data
theorem R_Change.mono : R_Change.Mono := fun _ _ _ _ hle ⟨v6, e, h6⟩ => ⟨v6, e, h6.mono RU8.mono hle⟩
theorem R_Change.one : R_Change.One := fun _ _ _ ⟨v6, e, h6⟩ => by
  subst e; intro u hu; simp only [List.mem_cons, List.not_mem_nil, or_false] at hu
  rcases hu with rfl | rfl | rfl | rfl | rfl | rfl | rfl | rfl | rfl | rfl | rfl | rfl <;> first | rfl | exact h6.one1

def R_Pool : Rep Pool := fun H cs x => ∃ v0 v1 v2 v11 v12 v13 v14 v15 : Value, cs = [v0, v1, v2, .int .u32 (x.Store.Epoch.toNat : Int), .int .u32 (x.Store.Count.toNat : Int), .int .u32 (x.Gen.toNat : Int), .int .i64 x.Root.At, .int .u32 (x.Root.Birth.toNat : Int), .int .u32 (x.Root.Iv.toNat : Int), .int .u32 (x.Root.Tag.toNat : Int), .int .u32 (x.Root.Sum.toNat : Int), v11, v12, v13, v14, v15, .int .i64 x.Logged, .int .i64 x.NextId, .int .u32 (x.NextGuid.toNat : Int)] ∧ IsSlice H (RSl RU8 1) 1 v0 x.Store.Disk.Blocks ∧ IsSlice H R_Write 2 v1 x.Store.Disk.Waits ∧ IsSlice H RU8 1 v2 x.Store.Space ∧ IsSlice H RInt 1 v11 x.MetaL ∧ IsSlice H R_Line 13 v12 x.Lines ∧ IsSlice H (RSl RU8 1) 1 v13 x.Keys ∧ IsSlice H (RSl RU8 1) 1 v14 x.Loaded ∧ IsSlice H R_Change 12 v15 x.Changes
theorem R_Pool.mono : R_Pool.Mono := fun _ _ _ _ hle ⟨v0, v1, v2, v11, v12, v13, v14, v15, e, h0, h1, h2, h11, h12, h13, h14, h15⟩ => ⟨v0, v1, v2, v11, v12, v13, v14, v15, e, h0.mono (RSl.mono RU8.mono) hle, h1.mono R_Write.mono hle, h2.mono RU8.mono hle, h11.mono RInt.mono hle, h12.mono R_Line.mono hle, h13.mono (RSl.mono RU8.mono) hle, h14.mono (RSl.mono RU8.mono) hle, h15.mono R_Change.mono hle⟩
theorem R_Pool.one : R_Pool.One := fun _ _ _ ⟨v0, v1, v2, v11, v12, v13, v14, v15, e, h0, h1, h2, h11, h12, h13, h14, h15⟩ => by
  subst e; intro u hu; simp only [List.mem_cons, List.not_mem_nil, or_false] at hu
  rcases hu with rfl | rfl | rfl | rfl | rfl | rfl | rfl | rfl | rfl | rfl | rfl | rfl | rfl | rfl | rfl | rfl | rfl | rfl | rfl <;> first | rfl | exact h0.one1 | exact h1.one1 | exact h2.one1 | exact h11.one1 | exact h12.one1 | exact h13.one1 | exact h14.one1 | exact h15.one1

def R_Signer : Rep Signer := fun H cs x => ∃ v0 : Value, cs = [v0, .int .i64 x.Spent] ∧ IsSlice H RU8 1 v0 x.Seed
theorem R_Signer.mono : R_Signer.Mono := fun _ _ _ _ hle ⟨v0, e, h0⟩ => ⟨v0, e, h0.mono RU8.mono hle⟩
theorem R_Signer.one : R_Signer.One := fun _ _ _ ⟨v0, e, h0⟩ => by
  subst e; intro u hu; simp only [List.mem_cons, List.not_mem_nil, or_false] at hu
  rcases hu with rfl | rfl <;> first | rfl | exact h0.one1

def R_Entry : Rep Entry := fun H cs x => cs = [.string (bs x.Name), .int .i64 x.Obj]
theorem R_Entry.mono : R_Entry.Mono := fun _ _ _ _ _ h => h
theorem R_Entry.const : R_Entry.Const := fun _ _ _ _ h => h
theorem R_Entry.one : R_Entry.One := fun _ cs x h => by
  rw [show cs = _ from h]; intro u hu; simp only [List.mem_cons, List.not_mem_nil, or_false] at hu
  rcases hu with rfl | rfl <;> rfl
def R_Info : Rep Info := fun H cs x => cs = [.int .i64 x.Obj, .int .u8 (x.Kind.toNat : Int), .int .i64 x.Links, .int .i64 x.Size, .string (bs x.To)]
theorem R_Info.mono : R_Info.Mono := fun _ _ _ _ _ h => h
theorem R_Info.const : R_Info.Const := fun _ _ _ _ h => h
theorem R_Info.one : R_Info.One := fun _ cs x h => by
  rw [show cs = _ from h]; intro u hu; simp only [List.mem_cons, List.not_mem_nil, or_false] at hu
  rcases hu with rfl | rfl | rfl | rfl | rfl <;> rfl
def R_Call : Rep Call := fun H cs x => ∃ v7 : Value, cs = [.int .u8 (x.Kind.toNat : Int), .int .i64 x.A, .int .i64 x.B, .int .i64 x.C, .string (bs x.Name), .string (bs x.As), .string (bs x.Text), v7] ∧ IsSlice H RU8 1 v7 x.Data
theorem R_Call.mono : R_Call.Mono := fun _ _ _ _ hle ⟨v7, e, h7⟩ => ⟨v7, e, h7.mono RU8.mono hle⟩
theorem R_Call.one : R_Call.One := fun _ _ _ ⟨v7, e, h7⟩ => by
  subst e; intro u hu; simp only [List.mem_cons, List.not_mem_nil, or_false] at hu
  rcases hu with rfl | rfl | rfl | rfl | rfl | rfl | rfl | rfl <;> first | rfl | exact h7.one1

def R_Reply : Rep Reply := fun H cs x => ∃ v2 v3 v9 : Value, cs = [.int .i64 x.Error, .int .i64 x.Id, v2, v3, .int .i64 x.Info.Obj, .int .u8 (x.Info.Kind.toNat : Int), .int .i64 x.Info.Links, .int .i64 x.Info.Size, .string (bs x.Info.To), v9] ∧ IsSlice H RU8 1 v2 x.Data ∧ IsSlice H RStr 1 v3 x.Names ∧ IsSlice H RInt 1 v9 x.Lines
theorem R_Reply.mono : R_Reply.Mono := fun _ _ _ _ hle ⟨v2, v3, v9, e, h2, h3, h9⟩ => ⟨v2, v3, v9, e, h2.mono RU8.mono hle, h3.mono RStr.mono hle, h9.mono RInt.mono hle⟩
theorem R_Reply.one : R_Reply.One := fun _ _ _ ⟨v2, v3, v9, e, h2, h3, h9⟩ => by
  subst e; intro u hu; simp only [List.mem_cons, List.not_mem_nil, or_false] at hu
  rcases hu with rfl | rfl | rfl | rfl | rfl | rfl | rfl | rfl | rfl | rfl <;> first | rfl | exact h2.one1 | exact h3.one1 | exact h9.one1

def R_Part : Rep Part := fun H cs x => ∃ v4 : Value, cs = [.int .i64 x.Obj, .int .i64 x.Index, .int .u32 (x.Iv.toNat : Int), .int .u32 (x.Tag.toNat : Int), v4] ∧ IsSlice H RU8 1 v4 x.Data
theorem R_Part.mono : R_Part.Mono := fun _ _ _ _ hle ⟨v4, e, h4⟩ => ⟨v4, e, h4.mono RU8.mono hle⟩
theorem R_Part.one : R_Part.One := fun _ _ _ ⟨v4, e, h4⟩ => by
  subst e; intro u hu; simp only [List.mem_cons, List.not_mem_nil, or_false] at hu
  rcases hu with rfl | rfl | rfl | rfl | rfl <;> first | rfl | exact h4.one1

def R_Stream : Rep Stream := fun H cs x => ∃ v2 v3 v4 : Value, cs = [.int .u32 (x.Guid.toNat : Int), .int .u32 (x.Base.toNat : Int), v2, v3, v4] ∧ IsSlice H RU8 1 v2 x.Key ∧ IsSlice H R_Part 5 v3 x.Parts ∧ IsSlice H RU8 1 v4 x.Sign
theorem R_Stream.mono : R_Stream.Mono := fun _ _ _ _ hle ⟨v2, v3, v4, e, h2, h3, h4⟩ => ⟨v2, v3, v4, e, h2.mono RU8.mono hle, h3.mono R_Part.mono hle, h4.mono RU8.mono hle⟩
theorem R_Stream.one : R_Stream.One := fun _ _ _ ⟨v2, v3, v4, e, h2, h3, h4⟩ => by
  subst e; intro u hu; simp only [List.mem_cons, List.not_mem_nil, or_false] at hu
  rcases hu with rfl | rfl | rfl | rfl | rfl <;> first | rfl | exact h2.one1 | exact h3.one1 | exact h4.one1

def R_Deed : Rep Deed := fun H cs x => ∃ v11 v12 : Value, cs = [.int .u8 (x.Kind.toNat : Int), .int .i64 x.At, .int .i64 x.A, .int .i64 x.B, .int .u8 (x.Call.Kind.toNat : Int), .int .i64 x.Call.A, .int .i64 x.Call.B, .int .i64 x.Call.C, .string (bs x.Call.Name), .string (bs x.Call.As), .string (bs x.Call.Text), v11, v12] ∧ IsSlice H RU8 1 v11 x.Call.Data ∧ IsSlice H RBool 1 v12 x.Keep
theorem R_Deed.mono : R_Deed.Mono := fun _ _ _ _ hle ⟨v11, v12, e, h11, h12⟩ => ⟨v11, v12, e, h11.mono RU8.mono hle, h12.mono RBool.mono hle⟩
theorem R_Deed.one : R_Deed.One := fun _ _ _ ⟨v11, v12, e, h11, h12⟩ => by
  subst e; intro u hu; simp only [List.mem_cons, List.not_mem_nil, or_false] at hu
  rcases hu with rfl | rfl | rfl | rfl | rfl | rfl | rfl | rfl | rfl | rfl | rfl | rfl | rfl <;> first | rfl | exact h11.one1 | exact h12.one1

def R_Pair : Rep Pair := fun H cs x => ∃ v0 v1 v2 : Value, cs = [v0, v1, v2, .int .i64 x.Signer.Spent] ∧ IsSlice H R_Pool 19 v0 x.Pools ∧ IsSlice H RU8 1 v1 x.Stream ∧ IsSlice H RU8 1 v2 x.Signer.Seed
theorem R_Pair.mono : R_Pair.Mono := fun _ _ _ _ hle ⟨v0, v1, v2, e, h0, h1, h2⟩ => ⟨v0, v1, v2, e, h0.mono R_Pool.mono hle, h1.mono RU8.mono hle, h2.mono RU8.mono hle⟩
theorem R_Pair.one : R_Pair.One := fun _ _ _ ⟨v0, v1, v2, e, h0, h1, h2⟩ => by
  subst e; intro u hu; simp only [List.mem_cons, List.not_mem_nil, or_false] at hu
  rcases hu with rfl | rfl | rfl | rfl <;> first | rfl | exact h0.one1 | exact h1.one1 | exact h2.one1

end Go.Ow

/-
  What is proved here: equality of structs; storing into a part of an element of an own row; over OwT.
-/
namespace Go.Ow
open Go.RowKit
set_option linter.unusedVariables false
set_option linter.unusedSimpArgs false

variable {x : Cx} {ops : Array Oper} {Q : Exit → Act → World → Prop} {rest : List Oper} {l : Slots} {own : List Own} {H HF : Heaplet}
variable {ty : TypeId} {d : Nat} {pos : String} {aft : Array Edge} {v : Value} {p q : Operand} {t u : TypeId}

/-! ### Equality -/
def EqF (P : Program) (d : Nat) (xs ys : Array Value) : List Field → Bool → Prop
  | [], b => b = true
  | f :: fs, b => f.name ≠ "_" ∧ ∃ (p q : Value) (b1 b2 : Bool), (∀ w, (part f.type xs f.offset).run P w = .ok p w) ∧ (∀ w, (part f.type ys f.offset).run P w = .ok q w) ∧
      (∀ w, (Op.equalIn d f.type p q).run P w = .ok b1 w) ∧ EqF P d xs ys fs b2 ∧ b = (b1 && b2)
theorem EqF.run {P : Program} {d : Nat} {xs ys : Array Value} : ∀ {fs : List Field} {b : Bool}, EqF P d xs ys fs b → ∀ w, (Op.eqFields d xs ys fs).run P w = .ok b w
  | [], b, h, w => by simp only [EqF] at h; subst h; rfl
  | f :: fs, b, h, w => by
    obtain ⟨hn, p, q, b1, b2, h1, h2, h3, h4, rfl⟩ := h
    simp only [Op.eqFields, hn, ne_eq, not_false_eq_true, if_true, Sem.run_bind, h1, h2, h3, Result.andThen, Sem.run_ite]
    cases b1 with
    | true => simpa using EqF.run h4 w
    | false => simp [Sem.run_pure]
theorem run_part1 {P : Program} {T n : Nat} {cs : Array Value} {off : Nat} {v : Value} (hs : shapeOf P T = some (false, n)) (h : cs.toList[off]? = some v) (w : World) : (part T cs off).run P w = .ok v w := by
  have h' : cs[off]? = some v := by simpa using h
  simp only [part, Sem.run_bind, run_isAgg hs, Result.andThen, Bool.false_eq_true, if_false, h', Sem.run_pure]
theorem run_partN {P : Program} {T n : Nat} {cs vs : Array Value} {off : Nat} (hs : shapeOf P T = some (true, n)) (h : cs.extract off (off + n) = vs) (w : World) : (part T cs off).run P w = .ok (.agg vs) w := by
  simp only [part, Sem.run_bind, run_isAgg hs, run_sizeOf hs, Result.andThen, if_true, h, Sem.run_pure]
section eqf
variable {P : Program} {xs ys : Array Value} {f : Field} {fs : List Field} {bb : Bool} {k : Nat}
theorem EqF.nil : EqF P k xs ys [] true := rfl
theorem EqF.i {kk k' : IntKind} {n : Nat} {a b : Int} (hn : f.name ≠ "_") (hs : shapeOf P f.type = some (false, n)) (hu : P.underlying f.type = some (.int k')) (h1 : xs.toList[f.offset]? = some (.int kk a)) (h2 : ys.toList[f.offset]? = some (.int kk b)) (h : EqF P (k + 1) xs ys fs bb) :
    EqF P (k + 1) xs ys (f :: fs) (decide (a = b) && bb) :=
  ⟨hn, _, _, _, _, run_part1 hs h1, run_part1 hs h2, fun w => by rw [run_equalIn_int w k f.type kk k' a b hu, show (a == b) = decide (a = b) by rw [Bool.eq_iff_iff]; simp], h, rfl⟩
theorem EqF.u32 {k' : IntKind} {n : Nat} {a b : UInt32} (hn : f.name ≠ "_") (hs : shapeOf P f.type = some (false, n)) (hu : P.underlying f.type = some (.int k')) (h1 : xs.toList[f.offset]? = some (.int .u32 (a.toNat : Int))) (h2 : ys.toList[f.offset]? = some (.int .u32 (b.toNat : Int))) (h : EqF P (k + 1) xs ys fs bb) :
    EqF P (k + 1) xs ys (f :: fs) (decide (a = b) && bb) := by
  have := EqF.i hn hs hu h1 h2 h
  rw [show decide ((a.toNat : Int) = (b.toNat : Int)) = decide (a = b) by rw [Bool.eq_iff_iff]; simp only [decide_eq_true_eq, ← UInt32.toNat_inj]; omega] at this; exact this
theorem EqF.u8 {k' : IntKind} {n : Nat} {a b : UInt8} (hn : f.name ≠ "_") (hs : shapeOf P f.type = some (false, n)) (hu : P.underlying f.type = some (.int k')) (h1 : xs.toList[f.offset]? = some (.int .u8 (a.toNat : Int))) (h2 : ys.toList[f.offset]? = some (.int .u8 (b.toNat : Int))) (h : EqF P (k + 1) xs ys fs bb) :
    EqF P (k + 1) xs ys (f :: fs) (decide (a = b) && bb) := by
  have := EqF.i hn hs hu h1 h2 h
  rw [show decide ((a.toNat : Int) = (b.toNat : Int)) = decide (a = b) by rw [Bool.eq_iff_iff]; simp only [decide_eq_true_eq, ← UInt8.toNat_inj]; omega] at this; exact this
theorem EqF.s {n : Nat} {xs' ys' : Array Value} {fs' : List Field} {b : Bool} (hn : f.name ≠ "_") (hs : shapeOf P f.type = some (true, n)) (hu : P.underlying f.type = some (.struct (P.fieldsOf f.type))) (hp : P.stoodInHeld f.type = false) (hf : (P.fieldsOf f.type).toList = fs') (h1 : xs.extract f.offset (f.offset + n) = xs') (h2 : ys.extract f.offset (f.offset + n) = ys')
    (hi : EqF P k xs' ys' fs' b) (h : EqF P (k + 1) xs ys fs bb) : EqF P (k + 1) xs ys (f :: fs) (b && bb) :=
  ⟨hn, _, _, _, _, run_partN hs h1, run_partN hs h2, fun w => by rw [run_equalIn_struct w k f.type xs' ys' hu hp, hf]; exact hi.run w, h, rfl⟩
end eqf
/-! ### A part of an element -/
end Go.Ow

/-
  What is proved here: ranges over what an iterator yields; how such a function is left; a few more operations; over OwQ.
-/
namespace Go.Ow
open Go.RowKit
set_option linter.unusedVariables false
set_option linter.unusedSimpArgs false

variable {x : Cx} {ops : Array Oper} {Q : Exit → Act → World → Prop} {rest : List Oper} {l : Slots} {own : List Own} {H HF : Heaplet}
variable {ty : TypeId} {d : Nat} {pos : String} {aft : Array Edge} {v : Value} {p q : Operand} {t u : TypeId}

/-! ### Iterators -/
def IterL {α : Type} (P : Program) (f : FuncId) (cap : Array Value) (H : Heaplet) (RA : Heaplet → Array Value → α → Prop) (xs : List α) : Prop :=
  Iter P f cap H (fun pre H' args y => RA H' args y ∧ ∃ t, pre ++ y :: t = xs) (fun ys => ys = xs) (fun ys => ∃ t, ys ++ t = xs)
/-- how a round may be left, and with what -/
def RoundS {σ τ : Type} (I : σ → List Own → Heaplet → Prop) (X : τ → Code → List Own → Heaplet → Prop) (out : σ ⊕ τ) (wb : World) (Hb : Heaplet) (S : List Nat) : Exit → Act → World → Prop
  | .normal, _, w => ∃ s' o' H', out = .inl s' ∧ Mem wb Hb S o'.flatten H' w ∧ I s' o' H'
  | .ret, _, w => ∃ t o' H', out = .inr t ∧ Mem wb Hb S o'.flatten H' w ∧ X t .ret o' H'
  | .exit id, _, w => ∃ t o' H', out = .inr t ∧ Mem wb Hb S o'.flatten H' w ∧ X t (.exit id) o' H'
  | _, _, _ => False
theorem JC.rangeL {α σ τ : Type} (hr : x.r = none) {g : Operand} {ps : Array Tmp} {assign body : Code} {gf : FuncId} {cap : Array Value} {RA : Heaplet → Array Value → α → Prop} {xs : List α}
    (bd : α → σ → Option (σ ⊕ τ)) (s0 : σ) (tt : σ ⊕ τ) (hrun : forL bd xs s0 = some tt)
    (I : σ → List Own → Heaplet → Prop) (X : τ → Code → List Own → Heaplet → Prop)
    (hg : evo l g = some (.func (.func gf) #[] cap)) (he : Enters x.P gf) (hit : IterL x.P gf cap H RA xs) (hps : ∀ H args y, RA H args y → args.size = ps.size) (hlt : ps.toList.all (fun p => Nat.blt p x.n) = true)
    (h0 : I s0 own H)
    (hround : ∀ (lr : Nat) (y : α) (s : σ) (args : Array Value) (o : List Own) (H' : Heaplet) (out : σ ⊕ τ), I s o H' → RA H' args y → bd y s = some out → ∃ L1 : Slots,
      (∀ wb, x.w0.heap.size ≤ wb.heap.size → JC { x with r := some lr, w0 := wb, H0 := H', S := ids o.flatten, ds := [] } assign
        (Exit.then (fun a w => Holds { x with r := some lr, w0 := wb, H0 := H', S := ids o.flatten, ds := [] } L1 o H' a w) (fun _ _ _ => False)) ((ps.toList.zip args.toList).reverse ++ l) o H') ∧
      (∀ wb, x.w0.heap.size ≤ wb.heap.size → JC { x with r := some lr, w0 := wb, H0 := H', S := ids o.flatten, ds := [] } body (RoundS I X out wb H' (ids o.flatten)) L1 o H'))
    (hdone : ∀ (D : Nat) (s : σ) (o : List Own) (H' : Heaplet), x.w0.heap.size ≤ D → tt = .inl s → I s o H' → Hle H H' → JN { x with ds := mark D :: x.ds } (Q .normal) l ([(D, .deferred (some []))] :: o) H')
    (hstop : ∀ (D : Nat) (c : Code) (e : τ) (o : List Own) (H' : Heaplet), x.w0.heap.size ≤ D → tt = .inr e → X e c o H' → Hle H H' → JC { x with ds := mark D :: x.ds } c Q l ([(D, .deferred (some []))] :: o) H') :
    JC x (.rangeFunc g ps assign body) Q l own H := by
  refine JC.rangeFunc hr hg he hit (fun pre H args y h => hps H args y h.1) hlt
    (fun pre o H' => ∃ s ys, pre ++ ys = xs ∧ forL bd ys s = some tt ∧ I s o H') (fun c pre o H' => ∃ e, tt = .inr e ∧ X e c o H') ⟨s0, xs, rfl, hrun, h0⟩ ?_ ?_ ?_
  · rintro lr pre y args o H' ⟨s, ys, hpre, hf, hI⟩ ⟨hy, t, ht⟩
    have hys : ys = y :: t := by rw [← ht] at hpre; exact List.append_cancel_left hpre
    subst hys
    obtain ⟨out, hb, hcase⟩ := forL_some hf
    obtain ⟨L1, hA, hB⟩ := hround lr y s args o H' out hI hy hb
    refine ⟨L1, hA, fun wb hwb a w hh => wpIn_mono (hB wb hwb a w hh) ?_⟩
    rintro e a w hq
    cases e with
    | normal =>
      obtain ⟨s', o', H2, ho, hm, hI'⟩ := hq
      rcases hcase with ⟨s'', e1, h2⟩ | ⟨e', e1, h2⟩
      · rw [ho] at e1; cases e1
        exact ⟨o', H2, hm, s', t, by rw [← ht]; simp, h2, hI'⟩
      · rw [ho] at e1; cases e1
    | ret =>
      obtain ⟨e', o', H2, ho, hm, hX⟩ := hq
      rcases hcase with ⟨s'', e1, h2⟩ | ⟨e'', e1, h2⟩
      · rw [ho] at e1; cases e1
      · rw [ho] at e1; cases e1; exact ⟨o', H2, hm, e', h2, hX⟩
    | exit id =>
      obtain ⟨e', o', H2, ho, hm, hX⟩ := hq
      rcases hcase with ⟨s'', e1, h2⟩ | ⟨e'', e1, h2⟩
      · rw [ho] at e1; cases e1
      · rw [ho] at e1; cases e1; exact ⟨o', H2, hm, e', h2, hX⟩
    | goto _ => exact hq.elim
    | panic _ => exact hq.elim
    | outgrown => exact hq.elim
  · rintro D ys o H' hD rfl ⟨s, zs, hz, hf, hI⟩ hle
    have : zs = [] := by
      have := congrArg List.length hz; simp at this; exact this
    subst this
    exact hdone D s o H' hD (Option.some.inj hf).symm hI hle
  · rintro D c ys o H' hD hS ⟨e, he', hX⟩ hle
    exact hstop D c e o H' hD he' hX hle
theorem JN.rN {σ τ : Type} {I : σ → List Own → Heaplet → Prop} {X : τ → Code → List Own → Heaplet → Prop} {s : σ} (h : I s own H) : JN x (RoundS I X (.inl s) x.w0 x.H0 x.S .normal) l own H :=
  fun a w hh => ⟨s, own, H, rfl, hh.mem, h⟩
/-! ### Leaving a function that holds such a statement; results in cells too -/
theorem leaves_marks2 {P : Program} {fn : Func} {tmps : Array Value} {w0 : World} {H0 H : Heaplet} {S : List Nat} {R : Ending → World → Prop} {v : Value} {rst : Own}
    (hres : ∀ w, Mem w0 H0 S rst H w → (results fn tmps).run P w = .ok v w) (hR : ∀ w, Mem w0 H0 S rst H w → R (.returned v) w) : ∀ (Ds : List Nat) (w : World),
    Mem w0 H0 S ((Ds.map fun D => (D, Obj.deferred (some []))) ++ rst) H w → LeavesInM Fence.wide 0 P fn tmps R (Ds.map mark) .returning w
  | [], w, hm => ⟨v, hres w (by simpa using hm), hR w (by simpa using hm)⟩
  | D :: Ds, w, hm => by
    have hD : w.heap[D]? = some (.deferred (some [])) := hm.ok.here (D, Obj.deferred (some [])) (by simp)
    have hap : ∀ k, H D k = none := fun k => hm.ok.apart (D, Obj.deferred (some [])) (by simp) k
    refine ⟨by simp, .inl ⟨D, _, rfl, run_takeDeferred hD, ?_⟩⟩
    refine leaves_marks2 hres hR Ds _ ?_
    have := hm.go (K := [(D, Obj.deferred (some []))]) (rst := (Ds.map fun D => (D, Obj.deferred (some []))) ++ rst) (by simp) (Mem.putObj hm.agr hD hap (.deferred none))
    exact this.sub (List.sublist_append_right _ _)
def marked (Ds : List Nat) : List Own := Ds.map fun D => [(D, Obj.deferred (some []))]
theorem marked_flat (Ds : List Nat) : (marked Ds).flatten = Ds.map fun D => (D, Obj.deferred (some [])) := by
  induction Ds with
  | nil => rfl
  | cons D Ds ih => simp only [marked, List.map_cons, List.flatten_cons] at ih ⊢; rw [ih]; rfl
theorem JN.outMP {x0 : Cx} {fn : Func} {R : Value → List Own → Heaplet → Prop} {e : Exit} {rs : List ResultVar} {vs : List Value} {K rst own2 : List Own} (Ds : List Nat) (he : e = .ret ∨ e = .normal)
    (hx : x.P = x0.P ∧ x.w0 = x0.w0 ∧ x.H0 = x0.H0 ∧ x.S = x0.S) (hd : x.ds = Ds.map mark) (hr : fn.results = rs.toArray) (hp : own.flatten.Perm ((marked Ds).flatten ++ own2.flatten)) (hv : Res x.P l own2 rs vs)
    (hp2 : own2.flatten.Perm (K.flatten ++ rst.flatten)) (h : R (pack vs) K H) : JN x (RetM x0 fn R e) l own H := fun a w hh => by
  have : RetM x0 fn R .ret a w := by
    show LeavesInM Fence.wide 0 x0.P fn a.tmps _ a.defers .returning w
    rw [hh.ds, hd]
    obtain ⟨e1, e2, e3, e4⟩ := hx
    refine leaves_marks2 (rst := own2.flatten) (w0 := x.w0) (H0 := x.H0) (S := x.S) (H := H) (v := pack vs) (fun w' hm => ?_) (fun w' hm => ⟨pack vs, K, H, rfl, h, by rw [← e2, ← e3, ← e4]; exact (hm.perm hp2).sub (List.sublist_append_left _ _)⟩) Ds w ?_
    · rw [← e1]
      exact res_run (x := x) (l := l) (own := own2) (H := H) (a := a) ⟨hh.size, hh.ds, hh.slots, hm⟩ hr hv
    · have := hh.mem.perm hp
      rw [marked_flat] at this; exact this
  rcases he with rfl | rfl <;> exact this
/-! ### Entering, with what is known of the blocks that are handed in -/
theorem Does.enterL {P : Program} {f : FuncId} {fn : Func} {c : Code} {vs : List Value} {K : List Own} {H : Heaplet} {R : Value → List Own → Heaplet → Prop} {l : Slots}
    (hf : P.funcs[f]? = some fn) (hb : fn.body = some c) (hn : Nat.ble vs.length fn.ntmps = true) (hl : Sub l ((List.range' 0 vs.length).zip vs))
    (h : ∀ w, (∀ i ∈ ids K.flatten, i < w.heap.size) → JC { P := P, r := none, n := fn.ntmps, w0 := w, H0 := H, S := ids K.flatten, ds := [] } c
      (Ret { P := P, r := none, n := fn.ntmps, w0 := w, H0 := H, S := ids K.flatten, ds := [] } fn R) l K H) : Does P f vs.toArray K H R := fun w ha hk => by
  have hlt : ∀ i ∈ ids K.flatten, i < w.heap.size := fun i hi => by
    obtain ⟨p, hp, rfl⟩ := List.mem_map.1 hi; exact hk.lt p hp
  have hn := Nat.le_of_ble_eq_true hn
  refine callsIn_of_wp hf hb trivial ?_
  refine h w hlt _ w ⟨?_, rfl, ?_, ⟨ha, hk, Kept.refl _ _, fun p hp => .inl (List.mem_map_of_mem hp), Hle.refl _, fun _ _ _ => rfl, Mem.soft0⟩⟩
  · simp; omega
  · intro i v e
    obtain ⟨_, h2⟩ := lk_args vs 0 i v (lk_sub hl i v e)
    have hi : i < vs.length := by
      rcases Nat.lt_or_ge i vs.length with h' | h'
      · exact h'
      · simp [List.getElem?_eq_none h'] at h2
    have h3 : vs[i] = v := by simpa [List.getElem?_eq_getElem hi] using h2
    have : i < (vs.toArray ++ Array.replicate (fn.ntmps - vs.toArray.size) undef).size := by simp; omega
    simp only [Array.getD_eq_getD_getElem?, Array.getElem?_eq_getElem this, Option.getD_some]
    rw [Array.getElem_append_left (by simpa using hi)]
    simpa using h3
theorem Does.enterML {P : Program} {f : FuncId} {fn : Func} {c : Code} {vs : List Value} {K : List Own} {H : Heaplet} {R : Value → List Own → Heaplet → Prop} {l : Slots}
    (hf : P.funcs[f]? = some fn) (hb : fn.body = some c) (hn : Nat.ble vs.length fn.ntmps = true) (hl : Sub l ((List.range' 0 vs.length).zip vs))
    (h : ∀ w, (∀ i ∈ ids K.flatten, i < w.heap.size) → JC { P := P, r := none, n := fn.ntmps, w0 := w, H0 := H, S := ids K.flatten, ds := [] } c
      (RetM { P := P, r := none, n := fn.ntmps, w0 := w, H0 := H, S := ids K.flatten, ds := [] } fn R) l K H) : Does P f vs.toArray K H R := fun w ha hk => by
  have hlt : ∀ i ∈ ids K.flatten, i < w.heap.size := fun i hi => by
    obtain ⟨p, hp, rfl⟩ := List.mem_map.1 hi; exact hk.lt p hp
  have hn := Nat.le_of_ble_eq_true hn
  refine callsIn_of_wp_marks hf hb trivial ?_
  refine h w hlt _ w ⟨?_, rfl, ?_, ⟨ha, hk, Kept.refl _ _, fun p hp => .inl (List.mem_map_of_mem hp), Hle.refl _, fun _ _ _ => rfl, Mem.soft0⟩⟩
  · simp; omega
  · intro i v e
    obtain ⟨_, h2⟩ := lk_args vs 0 i v (lk_sub hl i v e)
    have hi : i < vs.length := by
      rcases Nat.lt_or_ge i vs.length with h' | h'
      · exact h'
      · simp [List.getElem?_eq_none h'] at h2
    have h3 : vs[i] = v := by simpa [List.getElem?_eq_getElem hi] using h2
    have : i < (vs.toArray ++ Array.replicate (fn.ntmps - vs.toArray.size) undef).size := by simp; omega
    simp only [Array.getElem?_eq_getElem this, Option.getD_some]
    rw [Array.getElem_append_left (by simpa using hi)]
    simpa using h3
theorem new_ids {α : Type} {R : Rep α} {N : Nat} {E : TypeId} {size : Nat} {v : Value} {ls : List α} {K : Own} {S : List Nat} (h : RowOf HF R N E size v ls K) (hS : ∀ i ∈ S, i < N) : ∀ p ∈ K, p.1 ∉ S := fun p hp hm => by
  have h1 := h.ge p hp; have h2 := hS _ hm; omega
theorem JC.pubN {c : Code} {α : Type} {R : Rep α} (i : Nat) (hR : R.Mono) {K : Own} {B : Nat} {E : TypeId} {size : Nat} {v : Value} {ls : List α} (hi : own[i]? = some K) (hr : RowOf (New x.H0 H) R B E size v ls K) (hB : x.w0.heap.size ≤ B)
    (h : ∀ H', Hle H H' → IsSlice (New x.H0 H') R size v ls → JC x c Q l (own.set i []) H') : JC x c Q l own H := JN.pubN (C := fun a w => c.wpIn (Fw x.r) 0 x.P Q a w) i hR hi hr hB h

/-! ### Cuts around code that leaves marks -/
end Go.Ow

/-
  What is proved here: parts of own rows: reading through them, a prefix that goes on as the row, clearing a part; append of zeros to nothing; over OwS.
-/
namespace Go.Ow
open Go.RowKit
set_option linter.unusedVariables false
set_option linter.unusedSimpArgs false

variable {x : Cx} {ops : Array Oper} {Q : Exit → Act → World → Prop} {rest : List Oper} {l : Slots} {own : List Own} {H HF : Heaplet}
variable {ty : TypeId} {d : Nat} {pos : String} {aft : Array Edge} {v : Value} {p q : Operand} {t u : TypeId}

/-- v' is the part of v from its lo-th element on, so many long -/
def SubV (size : Nat) (v v' : Value) (lo len : Nat) : Prop :=
  (∃ ao cap, v' = .slice ao len cap) ∧ (len = 0 ∨ ∃ b o n cap cap', v = .slice (some ⟨b, o, none⟩) n cap ∧ v' = .slice (some ⟨b, o + lo * size, none⟩) len cap' ∧ lo + len ≤ n)
def LongI (v : Value) (e : Int) : Prop := ∃ n : Nat, Long v n ∧ (n : Int) = e
theorem ElemAt.sub {size lo len : Nat} {v v' : Value} {i j : Int} {b o : Nat} (hs : SubV size v v' lo len) (hE : ElemAt v size j b o) (hj : j = (lo : Int) + i) (hi : 0 ≤ i ∧ i < len) : ElemAt v' size i b o := by
  obtain ⟨_, hs⟩ := hs
  rcases hs with h0 | ⟨b', o', n, cap, cap', rfl, rfl, hle⟩
  · omega
  · obtain ⟨h0, o0, len', cap0, e, rfl, hlt⟩ := hE
    simp only [Value.slice.injEq, Option.some.injEq, Addr.mk.injEq] at e
    obtain ⟨⟨rfl, rfl, -⟩, rfl, rfl⟩ := e
    refine ⟨hi.1, _, len, cap', rfl, ?_, by omega⟩
    have : j.toNat = lo + i.toNat := by omega
    rw [this, Nat.add_mul]; omega
theorem RowOf.cutv {α : Type} {R : Rep α} {B size : Nat} {E : TypeId} {v : Value} {m : List α} {K : Own} {a b : Int} (h : RowOf HF R B E size v m K) (hab : 0 ≤ a ∧ a ≤ b ∧ b ≤ m.length) :
    ∃ v' cap, (∃ ao n, v = .slice ao n cap ∧ (cap : Int) = cap) ∧ b ≤ cap ∧ (∃ ao, v = .slice ao m.length cap ∧ (cap : Int) ≤ cap ∧ v' = sliced ao a.toNat b.toNat (cap : Int).toNat size) ∧
      SubV size v v' a.toNat (b.toNat - a.toNat) ∧ LongI v' (b - a) := by
  obtain ⟨cells, ⟨h0, h1⟩, hf, ho⟩ := h
  rcases h1 with ⟨rfl, h3, rfl⟩ | ⟨g, cap, cur, rfl, rfl, e3, e4, e5, e6, e7⟩
  · have hm : m = [] := List.length_eq_zero_iff.1 h3
    subst hm
    have ha : a = 0 := by simp at hab; omega
    have hb : b = 0 := by simp at hab; omega
    subst ha hb
    exact ⟨_, 0, ⟨none, 0, rfl, rfl⟩, by omega, ⟨none, rfl, Int.le_refl _, rfl⟩, ⟨⟨_, _, rfl⟩, .inl rfl⟩, 0, ⟨_, _, rfl⟩, rfl⟩
  · refine ⟨_, cap, ⟨_, _, rfl, rfl⟩, by omega, ⟨_, rfl, Int.le_refl _, rfl⟩, ⟨⟨_, _, rfl⟩, ?_⟩, b.toNat - a.toNat, ⟨_, _, rfl⟩, by omega⟩
    by_cases hz : b.toNat - a.toNat = 0
    · exact .inl hz
    · refine .inr ⟨g, 0, _, cap, cap - a.toNat, rfl, ?_, by omega⟩
      have hne : ¬ cap = a.toNat := by omega
      simp only [sliced, Int.toNat_natCast, if_neg hne, Option.map_some, add_lit]
/-- the first elements: what is behind them is spare -/
theorem RowOf.pre {α : Type} {R : Rep α} {B size : Nat} {E : TypeId} {v : Value} {m m' : List α} {K : Own} {b : Int} (h : RowOf HF R B E size v m K) (hm : m' = cut m 0 b) (hab : (0 : Int) ≤ 0 ∧ 0 ≤ b ∧ b ≤ m.length) :
    ∃ v' cap, (∃ ao n, v = .slice ao n cap ∧ (cap : Int) = cap) ∧ b ≤ cap ∧ (∃ ao, v = .slice ao m.length cap ∧ (cap : Int) ≤ cap ∧ v' = sliced ao (0 : Int).toNat b.toNat (cap : Int).toNat size) ∧ RowOf HF R B E size v' m' K := by
  subst hm
  obtain ⟨cells, ⟨h0, h1⟩, hf, ho⟩ := h
  rcases h1 with ⟨rfl, h3, rfl⟩ | ⟨g, cap, cur, rfl, rfl, e3, e4, e5, e6, e7⟩
  · have hm : m = [] := List.length_eq_zero_iff.1 h3
    subst hm
    have hb : b = 0 := by simp at hab; omega
    subst hb
    refine ⟨_, 0, ⟨none, 0, rfl, rfl⟩, by omega, ⟨none, rfl, Int.le_refl _, rfl⟩, ?_⟩
    have : sliced (none : Option Addr) (0 : Int).toNat (0 : Int).toNat ((0 : Nat) : Int).toNat size = .slice none 0 0 := by simp [sliced]
    rw [this, show cut ([] : List α) 0 0 = [] by simp [cut]]; exact Zc _ _ _ _ _
  · have hlen : (cut m 0 b).length = b.toNat := by simp only [cut, List.length_take, List.length_drop]; omega
    have hfl := hf.length
    have hft : ∀ (k : Nat) (m : List α) (cells : List Value), Flat HF R size cells m → Flat HF R size (cells.take (k * size)) (m.take k) := by
      intro k
      induction k with
      | zero => intro m cells _; simp [Flat]
      | succ k ih =>
        intro m cells hF
        cases m with
        | nil => simp only [Flat] at hF; subst hF; simp [Flat]
        | cons y r =>
          obtain ⟨cs, more, rfl, f1, f2, f3⟩ := hF
          refine ⟨cs, more.take (k * size), ?_, f1, f2, ih r more f3⟩
          rw [List.take_append, List.take_of_length_le (by rw [f1, Nat.add_mul]; omega), f1]; congr 2; rw [Nat.add_mul]; omega
    have hcut : cut m 0 b = m.take b.toNat := by simp [cut]
    refine ⟨_, cap, ⟨_, _, rfl, rfl⟩, by omega, ⟨_, rfl, Int.le_refl _, rfl⟩, ?_⟩
    have hv : sliced (some (⟨g, 0, none⟩ : Addr)) (0 : Int).toNat b.toNat (cap : Int).toNat size = .slice (some ⟨g, 0, none⟩) b.toNat cap := by
      simp [sliced]
    rw [hv]
    refine ⟨cells.take (b.toNat * size), ⟨?_, .inr ⟨g, cap, cur, by rw [hlen], rfl, e3, by omega, e5, e6, ?_⟩⟩, by rw [hcut]; exact hft _ _ _ hf, fun w hw => ho w (List.mem_of_mem_take hw)⟩
    · rw [List.length_take, hlen, hfl, Nat.min_eq_left (Nat.mul_le_mul_right _ (by omega))]
    · rw [hlen, ← e7, List.take_take, Nat.min_eq_left (Nat.mul_le_mul_right _ (by omega))]
/-! ### Nothing -/
end Go.Ow

/-
  What is proved here: what a reading of an argument says, as a datum that lies in the memory at the law's beginning; the lift of a law's walk to its contract.
-/
namespace Go.Ow
open Go.ChangeShapes Go.WideShapes Go.ChangeAt Go.RowKit
set_option linter.unusedVariables false
set_option linter.unusedSimpArgs false

/-- the memory at the beginning -/
def HW (W : World) : Heaplet := fun b o => W.cell? ⟨b, o, none⟩
theorem agrees_HW (W : World) : Agrees (HW W) W := fun _ _ _ h => h

/-- a seat's own 'bulk', by its equations -/
structure Bulk (H : Type) where
  one : DataW H → Nat
  all : List (DataW H) → Nat
  hstr : ∀ l : List UInt8, one (.lit (.string l)) = l.length + 1
  hsl : ∀ a b, one (.slice a b) = all a + all b + 1
  hagg : ∀ a, one (.agg a) = all a + 1
  hnil : all [] = 0
  hcons : ∀ d r, all (d :: r) = one d + all r
  hone : ∀ d, 1 ≤ one d

section
variable {H : Type} {enc : TypeId × Value → H} {P : Program} {W : World} {B : Bulk H}

theorem Bulk.append (l r : List (DataW H)) : B.all (l ++ r) = B.all l + B.all r := by
  induction l with
  | nil => simp [B.hnil]
  | cons x l ih => simp only [List.cons_append, B.hcons, ih]; omega
/-- what a reading of cells of a type says: a datum, as large as told, that is as told -/
def Reads (enc : TypeId × Value → H) (P : Program) (W : World) (B : Bulk H) (t : TypeId) {α : Type} (R : Rep α) (size : Nat) (big : α → Nat) (I : α → Prop) : Prop :=
  ∀ fuel cs d ps, DataW.trod enc P W 0 (fun _ => true) true fuel t cs = some (d, ps) → ∃ x, R (HW W) cs x ∧ cs.length = size ∧ big x ≤ B.one d ∧ I x

theorem has_iff {k : IntKind} {n : Int} (h : (Lit.int k n).wf = true) : k.min ≤ n ∧ n ≤ k.max := by
  simpa [Lit.wf] using h
theorem reads_int {t : TypeId} (ht : P.underlying t = some (.int .i64)) : Reads enc P W B t RInt 1 (fun _ => 1) InI64 := fun fuel cs d ps h => by
  obtain ⟨n, rfl, hx, hw⟩ := DataW.trod_int ht h
  exact ⟨n, rfl, rfl, B.hone _, by simpa [InI64, IntKind.min, IntKind.max, IntKind.signed, IntKind.bits] using has_iff hw⟩
theorem reads_u8 {t : TypeId} (ht : P.underlying t = some (.int .u8)) : Reads enc P W B t RU8 1 (fun _ => 1) (fun _ => True) := fun fuel cs d ps h => by
  obtain ⟨n, rfl, hx, hw⟩ := DataW.trod_int ht h
  have := has_iff hw
  simp only [IntKind.min, IntKind.max, IntKind.signed, IntKind.bits] at this
  refine ⟨UInt8.ofNat n.toNat, ?_, rfl, B.hone _, trivial⟩
  show [Value.int .u8 n] = [.int .u8 (UInt8.ofNat n.toNat).toNat]
  have h2 : n.toNat < 256 := by simp at this; omega
  rw [UInt8.toNat_ofNat_of_lt' (by simpa [UInt8.size] using h2)]
  simp at this
  congr 2; omega
theorem reads_u32 {t : TypeId} (ht : P.underlying t = some (.int .u32)) : Reads enc P W B t RU32 1 (fun _ => 1) (fun _ => True) := fun fuel cs d ps h => by
  obtain ⟨n, rfl, hx, hw⟩ := DataW.trod_int ht h
  have := has_iff hw
  simp only [IntKind.min, IntKind.max, IntKind.signed, IntKind.bits] at this
  refine ⟨UInt32.ofNat n.toNat, ?_, rfl, B.hone _, trivial⟩
  show [Value.int .u32 n] = [.int .u32 (UInt32.ofNat n.toNat).toNat]
  have h2 : n.toNat < 4294967296 := by simp at this; omega
  rw [UInt32.toNat_ofNat_of_lt' (by simpa [UInt32.size] using h2)]
  simp at this
  congr 2; omega
/-- the bulk of a list of data -/
def bigs {α : Type} (big : α → Nat) (l : List α) : Nat := (l.map big).sum + 1

theorem reads_slice {α : Type} {t e : TypeId} {R : Rep α} {size : Nat} {big : α → Nat} {I : α → Prop} (ht : P.underlying t = some (.slice e)) (hc : P.cellsOf e = size) (hpos : 0 < size) (he : Reads enc P W B e R size big I) :
    ∀ fuel cs d ps, DataW.trod enc P W 0 (fun _ => true) true fuel t cs = some (d, ps) → ∃ ao n cap, cs = [.slice ao n cap] ∧ ∃ l, IsSlice (HW W) R size (.slice ao n cap) l ∧ bigs big l ≤ B.one d ∧ ∀ x ∈ l, I x := fun fuel cs d ps h => by
  rcases DataW.trod_slice ht h with ⟨rfl, hx⟩ | ⟨a, len, cap, elems, rst, m, _, rfl, hx, _, hlc, hcm, hlen, hel, hrest, _⟩
  · exact ⟨none, 0, 0, rfl, [], IsSlice.nil _ _ _, by simp [bigs]; exact B.hone _, by simp⟩
  · have hspot : cap = 0 ∨ a.spot = none := by
      by_cases h0 : cap = 0
      · exact .inl h0
      right
      have hsome : ∃ cs', W.cells? 0 a (P.cellsOf e) = some cs' := by
        by_cases hl : len = 0
        · subst hl
          obtain ⟨hr1, hr2⟩ := hrest rfl
          have := hr2 0 (by omega)
          have h3 : (rst[0]?).isSome = true := by rw [List.getElem?_eq_getElem (by omega)]; rfl
          rw [← this] at h3
          cases h4 : W.cells? 0 (a.add ((0 + 0) * P.cellsOf e)) (P.cellsOf e) with
          | none => rw [h4] at h3; simp at h3
          | some c => exact ⟨c, by simpa [Addr.add] using h4⟩
        · have := hel 0 (by omega)
          have h3 : (elems[0]?).isSome = true := by rw [List.getElem?_eq_getElem (by omega)]; rfl
          rw [← this] at h3
          cases h4 : W.cells? 0 (a.add (0 * P.cellsOf e)) (P.cellsOf e) with
          | none => rw [h4] at h3; simp at h3
          | some c => exact ⟨c, by simpa [Addr.add] using h4⟩
      obtain ⟨cs', hcs'⟩ := hsome
      obtain ⟨_, hl', hc'⟩ := World.cells?_some hcs'
      have := hc' 0 (by omega)
      have h5 : (cs'[0]?).isSome = true := by rw [List.getElem?_eq_getElem (by omega)]; rfl
      rw [← this] at h5
      have h6 : a.add 0 = a := by simp [Addr.add]
      rw [h6] at h5
      cases hs : a.spot with
      | none => rfl
      | some s =>
        unfold World.cell? at h5
        rw [hs] at h5
        split at h5 <;> simp at h5
    have key : ∀ (k : Nat), k ≤ len → ∃ l : List α, l.length = k ∧ (l.map big).sum ≤ B.all ((elems.take k).map (·.1)) ∧ (∀ x ∈ l, I x) ∧
        ∀ i y, l[i]? = some y → ∃ cs, W.cells? 0 (a.add (i * size)) size = some cs ∧ R (HW W) cs y ∧ cs.length = size := by
      intro k
      induction k with
      | zero => intro _; exact ⟨[], rfl, by simp, by simp, by simp⟩
      | succ k ih =>
        intro hk
        obtain ⟨l, hl, hb, hI, hi⟩ := ih (by omega)
        have h1 := hel k (by omega)
        have hk' : k < elems.length := by omega
        rw [List.getElem?_eq_getElem hk'] at h1
        cases h4 : W.cells? 0 (a.add (k * P.cellsOf e)) (P.cellsOf e) with
        | none => rw [h4] at h1; simp at h1
        | some c =>
          rw [h4] at h1
          simp only [Option.bind_some] at h1
          obtain ⟨y, hy1, hy2, hy3, hy4⟩ := he m c elems[k].1 elems[k].2 h1
          refine ⟨l ++ [y], by simp [hl], ?_, ?_, ?_⟩
          · rw [List.map_append, List.sum_append, List.take_succ_eq_append_getElem hk', List.map_append, B.append]
            simp only [List.map_cons, List.map_nil, List.sum_cons, List.sum_nil, B.hcons, B.hnil]
            omega
          · intro x hx
            rcases List.mem_append.1 hx with hx | hx
            · exact hI x hx
            · simp at hx; subst hx; exact hy4
          · intro i z hz
            by_cases hi' : i < k
            · rw [List.getElem?_append_left (by omega)] at hz
              exact hi i z hz
            · have hik : i = k := by
                have := (List.getElem?_eq_some_iff.1 hz).1
                simp at this; omega
              subst hik
              rw [List.getElem?_append_right (by omega)] at hz
              simp [hl] at hz; subst hz
              exact ⟨c, by rw [← hc]; exact h4, hy1, hy2⟩
    obtain ⟨l, hl, hb, hI, hi⟩ := key len (Nat.le_refl _)
    refine ⟨some a, len, cap, rfl, l, ⟨some a, cap, by rw [hl], by omega, hcm, fun a' e' => ?_, fun e' => (by cases e'), fun i y hy => ?_⟩, ?_, hI⟩
    · cases e'; exact hspot
    · have hlt := (List.getElem?_eq_some_iff.1 hy).1
      have hsp : a.spot = none := hspot.resolve_left (by omega)
      obtain ⟨b, o, s⟩ := a
      simp at hsp; subst hsp
      obtain ⟨cs, h1, h2, h3⟩ := hi i y hy
      refine ⟨b, o, cs, rfl, h3, h2, fun j u hu => ?_⟩
      obtain ⟨_, _, h5⟩ := World.cells?_some h1
      have hj : j < size := by have := (List.getElem?_eq_some_iff.1 hu).1; omega
      have h6 := h5 j hj
      rw [hu] at h6
      have e1 : (Addr.add (Addr.add ⟨b, o, none⟩ (i * size)) j) = ⟨b, o + i * size + j, none⟩ := by
        unfold Addr.add; split <;> split <;> simp_all
      rw [e1] at h6
      exact h6
    · simp only [Prod.mk.injEq] at hx
      rw [hx.1, B.hsl]
      rw [List.take_of_length_le (by omega)] at hb
      unfold bigs; omega
theorem reads_sl {α : Type} {t e : TypeId} {R : Rep α} {size : Nat} {big : α → Nat} {I : α → Prop} (ht : P.underlying t = some (.slice e)) (hc : P.cellsOf e = size) (hpos : 0 < size) (he : Reads enc P W B e R size big I) :
    Reads enc P W B t (RSl R size) 1 (bigs big) (fun l => ∀ x ∈ l, I x) := fun fuel cs d ps h => by
  obtain ⟨ao, n, cap, rfl, l, h1, h2, h3⟩ := reads_slice ht hc hpos he fuel cs d ps h
  exact ⟨l, ⟨_, rfl, h1⟩, rfl, h2, h3⟩
end
end Go.Ow

/-
  What is proved here: what a reading of the program's structures says. Printed by mkrt.py.
-/
namespace Go.Ow
open Go.ChangeShapes Go.WideShapes Go.ChangeAt Go.RowKit
set_option linter.unusedVariables false
set_option linter.unusedSimpArgs false

section
variable {H : Type} {enc : TypeId × Value → H} {P : Program} {W : World} {B : Bulk H}

def big_Part (x : Part) : Nat := 1 + 1 + 1 + 1 + bigs (fun _ => 1) x.Data + 1
def ok_Part (x : Part) : Prop := InI64 x.Obj ∧ InI64 x.Index ∧ True ∧ True ∧ (∀ y ∈ x.Data, (fun _ => True) y)
theorem reads_Part {t : TypeId} {fs : Array Field} {f0 f1 f2 f3 f4 : Field} (ht : P.underlying t = some (.struct fs)) (hN : P.cellsOf t = 5) (hk : fs.size = 5)
    (g0 : fs[0]? = some f0 ∧ f0.offset = 0 ∧ P.cellsOf f0.type = 1) (r0 : Reads enc P W B f0.type RInt 1 (fun _ => 1) InI64)
    (g1 : fs[1]? = some f1 ∧ f1.offset = 1 ∧ P.cellsOf f1.type = 1) (r1 : Reads enc P W B f1.type RInt 1 (fun _ => 1) InI64)
    (g2 : fs[2]? = some f2 ∧ f2.offset = 2 ∧ P.cellsOf f2.type = 1) (r2 : Reads enc P W B f2.type RU32 1 (fun _ => 1) (fun _ => True))
    (g3 : fs[3]? = some f3 ∧ f3.offset = 3 ∧ P.cellsOf f3.type = 1) (r3 : Reads enc P W B f3.type RU32 1 (fun _ => 1) (fun _ => True))
    (g4 : fs[4]? = some f4 ∧ f4.offset = 4 ∧ P.cellsOf f4.type = 1) (r4 : Reads enc P W B f4.type (RSl RU8 1) 1 (bigs (fun _ => 1)) (fun l => ∀ x ∈ l, (fun _ => True) x)) :
    Reads enc P W B t R_Part 5 big_Part ok_Part := fun fuel cs d ps h => by
  obtain ⟨xs, n, _, hx, hlen, hxl, hf⟩ := DataW.trod_struct ht h
  rw [hN] at hlen
  rw [hk] at hxl
  match xs, hxl with
  | [x0, x1, x2, x3, x4], _ =>
  match cs, hlen with
  | [c0, c1, c2, c3, c4], _ =>
  obtain ⟨y0, a0, _, b0, i0⟩ := r0 n [c0] x0.1 x0.2 (by have e := hf 0 _ g0.1; rw [g0.2.1, g0.2.2] at e; exact e)
  have b0 : 1 ≤ B.one x0.1 := b0
  obtain rfl : c0 = .int .i64 y0 := by have e : [c0] = [.int .i64 y0] := a0; simpa using e
  obtain ⟨y1, a1, _, b1, i1⟩ := r1 n [c1] x1.1 x1.2 (by have e := hf 1 _ g1.1; rw [g1.2.1, g1.2.2] at e; exact e)
  have b1 : 1 ≤ B.one x1.1 := b1
  obtain rfl : c1 = .int .i64 y1 := by have e : [c1] = [.int .i64 y1] := a1; simpa using e
  obtain ⟨y2, a2, _, b2, i2⟩ := r2 n [c2] x2.1 x2.2 (by have e := hf 2 _ g2.1; rw [g2.2.1, g2.2.2] at e; exact e)
  have b2 : 1 ≤ B.one x2.1 := b2
  obtain rfl : c2 = .int .u32 (y2.toNat : Int) := by have e : [c2] = [.int .u32 (y2.toNat : Int)] := a2; simpa using e
  obtain ⟨y3, a3, _, b3, i3⟩ := r3 n [c3] x3.1 x3.2 (by have e := hf 3 _ g3.1; rw [g3.2.1, g3.2.2] at e; exact e)
  have b3 : 1 ≤ B.one x3.1 := b3
  obtain rfl : c3 = .int .u32 (y3.toNat : Int) := by have e : [c3] = [.int .u32 (y3.toNat : Int)] := a3; simpa using e
  obtain ⟨y4, a4, _, b4, i4⟩ := r4 n [c4] x4.1 x4.2 (by have e := hf 4 _ g4.1; rw [g4.2.1, g4.2.2] at e; exact e)
  have b4 : bigs (fun _ => 1) y4 ≤ B.one x4.1 := b4
  obtain ⟨u4, e, a4⟩ := a4
  obtain rfl : c4 = u4 := by simpa using e
  refine ⟨⟨y0, y1, y2, y3, y4⟩, ⟨_, rfl, a4⟩, rfl, ?_, ⟨i0, i1, i2, i3, i4⟩⟩
  simp only [Prod.mk.injEq] at hx
  rw [hx.1, B.hagg]
  simp only [List.map_cons, List.map_nil, B.hcons, B.hnil, big_Part]
  omega

def big_Stream (x : Stream) : Nat := 1 + 1 + bigs (fun _ => 1) x.Key + bigs big_Part x.Parts + bigs (fun _ => 1) x.Sign + 1
def ok_Stream (x : Stream) : Prop := True ∧ True ∧ (∀ y ∈ x.Key, (fun _ => True) y) ∧ (∀ y ∈ x.Parts, ok_Part y) ∧ (∀ y ∈ x.Sign, (fun _ => True) y)
theorem reads_Stream {t : TypeId} {fs : Array Field} {f0 f1 f2 f3 f4 : Field} (ht : P.underlying t = some (.struct fs)) (hN : P.cellsOf t = 5) (hk : fs.size = 5)
    (g0 : fs[0]? = some f0 ∧ f0.offset = 0 ∧ P.cellsOf f0.type = 1) (r0 : Reads enc P W B f0.type RU32 1 (fun _ => 1) (fun _ => True))
    (g1 : fs[1]? = some f1 ∧ f1.offset = 1 ∧ P.cellsOf f1.type = 1) (r1 : Reads enc P W B f1.type RU32 1 (fun _ => 1) (fun _ => True))
    (g2 : fs[2]? = some f2 ∧ f2.offset = 2 ∧ P.cellsOf f2.type = 1) (r2 : Reads enc P W B f2.type (RSl RU8 1) 1 (bigs (fun _ => 1)) (fun l => ∀ x ∈ l, (fun _ => True) x))
    (g3 : fs[3]? = some f3 ∧ f3.offset = 3 ∧ P.cellsOf f3.type = 1) (r3 : Reads enc P W B f3.type (RSl R_Part 5) 1 (bigs big_Part) (fun l => ∀ x ∈ l, ok_Part x))
    (g4 : fs[4]? = some f4 ∧ f4.offset = 4 ∧ P.cellsOf f4.type = 1) (r4 : Reads enc P W B f4.type (RSl RU8 1) 1 (bigs (fun _ => 1)) (fun l => ∀ x ∈ l, (fun _ => True) x)) :
    Reads enc P W B t R_Stream 5 big_Stream ok_Stream := fun fuel cs d ps h => by
  obtain ⟨xs, n, _, hx, hlen, hxl, hf⟩ := DataW.trod_struct ht h
  rw [hN] at hlen
  rw [hk] at hxl
  match xs, hxl with
  | [x0, x1, x2, x3, x4], _ =>
  match cs, hlen with
  | [c0, c1, c2, c3, c4], _ =>
  obtain ⟨y0, a0, _, b0, i0⟩ := r0 n [c0] x0.1 x0.2 (by have e := hf 0 _ g0.1; rw [g0.2.1, g0.2.2] at e; exact e)
  have b0 : 1 ≤ B.one x0.1 := b0
  obtain rfl : c0 = .int .u32 (y0.toNat : Int) := by have e : [c0] = [.int .u32 (y0.toNat : Int)] := a0; simpa using e
  obtain ⟨y1, a1, _, b1, i1⟩ := r1 n [c1] x1.1 x1.2 (by have e := hf 1 _ g1.1; rw [g1.2.1, g1.2.2] at e; exact e)
  have b1 : 1 ≤ B.one x1.1 := b1
  obtain rfl : c1 = .int .u32 (y1.toNat : Int) := by have e : [c1] = [.int .u32 (y1.toNat : Int)] := a1; simpa using e
  obtain ⟨y2, a2, _, b2, i2⟩ := r2 n [c2] x2.1 x2.2 (by have e := hf 2 _ g2.1; rw [g2.2.1, g2.2.2] at e; exact e)
  have b2 : bigs (fun _ => 1) y2 ≤ B.one x2.1 := b2
  obtain ⟨u2, e, a2⟩ := a2
  obtain rfl : c2 = u2 := by simpa using e
  obtain ⟨y3, a3, _, b3, i3⟩ := r3 n [c3] x3.1 x3.2 (by have e := hf 3 _ g3.1; rw [g3.2.1, g3.2.2] at e; exact e)
  have b3 : bigs big_Part y3 ≤ B.one x3.1 := b3
  obtain ⟨u3, e, a3⟩ := a3
  obtain rfl : c3 = u3 := by simpa using e
  obtain ⟨y4, a4, _, b4, i4⟩ := r4 n [c4] x4.1 x4.2 (by have e := hf 4 _ g4.1; rw [g4.2.1, g4.2.2] at e; exact e)
  have b4 : bigs (fun _ => 1) y4 ≤ B.one x4.1 := b4
  obtain ⟨u4, e, a4⟩ := a4
  obtain rfl : c4 = u4 := by simpa using e
  refine ⟨⟨y0, y1, y2, y3, y4⟩, ⟨_, _, _, rfl, a2, a3, a4⟩, rfl, ?_, ⟨i0, i1, i2, i3, i4⟩⟩
  simp only [Prod.mk.injEq] at hx
  rw [hx.1, B.hagg]
  simp only [List.map_cons, List.map_nil, B.hcons, B.hnil, big_Stream]
  omega

end
end Go.Ow

/-
  What is proved here: a law's arguments, as data that lie in the memory; from the walk of a law that is true to its contract.
-/
namespace Go.Ow
open Go.ChangeShapes Go.WideShapes Go.ChangeAt Go.RowKit
set_option linter.unusedVariables false
set_option linter.unusedSimpArgs false
section
variable {H : Type} {enc : TypeId × Value → H} {P : Program} {W : World} {B : Bulk H} {r : Reach} {b0 : Nat} {t : TypeId} {v : Value} {d : DataW H} {ps : List MemPlace}

theorem arg_slice {α : Type} {e : TypeId} {R : Rep α} {size : Nat} {big : α → Nat} {I : α → Prop} (ht : P.underlying t = some (.slice e)) (hc : P.cellsOf e = size) (hpos : 0 < size) (he : Reads enc P W B e R size big I)
    (hval : Value.okWide P W r b0 t v) (hd : DataW.Trod enc P W 0 (fun _ => true) true t v d ps) :
    ∃ ao n cap, v = .slice ao n cap ∧ ∃ l, IsSlice (HW W) R size (.slice ao n cap) l ∧ bigs big l ≤ B.one d ∧ ∀ x ∈ l, I x := by
  obtain ⟨a, n, cap, rfl⟩ := okWide_slice ht hval
  obtain ⟨fuel, hf⟩ := hd
  obtain ⟨ao, n', cap', e1, l, h1, h2, h3⟩ := reads_slice (B := B) ht hc hpos he fuel _ d ps hf
  have e2 : Value.slice a n cap = .slice ao n' cap' := by simpa [Value.cells] using e1
  exact ⟨a, n, cap, rfl, l, by rw [e2]; exact h1, h2, h3⟩
theorem arg_struct {α : Type} {fs : Array Field} {R : Rep α} {size : Nat} {big : α → Nat} {I : α → Prop} (ht : P.underlying t = some (.struct fs)) (he : Reads enc P W B t R size big I)
    (hval : Value.okWide P W r b0 t v) (hd : DataW.Trod enc P W 0 (fun _ => true) true t v d ps) :
    ∃ cs : Array Value, v = .agg cs ∧ ∃ x, R (HW W) cs.toList x ∧ big x ≤ B.one d ∧ I x := by
  obtain ⟨cs, rfl, _⟩ := okWide_struct ht hval
  obtain ⟨fuel, hf⟩ := hd
  obtain ⟨x, h1, h2, h3, h4⟩ := he fuel _ d ps hf
  exact ⟨cs, rfl, x, by simpa [Value.cells] using h1, h3, h4⟩
/-- the arguments read the same where nothing below has turned -/
theorem trodAll_below (hl : laidOutB P = true) {W' : World} {sp : Nat → Bool} (hb : Below W.heap.size W W') : ∀ {ts : List TypeId} {vs : List Value} {ds : List (DataW H)} {ps : List MemPlace},
    ts.all (fun t => P.readableRec t && decide (t < P.types.size)) = true → DataW.TrodAll enc P W 0 (fun _ => true) true ts vs ds ps → (∀ p ∈ ps, p.block < W.heap.size) → (∀ p ∈ ps, sp p.block = true) →
    DataW.TrodAll enc P W' 0 sp true ts vs ds ps
  | [], _, _, _, _, h, _, _ => by
    obtain ⟨rfl, rfl, rfl⟩ := trodAll_nil h
    exact trodAll_mk0
  | t :: ts, _, _, _, hr, h, hlt, hs => by
    obtain ⟨v, vs, d, ds, p, q, rfl, rfl, rfl, h1, h2⟩ := trodAll_cons h
    simp only [List.all_cons, Bool.and_eq_true, decide_eq_true_eq] at hr
    refine trodAll_cons_mk (WideElems.Trod_stays hl hr.1.1 hr.1.2 h1 (fun x hx => hb.same (hlt x (by simp [hx]))) (fun x hx => hs x (by simp [hx]))) ?_
    exact trodAll_below hl hb (by simpa using hr.2) h2 (fun x hx => hlt x (by simp [hx])) (fun x hx => hs x (by simp [hx]))

/-- FROM THE WALK TO THE CONTRACT of a law that is true -/
theorem lift_true {fid : FuncId} {fn : Func} {s : ChangeSpec} {args : Array Value} {ds gs : List (DataW H)} {before : List MemPlace} {tb : TypeId} {R : Value → List Own → Heaplet → Prop} (hl : laidOutB P = true)
    (hrec : fn.params.toList.all (fun t => P.readableRec t && decide (t < P.types.size)) = true) (hres : fn.resultTypes = #[tb]) (htb : P.underlying tb = some .bool) (hv : s.vars = [])
    (hW : DataW.Whole enc P fn.params.toList s.vars false W args.toList ds gs before) (hs : s.fn H (ds ++ gs) = { results := [.lit (.bool true)], args := ds })
    (hd : Does P fid args [] (HW W) R) (hR : ∀ u K H', R u K H' → u = .bool true) :
    Calls P fid args W fun e W' => ∃ v, e = .returned v ∧ s.post enc P fn false true false false W args v W' := by
  have h1 := callsIn_wide.1 (hd W (agrees_HW W) ⟨by simp, by simp [ids], by simp⟩)
  refine h1.mono fun e W' ⟨v, K', H', he, hr, hm⟩ => ?_
  obtain rfl := hR _ _ _ hr
  refine ⟨_, he, ?_⟩
  have hb : Below W.heap.size W W' := (show Kept [] W W' from hm.kept).below
  have hlt := hW.lt
  have hW' := hW
  obtain ⟨p, q, hA, hV, rfl, hfz, hnd⟩ := hW'
  rw [hv] at hV
  obtain ⟨rfl, rfl⟩ := trodVars_none hV
  refine ⟨ds, [], _, [], p, [], hW, ?_, ?_, ?_, hb.frame _, fun h => by cases h⟩
  · rw [hs, hres]
    exact trodAll_cons_mk (shut_bool htb _) trodAll_mk0
  · rw [hs]
    exact trodAll_below hl hb hrec hA (fun x hx => hlt x (by simpa using hx)) (fun x hx => by simpa using hlt x (by simpa using hx))
  · rw [hs, hv]; exact rfl
end
end Go.Ow

/-
  Arrays of a few elements, as plain structures.
-/
namespace Go.Ow
set_option linter.unusedVariables false
set_option linter.unusedSimpArgs false
variable {α β : Type}
structure A2 (α : Type) where
  e0 : α
  e1 : α
instance [Inhabited α] : Inhabited (A2 α) := ⟨⟨default, default⟩⟩
def A2.l (x : A2 α) : List α := [x.e0, x.e1]
theorem A2.len (x : A2 α) : x.l.length = 2 := rfl
def A2.of (d : α) (l : List α) : A2 α := ⟨l.getD 0 d, l.getD 1 d⟩
theorem A2.of_l (d : α) : ∀ (l : List α), l.length = 2 → (A2.of d l).l = l
  | [e0, e1], _ => rfl
def A2.setI (x : A2 α) (i : Int) (y : α) (k : A2 α → Option β) : Option β := if 0 ≤ i ∧ i.toNat < 2 then k (A2.of y (x.l.set i.toNat y)) else none
theorem A2.setI_some {x : A2 α} {i : Int} {y : α} {k : A2 α → Option β} {r : β} (h : A2.setI x i y k = some r) : ∃ m, m.l = x.l.set i.toNat y ∧ (0 ≤ i ∧ i.toNat < 2) ∧ k m = some r := by
  unfold A2.setI at h
  split at h
  · exact ⟨_, A2.of_l y _ (by rw [List.length_set]; rfl), by assumption, h⟩
  · cases h
structure A3 (α : Type) where
  e0 : α
  e1 : α
  e2 : α
instance [Inhabited α] : Inhabited (A3 α) := ⟨⟨default, default, default⟩⟩
def A3.l (x : A3 α) : List α := [x.e0, x.e1, x.e2]
theorem A3.len (x : A3 α) : x.l.length = 3 := rfl
def A3.of (d : α) (l : List α) : A3 α := ⟨l.getD 0 d, l.getD 1 d, l.getD 2 d⟩
theorem A3.of_l (d : α) : ∀ (l : List α), l.length = 3 → (A3.of d l).l = l
  | [e0, e1, e2], _ => rfl
def A3.setI (x : A3 α) (i : Int) (y : α) (k : A3 α → Option β) : Option β := if 0 ≤ i ∧ i.toNat < 3 then k (A3.of y (x.l.set i.toNat y)) else none
theorem A3.setI_some {x : A3 α} {i : Int} {y : α} {k : A3 α → Option β} {r : β} (h : A3.setI x i y k = some r) : ∃ m, m.l = x.l.set i.toNat y ∧ (0 ≤ i ∧ i.toNat < 3) ∧ k m = some r := by
  unfold A3.setI at h
  split at h
  · exact ⟨_, A3.of_l y _ (by rw [List.length_set]; rfl), by assumption, h⟩
  · cases h
structure A4 (α : Type) where
  e0 : α
  e1 : α
  e2 : α
  e3 : α
instance [Inhabited α] : Inhabited (A4 α) := ⟨⟨default, default, default, default⟩⟩
def A4.l (x : A4 α) : List α := [x.e0, x.e1, x.e2, x.e3]
theorem A4.len (x : A4 α) : x.l.length = 4 := rfl
def A4.of (d : α) (l : List α) : A4 α := ⟨l.getD 0 d, l.getD 1 d, l.getD 2 d, l.getD 3 d⟩
theorem A4.of_l (d : α) : ∀ (l : List α), l.length = 4 → (A4.of d l).l = l
  | [e0, e1, e2, e3], _ => rfl
def A4.setI (x : A4 α) (i : Int) (y : α) (k : A4 α → Option β) : Option β := if 0 ≤ i ∧ i.toNat < 4 then k (A4.of y (x.l.set i.toNat y)) else none
theorem A4.setI_some {x : A4 α} {i : Int} {y : α} {k : A4 α → Option β} {r : β} (h : A4.setI x i y k = some r) : ∃ m, m.l = x.l.set i.toNat y ∧ (0 ≤ i ∧ i.toNat < 4) ∧ k m = some r := by
  unfold A4.setI at h
  split at h
  · exact ⟨_, A4.of_l y _ (by rw [List.length_set]; rfl), by assumption, h⟩
  · cases h
structure A5 (α : Type) where
  e0 : α
  e1 : α
  e2 : α
  e3 : α
  e4 : α
instance [Inhabited α] : Inhabited (A5 α) := ⟨⟨default, default, default, default, default⟩⟩
def A5.l (x : A5 α) : List α := [x.e0, x.e1, x.e2, x.e3, x.e4]
theorem A5.len (x : A5 α) : x.l.length = 5 := rfl
def A5.of (d : α) (l : List α) : A5 α := ⟨l.getD 0 d, l.getD 1 d, l.getD 2 d, l.getD 3 d, l.getD 4 d⟩
theorem A5.of_l (d : α) : ∀ (l : List α), l.length = 5 → (A5.of d l).l = l
  | [e0, e1, e2, e3, e4], _ => rfl
def A5.setI (x : A5 α) (i : Int) (y : α) (k : A5 α → Option β) : Option β := if 0 ≤ i ∧ i.toNat < 5 then k (A5.of y (x.l.set i.toNat y)) else none
theorem A5.setI_some {x : A5 α} {i : Int} {y : α} {k : A5 α → Option β} {r : β} (h : A5.setI x i y k = some r) : ∃ m, m.l = x.l.set i.toNat y ∧ (0 ≤ i ∧ i.toNat < 5) ∧ k m = some r := by
  unfold A5.setI at h
  split at h
  · exact ⟨_, A5.of_l y _ (by rw [List.length_set]; rfl), by assumption, h⟩
  · cases h
structure A7 (α : Type) where
  e0 : α
  e1 : α
  e2 : α
  e3 : α
  e4 : α
  e5 : α
  e6 : α
instance [Inhabited α] : Inhabited (A7 α) := ⟨⟨default, default, default, default, default, default, default⟩⟩
def A7.l (x : A7 α) : List α := [x.e0, x.e1, x.e2, x.e3, x.e4, x.e5, x.e6]
theorem A7.len (x : A7 α) : x.l.length = 7 := rfl
def A7.of (d : α) (l : List α) : A7 α := ⟨l.getD 0 d, l.getD 1 d, l.getD 2 d, l.getD 3 d, l.getD 4 d, l.getD 5 d, l.getD 6 d⟩
theorem A7.of_l (d : α) : ∀ (l : List α), l.length = 7 → (A7.of d l).l = l
  | [e0, e1, e2, e3, e4, e5, e6], _ => rfl
def A7.setI (x : A7 α) (i : Int) (y : α) (k : A7 α → Option β) : Option β := if 0 ≤ i ∧ i.toNat < 7 then k (A7.of y (x.l.set i.toNat y)) else none
theorem A7.setI_some {x : A7 α} {i : Int} {y : α} {k : A7 α → Option β} {r : β} (h : A7.setI x i y k = some r) : ∃ m, m.l = x.l.set i.toNat y ∧ (0 ≤ i ∧ i.toNat < 7) ∧ k m = some r := by
  unfold A7.setI at h
  split at h
  · exact ⟨_, A7.of_l y _ (by rw [List.length_set]; rfl), by assumption, h⟩
  · cases h

structure A12 (α : Type) where
  e0 : α
  e1 : α
  e2 : α
  e3 : α
  e4 : α
  e5 : α
  e6 : α
  e7 : α
  e8 : α
  e9 : α
  e10 : α
  e11 : α
instance [Inhabited α] : Inhabited (A12 α) := ⟨⟨default, default, default, default, default, default, default, default, default, default, default, default⟩⟩
def A12.l (x : A12 α) : List α := [x.e0, x.e1, x.e2, x.e3, x.e4, x.e5, x.e6, x.e7, x.e8, x.e9, x.e10, x.e11]
theorem A12.len (x : A12 α) : x.l.length = 12 := rfl
def A12.of (d : α) (l : List α) : A12 α := ⟨l.getD 0 d, l.getD 1 d, l.getD 2 d, l.getD 3 d, l.getD 4 d, l.getD 5 d, l.getD 6 d, l.getD 7 d, l.getD 8 d, l.getD 9 d, l.getD 10 d, l.getD 11 d⟩
theorem A12.of_l (d : α) : ∀ (l : List α), l.length = 12 → (A12.of d l).l = l
  | [e0, e1, e2, e3, e4, e5, e6, e7, e8, e9, e10, e11], _ => rfl
/-- the first 12 of a list -/
def A12.first (d : α) (l : List α) (k : A12 α → Option β) : Option β := if 12 ≤ l.length then k (A12.of d (l.take 12)) else none
structure A16 (α : Type) where
  e0 : α
  e1 : α
  e2 : α
  e3 : α
  e4 : α
  e5 : α
  e6 : α
  e7 : α
  e8 : α
  e9 : α
  e10 : α
  e11 : α
  e12 : α
  e13 : α
  e14 : α
  e15 : α
instance [Inhabited α] : Inhabited (A16 α) := ⟨⟨default, default, default, default, default, default, default, default, default, default, default, default, default, default, default, default⟩⟩
def A16.l (x : A16 α) : List α := [x.e0, x.e1, x.e2, x.e3, x.e4, x.e5, x.e6, x.e7, x.e8, x.e9, x.e10, x.e11, x.e12, x.e13, x.e14, x.e15]
theorem A16.len (x : A16 α) : x.l.length = 16 := rfl
def A16.of (d : α) (l : List α) : A16 α := ⟨l.getD 0 d, l.getD 1 d, l.getD 2 d, l.getD 3 d, l.getD 4 d, l.getD 5 d, l.getD 6 d, l.getD 7 d, l.getD 8 d, l.getD 9 d, l.getD 10 d, l.getD 11 d, l.getD 12 d, l.getD 13 d, l.getD 14 d, l.getD 15 d⟩
theorem A16.of_l (d : α) : ∀ (l : List α), l.length = 16 → (A16.of d l).l = l
  | [e0, e1, e2, e3, e4, e5, e6, e7, e8, e9, e10, e11, e12, e13, e14, e15], _ => rfl
/-- the first 16 of a list -/
def A16.first (d : α) (l : List α) (k : A16 α → Option β) : Option β := if 16 ≤ l.length then k (A16.of d (l.take 16)) else none
/-! ### A list in pieces -/
def chunks (n : Nat) : Nat → List α → List (List α)
  | 0, _ => []
  | f + 1, r => match r with
    | [] => []
    | y :: r' => (y :: r').take n :: chunks n f ((y :: r').drop n)
theorem chunks_nil (n f : Nat) : chunks n f ([] : List α) = [] := by cases f <;> rfl
theorem chunks_step {n f : Nat} {r : List α} (h : r ≠ []) : chunks n (f + 1) r = r.take n :: chunks n f (r.drop n) := by
  cases r with
  | nil => exact absurd rfl h
  | cons y r' => rfl
/-! ### What was never touched -/
structure WriteO where
  At : Int
  Data : Option (List UInt8)
instance : Inhabited WriteO := ⟨⟨default, default⟩⟩
def WriteO.w (y : WriteO) : Write := ⟨y.At, y.Data.getD []⟩
/-! ### copy -/
end Go.Ow

/- What is said here: maps from numbers, in plain words: written, laid into a row. -/
namespace Go.Ow
set_option linter.unusedVariables false
set_option linter.unusedSimpArgs false

def putM {α : Type} : List (Int × α) → Int → α → List (Int × α)
  | [], k, y => [(k, y)]
  | p :: r, k, y => if p.1 = k then (k, y) :: r else p :: putM r k y

end Go.Ow

/-
  What is proved here: arrays of a few elements, as structures; slices with three bounds; append to a slice that is full; over OwV.
-/
namespace Go.Ow
open Go.RowKit
set_option linter.unusedVariables false
set_option linter.unusedSimpArgs false

variable {x : Cx} {ops : Array Oper} {Q : Exit → Act → World → Prop} {rest : List Oper} {l : Slots} {own : List Own} {H HF : Heaplet}
variable {ty : TypeId} {d : Nat} {pos : String} {aft : Array Edge} {v : Value} {p q : Operand} {t u : TypeId}

/-! ### Arrays -/
/-! ### Slices with three bounds -/
/-! ### The lesser and the greater of two -/
/-! ### Lending: what is owned may be looked at by a callee that answers a plain value -/
theorem Lent.row' {α : Type} {R : Rep α} {H0 H2 : Heaplet} {B : Nat} {K : Own} {E : TypeId} {size : Nat} {v : Value} {ls : List α} (i : Nat) (hl : Lent own H2) (hR : R.Mono) (hle : Hle H0 H2) (hi : own[i]? = some K) (hr : RowOf H0 R B E size v ls K) : IsSlice H2 R size v ls :=
  Lent.row hl hR hle hi hr
theorem JL.callL2 {c : Operand} {as : Array Operand} {ts : Array TypeId} {f : FuncId} {vs : List Value} {v : Value}
    (he : Enters x.P f) (hc : evo l c = some (.func (.func f) #[] #[])) (ha : as.toList.mapM (evo l) = some vs)
    (C : ∀ H2, Hle H H2 → Lent own H2 → Does x.P f vs.toArray [] H2 (fun u K H' => u = v)) (hd : Nat.blt d x.n = true) (h : JL x ops Q rest ((d, v) :: l) own H) :
    JL x ops Q (⟨some d, .call ⟨.value c, as, ts⟩, ty, pos, aft, none⟩ :: rest) l own H := fun a w hh => by
  simp only [wpLs, wanted_none, if_true]
  refine ⟨fun _ _ => trivial, ?_⟩
  have hrun : (execOp a.eval ⟨some d, .call ⟨.value c, as, ts⟩, ty, pos, aft, none⟩).run x.P w = .ok (.enter f vs.toArray) w := by
    have e1 := eval_of hh hc
    have e2 := mapM_eval (fun o u e => eval_of hh e) ha
    simp only [execOp, resolve, e1, e2, Deferred.ofValue, Sem.run_bind, Sem.run_pure, Result.andThen, invoke]
    simpa using he _ _
  rw [semAt_of rfl, hrun]
  have hle := lend_le hh.mem.ok
  show (_ → _) ∧ CallsIn _ _ _ _ _ _ _
  refine ⟨fun e => by simp [Fw] at e, ?_⟩
  refine CallsIn.mono (show CallsIn (Fw x.r) (0 - 1) x.P f _ w _ from C _ hle (lend_lent hh.mem.ok) w (lend_agrees hh.mem.agr hh.mem.ok) ⟨fun p hp => by simp at hp, by simp [ids], fun p hp => by simp at hp⟩) ?_
  rintro e w' ⟨v', K', H', rfl, rfl, hm⟩
  have hm' : Mem w H (ids []) [] H w' := ⟨hm.agr.le (hle.trans hm.le), ⟨fun p hp => by simp at hp, by simp [ids], fun p hp => by simp at hp⟩, hm.kept, fun p hp => by simp at hp, Hle.refl _, fun _ _ _ => rfl, Mem.soft0⟩
  refine h _ _ (Holds.put (x := x) (l := l) ⟨hh.size, hh.ds, hh.slots, ?_⟩ hd _)
  simpa using hh.mem.go (K := []) (rst := own.flatten) (by simp) hm'

/-! ### Append to a slice that is full -/
/-! ### Append of zeros to an own row -/
/-! ### Building a structure out of parts, some of them structures -/
def putP (l : List Value) (o : Nat) (cs : List Value) : List Value := l.take o ++ cs ++ l.drop (o + cs.length)
def setP (places : List (Nat × Nat)) : List Value → List (Nat × Value) → List Value
  | l, [] => l
  | l, (i, v) :: r => setP places (match places[i]? with | some p => putP l p.1 v.cells.toList | none => l) r
def fitsP (places : List (Nat × Nat)) (n : Nat) (p : Nat × Value) : Bool := match places[p.1]? with | some q => Nat.beq q.2 p.2.cells.toList.length && Nat.ble (q.1 + p.2.cells.toList.length) n | none => false
theorem fold_put (off : Nat) : ∀ (cs : List Value) (k : Nat) (a : Array Value), off + k + cs.length ≤ a.size →
    (cs.zipIdx k).foldl (fun a p => a.setIfInBounds (off + p.2) p.1) a = (putP a.toList (off + k) cs).toArray
  | [], k, a, _ => by simp [putP]
  | c :: cs, k, a, h => by
    simp only [List.length_cons] at h
    rw [List.zipIdx_cons, List.foldl_cons, fold_put off cs (k + 1) _ (by simp; omega)]
    apply Array.toList_inj.1
    have hlt : off + k < a.toList.length := by simp; omega
    simp only [putP, Array.toList_setIfInBounds, List.toList_toArray, List.length_cons]
    rw [List.set_eq_take_append_cons_drop, if_pos hlt]
    have hl : (a.toList.take (off + k)).length = off + k := by rw [List.length_take]; omega
    rw [show off + (k + 1) = (off + k) + 1 by omega]
    have e1 : (a.toList.take (off + k) ++ c :: a.toList.drop (off + k + 1)).take (off + k + 1) = a.toList.take (off + k) ++ [c] := by
      rw [List.take_append, hl, List.take_of_length_le (by omega)]; simp
    have e2 : (a.toList.take (off + k) ++ c :: a.toList.drop (off + k + 1)).drop (off + k + 1 + cs.length) = a.toList.drop (off + k + (cs.length + 1)) := by
      rw [List.drop_append, hl, List.drop_eq_nil_of_le (by omega), List.nil_append, show off + k + 1 + cs.length - (off + k) = cs.length + 1 by omega, List.drop_succ_cons, List.drop_drop]; congr 1; omega
    rw [e1, e2]; simp
theorem putP_length {l : List Value} {o : Nat} {cs : List Value} (h : o + cs.length ≤ l.length) : (putP l o cs).length = l.length := by
  simp only [putP, List.length_append, List.length_take, List.length_drop]; omega
theorem fill_putP (places : List (Nat × Nat)) : ∀ (vs : List (Nat × Value)) (cells : Array Value), vs.all (fitsP places cells.size) = true → Instr.fill (places.toArray[·]?) cells vs = some (setP places cells.toList vs).toArray
  | [], cells, _ => by simp [Instr.fill, setP]
  | (i, v) :: r, cells, h => by
    simp only [List.all_cons, Bool.and_eq_true, fitsP] at h
    obtain ⟨h1, h3⟩ := h
    cases hp : places[i]? with
    | none => rw [hp] at h1; cases h1
    | some q =>
      obtain ⟨off, size⟩ := q
      rw [hp] at h1
      simp only [Bool.and_eq_true] at h1
      have e1 : size = v.cells.toList.length := Nat.eq_of_beq_eq_true h1.1
      have e2 : off + v.cells.toList.length ≤ cells.size := Nat.le_of_ble_eq_true h1.2
      have e3 : ¬ (v.cells.size ≠ size ∨ off + v.cells.size > cells.size) := by simp only [Array.length_toList] at e1 e2; omega
      have e4 : v.cells.zipIdx.foldl (fun cs (x : Value × Nat) => cs.setIfInBounds (off + x.2) x.1) cells = (putP cells.toList off v.cells.toList).toArray := by
        rw [← Array.foldl_toList, Array.toList_zipIdx]
        exact fold_put off v.cells.toList 0 cells (by simpa using e2)
      have hsz : (putP cells.toList off v.cells.toList).toArray.size = cells.size := by
        rw [List.size_toArray, putP_length (by simpa using e2)]; simp
      have ih := fill_putP places r (putP cells.toList off v.cells.toList).toArray (by rw [hsz]; exact h3)
      have hp' : places.toArray[i]? = some (off, size) := by simpa using hp
      simp only [Instr.fill, hp', setP, hp]
      simp only [decide_eq_true_eq, Bool.or_eq_true, ne_eq, gt_iff_lt] at e3 ⊢
      rw [if_neg (by simpa using e3)]
      rw [show (v.cells.zipIdx.foldl (fun cs x => match x with | (c, j) => cs.setIfInBounds (off + j) c) cells) = (putP cells.toList off v.cells.toList).toArray from e4]
      exact ih
theorem R.bldP {T : TypeId} {parts : Array (Nat × Operand)} {vs : List (Nat × Value)} {z : Value} {places : List (Nat × Nat)} {cs : List Value} (hz : zeroOf x.P T = some z) (hp : placesOf x.P T = some places)
    (hv : parts.toList.mapM (fun p => (evo l p.2).map (fun u => (p.1, u))) = some vs) (hf : vs.all (fitsP places z.cells.toList.length) = true) (hc : setP places z.cells.toList vs = cs) : Runs x (.build T parts) ty l own H (.agg cs.toArray) := by
  subst hc
  exact R.bld hz hp hv (fill_putP places vs z.cells (by simpa using hf))

/-! ### Slices of which it is known whether they were never touched -/
def OSl {α : Type} (H : Heaplet) (R : Rep α) (size : Nat) (v : Value) : Option (List α) → Prop
  | none => v = .slice none 0 0
  | some m => IsSlice H R size v m
def ROSl {α : Type} (R : Rep α) (size : Nat) : Rep (Option (List α)) := fun H cs y => ∃ v, cs = [v] ∧ OSl H R size v y
theorem OSl.mono {α : Type} {R : Rep α} (hR : R.Mono) {size : Nat} {v : Value} {y : Option (List α)} {H' : Heaplet} (h : OSl H R size v y) (hle : Hle H H') : OSl H' R size v y := by
  cases y with
  | none => exact h
  | some m => exact IsSlice.mono hR hle h
theorem ROSl.mono {α : Type} {R : Rep α} {size : Nat} (hR : R.Mono) : (ROSl R size).Mono := fun _ _ _ _ hle ⟨v, e, h⟩ => ⟨v, e, h.mono hR hle⟩
theorem OSl.one1 {α : Type} {R : Rep α} {size : Nat} {v : Value} {y : Option (List α)} (h : OSl H R size v y) : v.oneCell' = true := by
  cases y with
  | none => rw [show v = _ from h]; rfl
  | some m => exact IsSlice.one1 h
theorem ROSl.one {α : Type} {R : Rep α} {size : Nat} : (ROSl R size).One := fun _ _ _ ⟨v, e, h⟩ => by subst e; intro u hu; simp at hu; subst hu; exact h.one1
theorem OSl.none {α : Type} {R : Rep α} {size : Nat} {v : Value} {y : Option (List α)} (hn : y = .none) (h : OSl H R size v y) : v = .slice .none 0 0 := by subst hn; exact h
def R_WriteO : Rep WriteO := fun H cs y => ∃ v1 : Value, cs = [.int .i64 y.At, v1] ∧ OSl H RU8 1 v1 y.Data
theorem R_WriteO.mono : R_WriteO.Mono := fun _ _ _ _ hle ⟨v, e, h⟩ => ⟨v, e, h.mono RU8.mono hle⟩
theorem R_WriteO.one : R_WriteO.One := fun _ _ _ ⟨v, e, h⟩ => by
  subst e; intro u hu; simp only [List.mem_cons, List.not_mem_nil, or_false] at hu
  rcases hu with rfl | rfl <;> first | rfl | exact h.one1
/-- the same, where new rows come back -/
theorem JL.callL3 {c : Operand} {as : Array Operand} {ts : Array TypeId} {f : FuncId} {vs : List Value} {R : Heaplet → Value → List Own → Heaplet → Prop}
    (he : Enters x.P f) (hc : evo l c = some (.func (.func f) #[] #[])) (ha : as.toList.mapM (evo l) = some vs)
    (C : ∀ H2, Hle H H2 → Lent own H2 → Does x.P f vs.toArray [] H2 (R H2)) (hd : Nat.blt d x.n = true)
    (h : ∀ H2 v K' H', R H2 v K' H' → (∀ p ∈ K'.flatten, x.w0.heap.size ≤ p.1) → JL x ops Q rest ((d, v) :: l) (K' ++ own) H) :
    JL x ops Q (⟨some d, .call ⟨.value c, as, ts⟩, ty, pos, aft, none⟩ :: rest) l own H := fun a w hh => by
  simp only [wpLs, wanted_none, if_true]
  refine ⟨fun _ _ => trivial, ?_⟩
  have hrun : (execOp a.eval ⟨some d, .call ⟨.value c, as, ts⟩, ty, pos, aft, none⟩).run x.P w = .ok (.enter f vs.toArray) w := by
    have e1 := eval_of hh hc
    have e2 := mapM_eval (fun o u e => eval_of hh e) ha
    simp only [execOp, resolve, e1, e2, Deferred.ofValue, Sem.run_bind, Sem.run_pure, Result.andThen, invoke]
    simpa using he _ _
  rw [semAt_of rfl, hrun]
  have hle := lend_le hh.mem.ok
  show (_ → _) ∧ CallsIn _ _ _ _ _ _ _
  refine ⟨fun e => by simp [Fw] at e, ?_⟩
  refine CallsIn.mono (show CallsIn (Fw x.r) (0 - 1) x.P f _ w _ from C _ hle (lend_lent hh.mem.ok) w (lend_agrees hh.mem.agr hh.mem.ok) ⟨fun p hp => by simp at hp, by simp [ids], fun p hp => by simp at hp⟩) ?_
  rintro e w' ⟨v', K', H', rfl, hR, hm⟩
  have hle2 := hle.trans hm.le
  have hm' : Mem w H (ids []) K'.flatten H w' := ⟨hm.agr.le hle2, ⟨hm.ok.here, hm.ok.nodup, fun p hp o => by
    cases e : H p.1 o with
    | none => rfl
    | some u => have := hle2 _ _ _ e; rw [hm.ok.apart p hp o] at this; cases this⟩, hm.kept, hm.fresh, Hle.refl _, fun _ _ _ => rfl, Mem.soft0⟩
  refine h _ _ _ _ hR (fun p hp => Nat.le_trans hh.mem.kept.size ((hm.fresh p hp).resolve_left (by simp [ids]))) _ _ (Holds.put (x := x) (l := l) ⟨hh.size, hh.ds, hh.slots, ?_⟩ hd _)
  rw [List.flatten_append]
  exact hh.mem.go (K := []) (rst := own.flatten) (by simp) hm'
end Go.Ow

/-
  What is proved here: pieces of one block of bytes, named by the rows of a table (a slice of slices that a function has cut out of one piece of memory); over OwX.
-/
namespace Go.Ow
open Go.RowKit
set_option linter.unusedVariables false
set_option linter.unusedSimpArgs false

variable {x : Cx} {ops : Array Oper} {Q : Exit → Act → World → Prop} {rest : List Oper} {l : Slots} {own : List Own} {H HF : Heaplet}
variable {ty : TypeId} {d : Nat} {pos : String} {aft : Array Edge} {v : Value} {p q : Operand} {t u : TypeId}

/-- one row of the table: from where on, how long -/
def RPc (hb : Nat) : Rep (Nat × Nat) := fun _ cs y => ∃ s, cs = [.slice (some ⟨hb, s, none⟩) y.2 y.2] ∧ (y.2 = 0 ∨ s = y.1)
theorem RPc.const (hb : Nat) : (RPc hb).Const := fun _ _ _ _ h => h
theorem RPc.mono (hb : Nat) : (RPc hb).Mono := fun _ _ _ _ _ h => h
theorem RPc.one (hb : Nat) : (RPc hb).One := fun _ _ _ ⟨s, e, _⟩ => by subst e; intro u hu; simp at hu; subst hu; rfl
/-- the places of pieces that lie one behind the other -/
def offs : Nat → List Nat → List (Nat × Nat)
  | _, [] => []
  | s, n :: r => (s, n) :: offs (s + n) r
theorem offs_length : ∀ (s : Nat) (ns : List Nat), (offs s ns).length = ns.length
  | _, [] => rfl
  | s, n :: r => by simp [offs, offs_length (s + n) r]
def lens (bs : List (List UInt8)) : List Nat := bs.map List.length
theorem offs_at : ∀ (bs : List (List UInt8)) (s i : Nat) (b : List UInt8), bs[i]? = some b → (offs s (lens bs))[i]? = some (s + (bs.take i).flatten.length, b.length)
  | [], s, i, b, h => by simp at h
  | c :: r, s, 0, b, h => by simp at h; subst h; simp [lens, offs]
  | c :: r, s, i + 1, b, h => by
    have := offs_at r (s + c.length) i b (by simpa using h)
    simp only [lens, List.map_cons, offs, List.getElem?_cons_succ, List.take_succ_cons, List.flatten_cons, List.length_append] at this ⊢
    rw [this, Nat.add_assoc]
theorem flat_at : ∀ (bs : List (List UInt8)) (i : Nat) (b : List UInt8), bs[i]? = some b → bs.flatten = (bs.take i).flatten ++ b ++ (bs.drop (i + 1)).flatten
  | [], i, b, h => by simp at h
  | c :: r, 0, b, h => by simp at h; subst h; simp
  | c :: r, i + 1, b, h => by
    have := flat_at r i b (by simpa using h)
    simp [this]
theorem set_split : ∀ (bs : List (List UInt8)) (i : Nat) (b c : List UInt8), bs[i]? = some b → bs.set i c = bs.take i ++ c :: bs.drop (i + 1)
  | [], i, b, c, h => by simp at h
  | a :: r, 0, b, c, h => by simp
  | a :: r, i + 1, b, c, h => by simp [set_split r i b c (by simpa using h)]
theorem lens_set {bs : List (List UInt8)} {i : Nat} {b c : List UInt8} (h : bs[i]? = some b) (hl : c.length = b.length) : lens (bs.set i c) = lens bs := by
  unfold lens
  rw [List.map_set]
  apply List.ext_getElem?
  intro j
  rw [List.getElem?_set]
  split
  · rename_i hj
    subst hj
    split
    · simp [h, hl]
    · rename_i hlt; have := (List.getElem?_eq_some_iff.1 h).1; simp at hlt; omega
  · rfl

/-- a slice of slices of bytes, all of it owned: the table, and behind it the block that its rows are cut out of -/
def Pcs (B E8 Eb : Nat) (v : Value) (bs : List (List UInt8)) (K : Own) : Prop :=
  ∃ hb Kt, K = Kt ++ [(hb, .cells (bvs bs.flatten).toArray E8 (0, 0))] ∧ B ≤ hb ∧ bs.flatten.length ≤ maxLen ∧ RowOf (fun _ _ => none) (RPc hb) B Eb 1 v (offs 0 (lens bs)) Kt
theorem bvs_length (l : List UInt8) : (bvs l).length = l.length := by simp [bvs]
theorem Pcs.val {B E8 Eb : Nat} {bs : List (List UInt8)} {K : Own} (h : Pcs B E8 Eb v bs K) : ∃ ao cap, v = .slice ao bs.length cap := by
  obtain ⟨hb, Kt, _, _, _, hr⟩ := h
  obtain ⟨ao, cap, e, _⟩ := hr.len
  exact ⟨ao, cap, by rw [e, offs_length]; simp [lens]⟩
theorem Pcs.long {B E8 Eb : Nat} {bs : List (List UInt8)} {K : Own} (h : Pcs B E8 Eb v bs K) : Long v bs.length := by
  obtain ⟨ao, cap, e⟩ := h.val; exact ⟨ao, cap, e⟩
theorem Pcs.lenI {B E8 Eb : Nat} {bs : List (List UInt8)} {K : Own} (h : Pcs B E8 Eb v bs K) : (bs.length : Int) ≤ 9223372036854775807 := by
  obtain ⟨hb, Kt, _, _, _, hr⟩ := h
  have := hr.lenI; rw [offs_length] at this; simpa [lens] using this
theorem Pcs.weak {B B' E8 Eb : Nat} (hB : B' ≤ B) {bs : List (List UInt8)} {K : Own} (h : Pcs B E8 Eb v bs K) : Pcs B' E8 Eb v bs K := by
  obtain ⟨hb, Kt, e, h1, h2, hr⟩ := h
  exact ⟨hb, Kt, e, Nat.le_trans hB h1, h2, Zk hB hr⟩
theorem Pcs.base {B B' E8 Eb : Nat} {bs : List (List UInt8)} {K : Own} (h : Pcs B E8 Eb v bs K) (hB : ∀ p ∈ K, B' ≤ p.1) : Pcs B' E8 Eb v bs K := by
  obtain ⟨hb, Kt, rfl, h1, h2, hr⟩ := h
  exact ⟨hb, Kt, rfl, hB (hb, .cells (bvs bs.flatten).toArray E8 (0, 0)) (by simp), h2, hr.base (fun p hp => hB p (by simp [hp]))⟩
theorem Pcs.ge {B E8 Eb : Nat} {bs : List (List UInt8)} {K : Own} (h : Pcs B E8 Eb v bs K) : ∀ p ∈ K, B ≤ p.1 := by
  obtain ⟨hb, Kt, rfl, h1, h2, hr⟩ := h
  intro p hp
  rcases List.mem_append.1 hp with hp | hp
  · exact hr.ge p hp
  · simp at hp; subst hp; exact h1
theorem Pcs.up {B N E8 Eb : Nat} {bs : List (List UInt8)} {K : Own} {S : List Nat} (h : Pcs B E8 Eb v bs K) (hf : ∀ p ∈ K, p.1 ∈ S ∨ N ≤ p.1) (hS : ∀ i ∈ S, N ≤ i) : Pcs N E8 Eb v bs K :=
  h.base (fun p hp => (hf p hp).elim (hS _) id)
/-! ### The segment in two -/
theorem JL.part {K1 K2 : Own} {i : Nat} (hi : own[i]? = some (K1 ++ K2)) (h : JL x ops Q rest l (K2 :: own.set i K1) H) : JL x ops Q rest l own H := fun a w hh =>
  h a w ⟨hh.size, hh.ds, hh.slots, hh.mem.perm (by
    simp only [List.flatten_cons]
    refine (flatten_perm hi).trans ?_
    refine List.Perm.trans ?_ ((flatten_set_perm (seg' := K1) hi).symm.append_left K2)
    rw [← List.append_assoc]
    exact (List.perm_append_comm).append_right _)⟩
theorem JN.part {K : Act → World → Prop} {K1 K2 : Own} {i : Nat} (hi : own[i]? = some (K1 ++ K2)) (h : JN x K l (K2 :: own.set i K1) H) : JN x K l own H := fun a w hh =>
  h a w ⟨hh.size, hh.ds, hh.slots, hh.mem.perm (by
    simp only [List.flatten_cons]
    refine (flatten_perm hi).trans ?_
    refine List.Perm.trans ?_ ((flatten_set_perm (seg' := K1) hi).symm.append_left K2)
    rw [← List.append_assoc]
    exact (List.perm_append_comm).append_right _)⟩
/-! ### A row of the table, as a value -/
theorem Pcs.elem {B E8 Eb : Nat} {bs : List (List UInt8)} {K : Own} {b : List UInt8} {n : Int} (h : Pcs B E8 Eb v bs K) (hN : Nth bs n b) :
    ∃ g o cur K', K = [(g, .cells cur Eb (0, 0))] ++ K' ∧ ElemAt v 1 n g o ∧ ∃ hb s, cur.toList[o]? = some (.slice (some ⟨hb, s, none⟩) b.length b.length) ∧ (b.length = 0 ∨ s = (bs.take n.toNat).flatten.length) ∧
      K' = [(hb, .cells (bvs bs.flatten).toArray E8 (0, 0))] := by
  obtain ⟨hb, Kt, rfl, h1, h2, hr⟩ := h
  have hat := offs_at bs 0 n.toNat b hN.2
  obtain ⟨g, o, cs, cur, hK, hE, hR, hl, hc⟩ := hr.elem (i := n) ⟨hN.1, hat⟩
  obtain ⟨s, rfl, hs⟩ := hR
  subst hK
  refine ⟨g, o, cur, _, rfl, hE, hb, s, ?_, by simpa using hs, rfl⟩
  have := hc 0 _ rfl
  simpa using this

theorem R.ldM (i : Nat) {T n b o : Nat} {cur : Array Value} {tt : TypeId} {fr : Nat × Nat} {K : Own} (hs : shapeOf x.P T = some (false, n)) (h1 : evo l p = some (.pointer (some ⟨b, o, none⟩)))
    (hi : own[i]? = some K) (hm : (b, Obj.cells cur tt fr) ∈ K) (hc : cur.toList[o]? = some v) : Runs x (.load T p) ty l own H v :=
  fun ρ w _ _ _ _ hρ hst => by
    simp only [execOp, hρ _ _ h1]
    refine run_v (run_load1 hs ?_)
    rw [cell_of_row w b o cur tt fr (hst.2 (b, .cells cur tt fr) (List.mem_flatten.2 ⟨_, List.mem_of_getElem? hi, hm⟩))]
    simpa using hc
/-- the value of a row of the table -/
def PcAt (K : Own) (E8 : Nat) (bs : List (List UInt8)) (n : Int) (b : List UInt8) (pv : Value) : Prop :=
  ∃ hb s, pv = .slice (some ⟨hb, s, none⟩) b.length b.length ∧ (b.length = 0 ∨ s = (bs.take n.toNat).flatten.length) ∧ ∃ Kt, K = Kt ++ [(hb, Obj.cells (bvs bs.flatten).toArray E8 (0, 0))]
theorem Pcs.at {B E8 Eb : Nat} {bs : List (List UInt8)} {K : Own} {b : List UInt8} {n : Int} (h : Pcs B E8 Eb v bs K) (hN : Nth bs n b) :
    ∃ g o cur pv, ElemAt v 1 n g o ∧ (g, Obj.cells cur Eb (0, 0)) ∈ K ∧ cur.toList[o]? = some pv ∧ PcAt K E8 bs n b pv := by
  obtain ⟨g, o, cur, K', rfl, hE, hb, s, hc, hs, rfl⟩ := h.elem hN
  exact ⟨g, o, cur, _, hE, by simp, hc, hb, s, rfl, hs, _, rfl⟩
theorem PcAt.val {K : Own} {E8 : Nat} {bs : List (List UInt8)} {n : Int} {b : List UInt8} {pv : Value} (h : PcAt K E8 bs n b pv) : ∃ ao, pv = .slice ao b.length b.length := by
  obtain ⟨hb, s, e, _⟩ := h; exact ⟨_, e⟩
theorem bvs_append (a b : List UInt8) : bvs (a ++ b) = bvs a ++ bvs b := by simp [bvs]
theorem last_eq {Kt Ka : Own} {a b : Nat × Obj} (h : Kt ++ [a] = Ka ++ [b]) : Kt = Ka ∧ a = b := by
  have := List.append_inj' h rfl
  exact ⟨this.1, by simpa using this.2⟩
/-- the block behind one piece is written anew -/
theorem Pcs.turned {B E8 Eb : Nat} {bs : List (List UInt8)} {K : Own} {b c : List UInt8} {n : Int} {pv : Value} (h : Pcs B E8 Eb v bs K) (hN : Nth bs n b) (hA : PcAt K E8 bs n b pv) (hl : c.length = b.length) :
    ∃ Kt hb, K = Kt ++ [(hb, .cells (bvs bs.flatten).toArray E8 (0, 0))] ∧ Pcs B E8 Eb v (bs.set n.toNat c) (Kt ++ [(hb, .cells (bvs (bs.set n.toNat c).flatten).toArray E8 (0, 0))]) ∧
      (b.length = 0 ∨ pv = .slice (some ⟨hb, (bs.take n.toNat).flatten.length, none⟩) b.length b.length) ∧ ∃ s, pv = .slice (some ⟨hb, s, none⟩) b.length b.length := by
  obtain ⟨hb, Kt, rfl, h1, h2, hr⟩ := h
  obtain ⟨hb', s, rfl, hs, Ka, e⟩ := hA
  obtain ⟨rfl, e2⟩ := last_eq e
  simp only [Prod.mk.injEq] at e2
  obtain ⟨rfl, -⟩ := e2
  have hfl : (bs.set n.toNat c).flatten.length = bs.flatten.length := by
    rw [set_split bs n.toNat b c hN.2, flat_at bs n.toNat b hN.2]; simp; omega
  refine ⟨Kt, hb, rfl, ⟨hb, Kt, rfl, h1, by rw [hfl]; exact h2, by rw [lens_set hN.2 hl]; exact hr⟩, ?_, s, rfl⟩
  rcases hs with h0 | rfl
  · exact .inl h0
  · exact .inr rfl
/-! ### Bytes of a piece -/
theorem ElemAt.slc {g hb s o len cap : Nat} {k : Int} (h : ElemAt (.slice (some ⟨hb, s, none⟩) len cap) 1 k g o) : g = hb ∧ o = s + k.toNat ∧ k.toNat < len ∧ 0 ≤ k := by
  obtain ⟨h0, o0, len', cap', e, rfl, hlt⟩ := h
  simp only [Value.slice.injEq, Option.some.injEq, Addr.mk.injEq] at e
  obtain ⟨⟨rfl, rfl, -⟩, rfl, rfl⟩ := e
  exact ⟨rfl, by omega, hlt, h0⟩
theorem PcAt.elem {K : Own} {E8 : Nat} {bs : List (List UInt8)} {n k : Int} {b : List UInt8} {pv : Value} (h : PcAt K E8 bs n b pv) (hk : 0 ≤ k ∧ k.toNat < b.length) : ∃ g o, ElemAt pv 1 k g o := by
  obtain ⟨hb, s, rfl, _⟩ := h
  exact ⟨hb, _, hk.1, s, _, _, rfl, rfl, hk.2⟩
theorem PcAt.cell {K : Own} {E8 g o : Nat} {bs : List (List UInt8)} {n k : Int} {b : List UInt8} {y : UInt8} {pv : Value} (h : PcAt K E8 bs n b pv) (hN : Nth bs n b) (hy : Nth b k y) (hE : ElemAt pv 1 k g o) :
    (g, Obj.cells (bvs bs.flatten).toArray E8 (0, 0)) ∈ K ∧ (bvs bs.flatten).toArray.toList[o]? = some (.int .u8 (y.toNat : Int)) := by
  obtain ⟨hb, s, rfl, hs, Kt, rfl⟩ := h
  obtain ⟨rfl, rfl, hlt, h0⟩ := hE.slc
  refine ⟨by simp, ?_⟩
  have hs' : s = (bs.take n.toNat).flatten.length := by rcases hs with h | h <;> omega
  rw [List.toList_toArray, flat_at bs n.toNat b hN.2, bvs_append, bvs_append, List.append_assoc, List.getElem?_append_right (by rw [bvs_length]; omega), bvs_length, hs',
    show (bs.take n.toNat).flatten.length + k.toNat - (bs.take n.toNat).flatten.length = k.toNat by omega, List.getElem?_append_left (by rw [bvs_length]; exact hlt)]
  simp [bvs, hy.2]
/-! ### Publishing -/
theorem Flat.mapM {α β : Type} {R : Rep α} {R' : Rep β} {H1 H2 : Heaplet} (f : α → β) {size : Nat} : ∀ {l : List α} {cells : List Value}, (∀ y ∈ l, ∀ cs, R H1 cs y → R' H2 cs (f y)) → Flat H1 R size cells l → Flat H2 R' size cells (l.map f)
  | [], cells, _, h => h
  | y :: r, cells, hR, h => by
    obtain ⟨cs, more, rfl, h1, h2, h3⟩ := h
    exact ⟨cs, more, rfl, h1, hR y (by simp) _ h2, Flat.mapM f (fun z hz => hR z (by simp [hz])) h3⟩
/-! ### Memory that is made, to be cut -/
/-! ### copy into an own row -/
theorem Flat.td {α : Type} {R : Rep α} {HF : Heaplet} {size : Nat} : ∀ (k : Nat) {m : List α} {cells : List Value}, Flat HF R size cells m → Flat HF R size (cells.take (k * size)) (m.take k) ∧ Flat HF R size (cells.drop (k * size)) (m.drop k)
  | 0, m, cells, h => by simp only [Nat.zero_mul, List.take_zero, List.drop_zero]; exact ⟨rfl, h⟩
  | k + 1, [], cells, h => by
    simp only [Flat] at h; subst h; simp only [List.take_nil, List.drop_nil]; exact ⟨rfl, rfl⟩
  | k + 1, y :: r, cells, h => by
    obtain ⟨cs, more, rfl, h1, h2, h3⟩ := h
    have ih := Flat.td k h3
    have e1 : (cs ++ more).take ((k + 1) * size) = cs ++ more.take (k * size) := by
      rw [List.take_append, List.take_of_length_le (by rw [h1, Nat.add_mul]; omega), h1]; congr 2; rw [Nat.add_mul]; omega
    have e2 : (cs ++ more).drop ((k + 1) * size) = more.drop (k * size) := by
      rw [List.drop_append, List.drop_eq_nil_of_le (by rw [h1, Nat.add_mul]; omega), List.nil_append, h1]; congr 1; rw [Nat.add_mul]; omega
    rw [e1, e2]
    exact ⟨⟨cs, _, rfl, h1, h2, ih.1⟩, ih.2⟩
theorem RowOf.whole {α : Type} {R : Rep α} {B size : Nat} {E : TypeId} {v : Value} {ls : List α} {K : Own} (h : RowOf HF R B E size v ls K) : SubV size v v (0 : Int).toNat ((ls.length : Int).toNat - (0 : Int).toNat) := by
  obtain ⟨cells, ⟨h0, h1⟩, hf, ho⟩ := h
  rcases h1 with ⟨rfl, h3, rfl⟩ | ⟨g, cap, cur, rfl, rfl, e3, e4, e5, e6, e7⟩
  · refine ⟨⟨none, 0, ?_⟩, .inl ?_⟩ <;> simp [h3]
  · exact ⟨⟨some ⟨g, 0, none⟩, cap, by simp⟩, .inr ⟨g, 0, _, cap, cap, rfl, by simp, by simp⟩⟩
/-- where from -/
def CSrc {α : Type} (x : Cx) (H HF : Heaplet) (own : List Own) (R : Rep α) (size : Nat) (y : Value) (ns : List α) : Prop :=
  ∃ ao cap, y = .slice ao ns.length cap ∧ ∃ cells, Flat HF R size cells ns ∧ oneCells cells ∧ ∀ w, Mem x.w0 x.H0 x.S own.flatten H w → ∀ n, n ≤ ns.length → (Builtin.firstCells size n y).run x.P w = .ok (cells.take (n * size)).toArray w
theorem run_first {P : Program} {w : World} {size n len cap : Nat} {ao : Option Addr} {cells : List Value} (hl : cells.length = len * size) (hn : n ≤ len) (hc : len = 0 ∨ ∃ a : Addr, ao = some a ∧ ∀ j u, cells[j]? = some u → w.cell? (a.add j) = some u) :
    (Builtin.firstCells size n (.slice ao len cap)).run P w = .ok (cells.take (n * size)).toArray w := by
  rcases hc with h0 | ⟨a, rfl, hc⟩
  · have hn0 : n = 0 := by omega
    subst hn0
    cases ao with
    | none => simp [Builtin.firstCells, go_sem]
    | some a =>
      have := run_firstCells_some (P := P) w size 0 a len cap [] (by simp) (fun j u h => by simp at h)
      simpa using this
  · exact run_firstCells_some (P := P) w size n a len cap (cells.take (n * size)) (by rw [List.length_take, hl]; exact Nat.min_eq_left (Nat.mul_le_mul_right _ hn)) (fun j u h => by
      rw [List.getElem?_take] at h
      split at h
      · exact hc j u h
      · cases h)
theorem CSrc.slice {α : Type} {R : Rep α} (hR : R.One) {size : Nat} {y : Value} {ns : List α} {H1 : Heaplet} (hle : Hle H1 H) (hs : IsSlice H1 R size y ns) (hF : ∀ cs z, R H1 cs z → R HF cs z) : CSrc x H HF own R size y ns := by
  obtain ⟨cells, hf, ao, cap, rfl, hc⟩ := hs.cells
  refine ⟨ao, cap, rfl, cells, hf.conv hF, hf.one' hR, fun w hm n hn => run_first hf.length hn ?_⟩
  rcases hc with rfl | ⟨b, o, rfl, hc⟩
  · exact .inl rfl
  · exact .inr ⟨_, rfl, fun j u h => by rw [add_lit]; exact hm.agr _ _ _ (hle _ _ _ (hc j u h))⟩
theorem CSrc.part {α : Type} {R : Rep α} {size B : Nat} {E : TypeId} {v y : Value} {ls ns : List α} {K : Own} {lo hi : Int} (i : Nat) (hi' : own[i]? = some K) (hr : RowOf HF R B E size v ls K) (hs : SubV size v y lo.toNat (hi.toNat - lo.toNat)) (hb : 0 ≤ lo ∧ lo ≤ hi ∧ hi ≤ ls.length) (hn : ns = cut ls lo hi) : CSrc x H HF own R size y ns := by
  subst hn
  have hcl : (cut ls lo hi).length = hi.toNat - lo.toNat := by have := cut_length (l := ls) hb.1 hb.2.1 hb.2.2; omega
  obtain ⟨⟨ao, cap, rfl⟩, hs⟩ := hs
  obtain ⟨cells, ⟨h0, h1⟩, hf, ho⟩ := hr
  have hfc := (Flat.td (hi.toNat - lo.toNat) (Flat.td lo.toNat hf).2).1
  refine ⟨ao, cap, by rw [hcl], (cells.drop (lo.toNat * size)).take ((hi.toNat - lo.toNat) * size), hfc, fun u hu => ho u (List.mem_of_mem_drop (List.mem_of_mem_take hu)), fun w hm n hn' => ?_⟩
  have hlen := hfc.length
  rw [show ((ls.drop lo.toNat).take (hi.toNat - lo.toNat)).length = hi.toNat - lo.toNat from hcl] at hlen
  rw [hcl] at hn'
  refine run_first hlen hn' ?_
  rcases hs with h | ⟨b, o, n', cap2, cap', e1, e2, hle⟩
  · exact .inl h
  · right
    simp only [Value.slice.injEq] at e2
    obtain ⟨rfl, -, rfl⟩ := e2
    refine ⟨_, rfl, fun j u hj => ?_⟩
    rcases h1 with ⟨e, h3, rfl⟩ | ⟨g, capg, cur, e, rfl, e3, e4, e5, e6, e7⟩
    · rw [e] at e1; simp at e1
    · rw [e] at e1
      simp only [Value.slice.injEq, Option.some.injEq, Addr.mk.injEq] at e1
      obtain ⟨⟨rfl, rfl, -⟩, rfl, rfl⟩ := e1
      have hg := (own_here hm hi').here (g, .cells cur E (0, 0)) (by simp)
      rw [add_lit, cell_of_row w g _ cur E (0, 0) hg, Nat.zero_add]
      rw [List.getElem?_take] at hj
      split at hj
      · rw [List.getElem?_drop, ← e7, List.getElem?_take] at hj
        split at hj
        · simpa using hj
        · cases hj
      · cases hj
end Go.Ow

/-
  What is proved here: maps whose keys are ints: made, written, ranged over in whatever order; over OwY.
-/
namespace Go.Ow
open Go.RowKit
set_option linter.unusedVariables false
set_option linter.unusedSimpArgs false

/-- the entries of a map, in the order in which they came -/
structure MapIs {α : Type} (R : Rep α) (H : Heaplet) (es : Array MapEntry) (M : List (Int × α)) : Prop where
  size : es.size = M.length
  here : ∀ i k y, M[i]? = some (k, y) → ∃ cs : List Value, es[i]? = some (MapEntry.mk (.int .i64 k) (.agg cs.toArray) i) ∧ R H cs y
  nodup : (M.map (·.1)).Nodup

theorem putM_new {α : Type} : ∀ {M : List (Int × α)} {k : Int} {y : α}, (∀ p ∈ M, p.1 ≠ k) → putM M k y = M ++ [(k, y)]
  | [], _, _, _ => rfl
  | p :: r, k, y, h => by
    simp only [putM, if_neg (h p (by simp)), List.cons_append]
    rw [putM_new (fun q hq => h q (by simp [hq]))]
theorem putM_old {α : Type} : ∀ {M : List (Int × α)} {k : Int} {y : α} {j : Nat} {z : α}, (M.map (·.1)).Nodup → M[j]? = some (k, z) → putM M k y = M.set j (k, y)
  | [], _, _, _, _, _, h => by simp at h
  | p :: r, k, y, 0, z, _, h => by simp at h; subst h; simp [putM]
  | p :: r, k, y, j + 1, z, hn, h => by
    simp only [List.map_cons, List.nodup_cons] at hn
    simp only [List.getElem?_cons_succ] at h
    have hne : p.1 ≠ k := fun e => hn.1 (by rw [e]; exact List.mem_map.2 ⟨(k, z), List.mem_of_getElem? h, rfl⟩)
    simp only [putM, if_neg hne, List.set_cons_succ]
    rw [putM_old hn.2 h]

theorem MapIs.nil {α : Type} (R : Rep α) (H : Heaplet) : MapIs R H #[] [] := ⟨rfl, fun i k y h => by simp at h, by simp⟩
theorem MapIs.mono {α : Type} {R : Rep α} (hR : R.Mono) {H H' : Heaplet} (hle : Hle H H') {es : Array MapEntry} {M : List (Int × α)} (h : MapIs R H es M) : MapIs R H' es M :=
  ⟨h.size, fun i k y e => by obtain ⟨cs, h1, h2⟩ := h.here i k y e; exact ⟨cs, h1, hR _ _ _ _ hle h2⟩, h.nodup⟩
theorem MapIs.entry {α : Type} {R : Rep α} {H : Heaplet} {es : Array MapEntry} {M : List (Int × α)} (h : MapIs R H es M) {e : MapEntry} (he : e ∈ es.toList) :
    ∃ i k y, ∃ cs : List Value, M[i]? = some (k, y) ∧ es[i]? = some e ∧ e = MapEntry.mk (.int .i64 k) (.agg cs.toArray) i ∧ R H cs y := by
  obtain ⟨i, hi⟩ := List.mem_iff_getElem?.1 he
  have hi' : es[i]? = some e := by simpa using hi
  have hlt : i < M.length := by rw [← h.size]; exact (Array.getElem?_eq_some_iff.1 hi').1
  obtain ⟨cs, h1, h2⟩ := h.here i (M[i]).1 (M[i]).2 (by simp [hlt])
  exact ⟨i, (M[i]).1, (M[i]).2, cs, by simp [hlt], hi', by rw [hi'] at h1; exact Option.some.inj h1, h2⟩
theorem MapIs.put {α : Type} {R : Rep α} {H : Heaplet} {es : Array MapEntry} {M : List (Int × α)} (h : MapIs R H es M) {k : Int} {cs : List Value} {y : α} (hR : R H cs y) :
    (∀ e ∈ es.toList, e.key ≠ .int .i64 k) → MapIs R H (es.push (MapEntry.mk (.int .i64 k) (.agg cs.toArray) M.length)) (putM M k y) := fun hn => by
  have hM : ∀ p ∈ M, p.1 ≠ k := fun p hp e => by
    obtain ⟨i, hi⟩ := List.mem_iff_getElem?.1 hp
    obtain ⟨cs', h1, -⟩ := h.here i p.1 p.2 hi
    exact hn _ (Array.mem_toList_iff.2 (Array.mem_of_getElem? h1)) (by simp [e])
  rw [putM_new hM]
  refine ⟨by simp [h.size], fun i k' y' e => ?_, ?_⟩
  · rw [List.getElem?_append] at e
    split at e
    · obtain ⟨cs', h1, h2⟩ := h.here i k' y' e
      refine ⟨cs', ?_, h2⟩
      have := (Array.getElem?_eq_some_iff.1 h1).1
      rw [Array.getElem?_push_lt this, ← h1, Array.getElem?_eq_getElem this]
    · rename_i hi
      have : i = M.length := by
        rcases Nat.lt_or_ge 0 (i - M.length) with h' | h'
        · rw [List.getElem?_eq_none (by simp only [List.length_cons, List.length_nil]; omega)] at e; cases e
        · omega
      subst this
      simp at e
      obtain ⟨rfl, rfl⟩ := e
      exact ⟨cs, by rw [← h.size]; simp, hR⟩
  · rw [List.map_append]
    refine List.nodup_append.2 ⟨h.nodup, by simp, fun a ha b hb => ?_⟩
    simp at hb
    subst hb
    obtain ⟨p, hp, rfl⟩ := List.mem_map.1 ha
    exact hM p hp
theorem MapIs.turn {α : Type} {R : Rep α} {H : Heaplet} {es : Array MapEntry} {M : List (Int × α)} (h : MapIs R H es M) {k : Int} {cs : List Value} {y : α} (hR : R H cs y) {j : Nat} {e : MapEntry}
    (hj : es[j]? = some e) (hk : e.key = .int .i64 k) : MapIs R H (es.modify j fun e => { e with key := .int .i64 k, val := .agg cs.toArray }) (putM M k y) ∧ (putM M k y).length = M.length := by
  obtain ⟨i, k', z, cs', h1, h2, h3, -⟩ := h.entry (Array.mem_toList_iff.2 (Array.mem_of_getElem? hj))
  subst h3
  simp only [Value.int.injEq, true_and] at hk
  subst hk
  have hij : i = j := by
    have hlt : j < M.length := by rw [← h.size]; exact (Array.getElem?_eq_some_iff.1 hj).1
    obtain ⟨cs2, h4, -⟩ := h.here j (M[j]).1 (M[j]).2 (by simp [hlt])
    rw [hj] at h4
    simp only [Option.some.injEq, MapEntry.mk.injEq] at h4
    exact h4.2.2
  subst hij
  rw [putM_old h.nodup h1]
  have hlt := (List.getElem?_eq_some_iff.1 h1).1
  refine ⟨⟨by simp [h.size], fun i' k'' y' e => ?_, ?_⟩, by simp⟩
  · rw [List.getElem?_set] at e
    split at e
    · rename_i hii
      subst hii
      simp only [hlt, if_true, Option.some.injEq, Prod.mk.injEq] at e
      obtain ⟨rfl, rfl⟩ := e
      exact ⟨cs, by rw [Array.getElem?_modify, if_pos rfl, h2]; rfl, hR⟩
    · rename_i hii
      obtain ⟨cs2, h4, h5⟩ := h.here i' k'' y' e
      exact ⟨cs2, by rw [Array.getElem?_modify, if_neg hii]; exact h4, h5⟩
  · rw [List.map_set]
    rw [show (M.map (·.1)).set i k' = M.map (·.1) from by
      refine List.ext_getElem? (fun n => ?_)
      rw [List.getElem?_set]
      split
      · rename_i hn; subst hn
        simp [hlt]
        have := (List.getElem?_eq_some_iff.1 h1).2
        rw [this]
      · rfl]
    exact h.nodup

/-! ### A block that is turned -/
open Go.ChangeMaps (setBlock)
variable {x : Cx} {ops : Array Oper} {Q : Exit → Act → World → Prop} {rest : List Oper} {l : Slots} {own : List Own} {H : Heaplet}
variable {ty : TypeId} {d : Nat} {pos : String} {aft : Array Edge} {v : Value}

/-! ### A map that is owned -/
def MapOf {α : Type} (HF : Heaplet) (R : Rep α) (B n : Nat) (M : List (Int × α)) (K : Own) : Prop := B ≤ n ∧ ∃ es, K = [(n, .map es M.length)] ∧ MapIs R HF es M
section mapOf
variable {α : Type} {R : Rep α} {HF : Heaplet} {B n : Nat} {M : List (Int × α)} {K : Own}
theorem MapOf.weak {B' : Nat} (hB : B' ≤ B) (h : MapOf HF R B n M K) : MapOf HF R B' n M K := ⟨Nat.le_trans hB h.1, h.2⟩
theorem MapOf.ge (h : MapOf HF R B n M K) : ∀ p ∈ K, B ≤ p.1 := by
  obtain ⟨h1, es, rfl, -⟩ := h
  intro p hp; simp at hp; subst hp; exact h1
theorem MapOf.base {B' : Nat} (h : MapOf HF R B n M K) (hB : ∀ p ∈ K, B' ≤ p.1) : MapOf HF R B' n M K := by
  obtain ⟨h1, es, rfl, h2⟩ := h
  exact ⟨hB (n, .map es M.length) (by simp), es, rfl, h2⟩
theorem MapOf.up {N : Nat} {S : List Nat} (h : MapOf HF R B n M K) (hf : ∀ p ∈ K, p.1 ∈ S ∨ N ≤ p.1) (hS : ∀ i ∈ S, N ≤ i) : MapOf HF R N n M K :=
  h.base (fun p hp => (hf p hp).elim (hS _) id)
theorem MapOf.mono {H2 : Heaplet} (h : MapOf HF R B n M K) (hR : R.Mono) (hle : Hle HF H2) : MapOf H2 R B n M K := by
  obtain ⟨h1, es, rfl, h2⟩ := h
  exact ⟨h1, es, rfl, h2.mono hR hle⟩
end mapOf
theorem MapOf.old {α : Type} {R : Rep α} {H H' : Heaplet} {B n : Nat} {M : List (Int × α)} {K : Own} (h : MapOf (New H H') R B n M K) (hR : R.Mono) : MapOf H' R B n M K := h.mono hR (New.le H H')

/-! ### What is laid from a map into a row, in whatever order -/
/-- those of S are laid -/
structure Laid {α β : Type} (f : α → β) (L : List β) (M : List (Int × α)) (S : List Nat) (B : List β) : Prop where
  len : B.length = L.length
  laid : ∀ n k y, n ∈ S → M[n]? = some (k, y) → B[k.toNat]? = some (f y)
  same : ∀ j, (∀ n k y, n ∈ S → M[n]? = some (k, y) → k.toNat ≠ j) → B[j]? = L[j]?
theorem Laid.start {α β : Type} (f : α → β) (L : List β) (M : List (Int × α)) : Laid f L M [] L := ⟨rfl, fun n k y h => by simp at h, fun j _ => rfl⟩
theorem key_unique {α : Type} {M : List (Int × α)} (hn : (M.map (·.1)).Nodup) {i j : Nat} {k : Int} {y z : α} (h1 : M[i]? = some (k, y)) (h2 : M[j]? = some (k, z)) : i = j := by
  have e1 : (M.map (·.1))[i]? = some k := by simp [h1]
  have e2 : (M.map (·.1))[j]? = some k := by simp [h2]
  exact (List.getElem?_inj (List.getElem?_eq_some_iff.1 e1).1 hn).1 (e1.trans e2.symm)
theorem Laid.step {α β : Type} {f : α → β} {L : List β} {M : List (Int × α)} {S : List Nat} {B : List β} (h : Laid f L M S B) (hn : (M.map (·.1)).Nodup) (hr : ∀ p ∈ M, 0 ≤ p.1 ∧ p.1.toNat < L.length)
    {n : Nat} {k : Int} {y : α} (hM : M[n]? = some (k, y)) (S' : List Nat) (hS : ∀ q, q ∈ S' ↔ q ∈ S ∨ q = n) : Laid f L M S' (B.set k.toNat (f y)) := by
  have hk := hr _ (List.mem_of_getElem? hM)
  refine ⟨by simp [h.len], fun n' k' y' hn' hM' => ?_, fun j hj => ?_⟩
  · rw [List.getElem?_set]
    split
    · rename_i e
      have hk' := hr _ (List.mem_of_getElem? hM')
      have : k = k' := by have := hk.1; have := hk'.1; simp only at *; omega
      subst this
      have := key_unique hn hM hM'
      subst this
      rw [hM] at hM'
      simp at hM'
      subst hM'
      rw [if_pos (by rw [h.len]; exact hk.2)]
    · rename_i e
      rcases (hS n').1 hn' with h' | h'
      · exact h.laid n' k' y' h' hM'
      · subst h'
        rw [hM] at hM'
        simp at hM'
        exact absurd (by rw [hM'.1]) e
  · rw [List.getElem?_set, if_neg (hj n k y ((hS n).2 (.inr rfl)) hM)]
    exact h.same j (fun n' k' y' h1 h2 => hj n' k' y' ((hS n').2 (.inl h1)) h2)
end Go.Ow

/-
  What is proved here: bytes of a text are counted by the library's own entry; over OwZ.
-/
namespace Go.Ow
open Go.RowKit
set_option linter.unusedVariables false
set_option linter.unusedSimpArgs false
variable {x : Cx} {l : Slots} {own : List Own} {H : Heaplet} {ty : TypeId}

end Go.Ow

/-
  What is proved here: new memory whose bytes are not told (bytealg.MakeNoZero); over OwZB.
-/
namespace Go.Ow
open Go.RowKit
set_option linter.unusedVariables false
set_option linter.unusedSimpArgs false
open Go.Lib

variable {x : Cx} {ops : Array Oper} {Q : Exit → Act → World → Prop} {rest : List Oper} {l : Slots} {own : List Own} {H HF : Heaplet}
variable {ty : TypeId} {d : Nat} {pos : String} {aft : Array Edge}
/-! ### The first elements of an own row, with no room behind them -/
end Go.Ow

/-
  What is proved here: iterators that are functions of the program, with cells of their own; over OwZC.
-/
namespace Go.Ow
open Go.RowKit
set_option linter.unusedVariables false
set_option linter.unusedSimpArgs false

variable {x : Cx} {ops : Array Oper} {Q : Exit → Act → World → Prop} {rest : List Oper} {l : Slots} {own : List Own} {H HF : Heaplet}
variable {ty : TypeId} {d : Nat} {pos : String} {aft : Array Edge}

/-- what is known of whom one yields to: it goes on (.inl), or has stopped -/
def IX {σ τ : Type} (I : σ → Own → Heaplet → Prop) (X : τ → Own → Heaplet → Prop) (r : σ ⊕ τ) (O : Own) (H : Heaplet) : Prop :=
  ∃ H1, Hle H1 H ∧ (match r with | .inl s => I s O H1 | .inr t => X t O H1)
theorem IX.mono {σ τ : Type} {I : σ → Own → Heaplet → Prop} {X : τ → Own → Heaplet → Prop} {r : σ ⊕ τ} {O : Own} {H H' : Heaplet} (h : IX I X r O H) (hle : Hle H H') : IX I X r O H' := by
  obtain ⟨H1, h1, h2⟩ := h; exact ⟨H1, h1.trans hle, h2⟩
end Go.Ow

/-
  What is proved here: memory that callees have made is taken back, to be written in: the law's memory of the beginning is set anew; cells of whole numbers may turn, headers stay; over OwZD.
-/
namespace Go.Ow
open Go.RowKit
set_option linter.unusedVariables false
set_option linter.unusedSimpArgs false

variable {x : Cx} {ops : Array Oper} {Q : Exit → Act → World → Prop} {rest : List Oper} {l : Slots} {own : List Own} {H HF : Heaplet}
variable {ty : TypeId} {d : Nat} {pos : String} {aft : Array Edge} {p q : Operand}

/-- no cell of the heaplet lies in newer blocks -/
def Low (H : Heaplet) (n : Nat) : Prop := ∀ b o v, H b o = some v → b < n
theorem Low.of {w : World} (h : Agrees H w) : Low H w.heap.size := fun b o v e => by
  have := h b o v e
  by_cases c : b < w.heap.size
  · exact c
  · exfalso
    have hn : w.heap[b]? = none := Array.getElem?_eq_none (by omega)
    simp [World.cell?, hn] at this
abbrev Cx.at' (x : Cx) (w1 : World) (H : Heaplet) (own : List Own) : Cx := { P := x.P, r := x.r, n := x.n, w0 := w1, H0 := H, S := ids own.flatten, ds := x.ds }
/-- from here on, 'new' is what is new behind this place -/
theorem JC.root {c : Code} {fn : Func} {R : Value → List Own → Heaplet → Prop}
    (h : ∀ w1 : World, x.w0.heap.size ≤ w1.heap.size → Low H w1.heap.size → (∀ i ∈ ids own.flatten, i < w1.heap.size) → JC (x.at' w1 H own) c (Ret (x.at' w1 H own) fn R) l own H) :
    JC x c (Ret x fn R) l own H := fun a w hh => by
  have hlt : ∀ i ∈ ids own.flatten, i < w.heap.size := fun i hi => by
    obtain ⟨p, hp, rfl⟩ := List.mem_map.1 hi; exact hh.mem.ok.lt p hp
  have h1 := h w hh.mem.kept.size (Low.of hh.mem.agr) hlt a w ⟨hh.size, hh.ds, hh.slots, ⟨hh.mem.agr, hh.mem.ok, Kept.refl _ _, fun p hp => .inl (List.mem_map_of_mem hp), Hle.refl _, fun _ _ _ => rfl, Mem.soft0⟩⟩
  refine wpIn_mono h1 ?_
  have key : ∀ (e : Ending) (w' : World), (∃ v K' H', e = .returned v ∧ R v K' H' ∧ Mem w H (ids own.flatten) K'.flatten H' w') → (∃ v K' H', e = .returned v ∧ R v K' H' ∧ Mem x.w0 x.H0 x.S K'.flatten H' w') := by
    rintro e w' ⟨v, K', H', he, hR, hm⟩
    refine ⟨v, K', H', he, hR, ?_⟩
    have := hh.mem.go (K := own.flatten) (rst := []) (by simp) hm
    simpa using this
  intro e a' w' hq
  cases e with
  | normal => exact ⟨hq.1, by obtain ⟨v, h2, h3⟩ := hq.2; exact ⟨v, h2, key _ _ h3⟩⟩
  | ret => exact ⟨hq.1, by obtain ⟨v, h2, h3⟩ := hq.2; exact ⟨v, h2, key _ _ h3⟩⟩
  | panic ch => exact ⟨hq.1, key _ _ hq.2⟩
  | outgrown => exact key _ _ hq
  | exit id => exact hq.elim
  | goto t => exact hq.elim

/-! ### Memory that is taken back -/
/-- a cell of a whole number may have another one; what else it is, it stays -/
def Kin (v v' : Value) : Prop := v' = v ∨ match v with
  | .int .u8 _ => ∃ a : UInt8, v' = .int .u8 (a.toNat : Int)
  | .int .i64 _ => ∃ a : Int, v' = .int .i64 a
  | _ => False
def TH (N : Heaplet) (D : Own) : Prop := ∀ b o v, N b o = some v → ∃ cur t, (b, Obj.cells cur t (0, 0)) ∈ D ∧ ∃ v', cur.toList[o]? = some v' ∧ Kin v v'
theorem TH.exact {N : Heaplet} {D : Own} {b o : Nat} {v : Value} (h : TH N D) (hN : N b o = some v) (hv : ∀ k n, v ≠ .int k n) : ∃ cur t, (b, Obj.cells cur t (0, 0)) ∈ D ∧ cur.toList[o]? = some v := by
  obtain ⟨cur, t, h1, v', h2, h3⟩ := h b o v hN
  rcases h3 with rfl | h3
  · exact ⟨cur, t, h1, h2⟩
  · exfalso; revert h3; cases v <;> simp_all
theorem TH.u8 {N : Heaplet} {D : Own} {b o : Nat} {y : UInt8} (h : TH N D) (hN : N b o = some (.int .u8 (y.toNat : Int))) : ∃ (a : UInt8) (cur : Array Value) (t : TypeId), (b, Obj.cells cur t (0, 0)) ∈ D ∧ cur.toList[o]? = some (.int .u8 (a.toNat : Int)) := by
  obtain ⟨cur, t, h1, v', h2, h3⟩ := h b o _ hN
  rcases h3 with rfl | ⟨a, rfl⟩
  · exact ⟨y, cur, t, h1, h2⟩
  · exact ⟨a, cur, t, h1, h2⟩
theorem TH.i64 {N : Heaplet} {D : Own} {b o : Nat} {y : Int} (h : TH N D) (hN : N b o = some (.int .i64 y)) : ∃ (a : Int) (cur : Array Value) (t : TypeId), (b, Obj.cells cur t (0, 0)) ∈ D ∧ cur.toList[o]? = some (.int .i64 a) := by
  obtain ⟨cur, t, h1, v', h2, h3⟩ := h b o _ hN
  rcases h3 with rfl | ⟨a, rfl⟩
  · exact ⟨y, cur, t, h1, h2⟩
  · exact ⟨a, cur, t, h1, h2⟩
/-- all blocks that are new, and not owned -/
def newBlocks (n : Nat) (own : Own) (w : World) : Own := (List.range' n (w.heap.size - n)).filterMap fun b => if b ∈ ids own then none else (w.heap[b]?).map fun o => (b, o)
theorem mem_newBlocks {n : Nat} {own : Own} {w : World} {q : Nat × Obj} : q ∈ newBlocks n own w ↔ n ≤ q.1 ∧ q.1 ∉ ids own ∧ w.heap[q.1]? = some q.2 := by
  unfold newBlocks
  rw [List.mem_filterMap]
  constructor
  · rintro ⟨b, hb, h⟩
    rw [List.mem_range'_1] at hb
    by_cases c : b ∈ ids own
    · rw [if_pos c] at h; cases h
    · rw [if_neg c] at h
      cases ho : w.heap[b]? with
      | none => rw [ho] at h; cases h
      | some o => rw [ho] at h; obtain rfl := Option.some.inj h; exact ⟨hb.1, c, ho⟩
  · rintro ⟨h1, h2, h3⟩
    have hlt : q.1 < w.heap.size := (Array.getElem?_eq_some_iff.1 h3).1
    exact ⟨q.1, by rw [List.mem_range'_1]; omega, by rw [if_neg h2, h3]; rfl⟩
theorem newBlocks_nodup (n : Nat) (own : Own) (w : World) : (ids (newBlocks n own w)).Nodup := by
  unfold newBlocks ids
  have : ∀ l : List Nat, l.Nodup → ((l.filterMap fun b => if b ∈ ids own then none else (w.heap[b]?).map fun o => (b, o)).map (·.1)).Nodup := by
    intro l
    induction l with
    | nil => intro _; simp
    | cons b l ih =>
      intro h
      rw [List.nodup_cons] at h
      have ih := ih h.2
      rw [List.filterMap_cons]
      split
      · exact ih
      · rename_i q hq
        rw [List.map_cons, List.nodup_cons]
        refine ⟨fun hm => ?_, ih⟩
        obtain ⟨r, hr, e⟩ := List.mem_map.1 hm
        obtain ⟨b', hb', hr'⟩ := List.mem_filterMap.1 hr
        have e1 : q.1 = b := by
          by_cases c : b ∈ ids own
          · rw [if_pos c] at hq; cases hq
          · rw [if_neg c] at hq
            cases ho : w.heap[b]? with
            | none => rw [ho] at hq; cases hq
            | some o => rw [ho] at hq; obtain rfl := Option.some.inj hq; rfl
        have e2 : r.1 = b' := by
          by_cases c : b' ∈ ids own
          · rw [if_pos c] at hr'; cases hr'
          · rw [if_neg c] at hr'
            cases ho : w.heap[b']? with
            | none => rw [ho] at hr'; cases hr'
            | some o => rw [ho] at hr'; obtain rfl := Option.some.inj hr'; rfl
        exact h.1 (by rw [← e1, ← e, e2]; exact hb')
  exact this _ (List.nodup_range')
theorem JC.thaw {c : Code} (hl : Low x.H0 x.w0.heap.size) (h : ∀ D, TH (New x.H0 H) D → JC x c Q l (D :: own) x.H0) : JC x c Q l own H := fun a w hh => by
  have hnew : ∀ b o v, New x.H0 H b o = some v → x.w0.heap.size ≤ b ∧ b ∉ ids own.flatten ∧ ∃ cur t, w.heap[b]? = some (.cells cur t (0, 0)) ∧ cur.toList[o]? = some v := by
    intro b o v e
    have e0 : x.H0 b o = none := by
      unfold New at e; split at e
      · assumption
      · cases e
    have e1 := New.le _ _ b o v e
    refine ⟨?_, ?_, ?_⟩
    · apply Nat.le_of_not_lt
      intro hc
      rw [hh.mem.grow b o hc, e0] at e1; cases e1
    · intro hc
      obtain ⟨p, hp, rfl⟩ := List.mem_map.1 hc
      rw [hh.mem.ok.apart p hp o] at e1; cases e1
    · obtain ⟨cur, t, hb⟩ := hh.mem.soft b o v e0 e1
      refine ⟨cur, t, hb, ?_⟩
      have := hh.mem.agr b o v e1
      rw [cell_of_row w b o cur t (0, 0) hb] at this
      simpa using this
  refine h (newBlocks x.w0.heap.size own.flatten w) ?_ a w ?_
  · intro b o v e
    obtain ⟨h1, h2, cur, t, h3, h4⟩ := hnew b o v e
    exact ⟨cur, t, mem_newBlocks.2 ⟨h1, h2, h3⟩, v, h4, .inl rfl⟩
  · have hh0 := hh.low0
    refine ⟨hh0.size, hh0.ds, hh0.slots, hh0.mem.agr, ⟨?_, ?_, ?_⟩, hh0.mem.kept, ?_, hh0.mem.le, hh0.mem.grow, hh0.mem.soft⟩
    · intro p hp
      rw [List.flatten_cons, List.mem_append] at hp
      rcases hp with hp | hp
      · exact (mem_newBlocks.1 hp).2.2
      · exact hh0.mem.ok.here p hp
    · rw [List.flatten_cons]
      simp only [ids, List.map_append]
      refine List.nodup_append.2 ⟨newBlocks_nodup _ _ _, hh0.mem.ok.nodup, fun i hi j hj e => ?_⟩
      subst e
      obtain ⟨p, hp, rfl⟩ := List.mem_map.1 hi
      exact (mem_newBlocks.1 hp).2.1 hj
    · intro p hp o
      rw [List.flatten_cons, List.mem_append] at hp
      rcases hp with hp | hp
      · cases e : x.H0 p.1 o with
        | none => rfl
        | some v => have := hl _ _ _ e; have := (mem_newBlocks.1 hp).1; omega
      · exact hh0.mem.ok.apart p hp o
    · intro p hp
      rw [List.flatten_cons, List.mem_append] at hp
      rcases hp with hp | hp
      · exact .inr (mem_newBlocks.1 hp).1
      · exact hh0.mem.fresh p hp
theorem JL.stT (i : Nat) {T b o : Nat} {D : Own} {N : Heaplet} {v u : Value} (hs : shapeOf x.P T = some (false, 1)) (hi : own[i]? = some D) (hT : TH N D) (hN : N b o = some v) (h1 : evo l p = some (.pointer (some ⟨b, o, none⟩))) (h2 : evo l q = some u)
    (hu : ∃ k n, u = .int k n) (hk : Kin v u) (h : ∀ D', TH N D' → JL x ops Q rest l (own.set i D') H) : JL x ops Q (⟨none, .store T p q, ty, pos, aft, none⟩ :: rest) l own H := fun a w hh => by
  have e1 := eval_of hh h1
  have e2 := eval_of hh h2
  simp only [wpLs, wanted_none, if_true]
  refine ⟨fun _ _ => trivial, ?_⟩
  obtain ⟨cur, t, hm, v', hv', -⟩ := hT b o v hN
  have hin := own_here hh.mem hi
  have hbk := hin.here _ hm
  have hap : ∀ o, H b o = none := fun o => hin.apart _ hm o
  have ho : o < cur.size := by have := (List.getElem?_eq_some_iff.1 hv').1; simpa using this
  obtain ⟨k, n, rfl⟩ := hu
  have hst := run_storeAt (P := x.P) (T := T) (w := w) (b := b) (o := o) (v := .int k n) hs rfl rfl hbk (by omega)
  obtain ⟨C, hC⟩ : ∃ C, C = (cur.toList.take o ++ (Value.int k n).cells.toList ++ cur.toList.drop (o + 1)).toArray := ⟨_, rfl⟩
  rw [← hC] at hst
  have hr : (execOp a.eval ⟨none, .store T p q, ty, pos, aft, none⟩).run x.P w = .ok .skip (w.setRow b C) := by
    generalize a.eval = ρ at e1 e2
    simp only [execOp, e1, e2]
    exact run_u hst
  rw [semAt_of rfl, hr]
  obtain ⟨A, B, hD⟩ := List.append_of_mem hm
  have hset : C.toList = cur.toList.set o (.int k n) := by
    rw [hC, List.set_eq_take_append_cons_drop, if_pos (by simpa using ho)]
    simp [Value.cells]
  have hnd := hin.nodup
  refine h (A ++ (b, .cells C t (0, 0)) :: B) ?_ _ _ ⟨hh.size, hh.ds, hh.slots, ?_⟩
  · intro b' o' w' hw'
    obtain ⟨cur', t', g1, v2, g2, g3⟩ := hT b' o' w' hw'
    by_cases c : b' = b
    · subst c
      have : (b', Obj.cells cur' t' (0, 0)) = (b', Obj.cells cur t (0, 0)) := by
        rw [hD] at g1 hnd
        simp only [ids, List.map_append, List.map_cons, List.nodup_append, List.nodup_cons] at hnd
        rcases List.mem_append.1 g1 with g | g
        · exact absurd rfl (hnd.2.2 b' (List.mem_map.2 ⟨_, g, rfl⟩) b' (by simp))
        · rcases List.mem_cons.1 g with g | g
          · exact g
          · exact absurd (List.mem_map.2 ⟨_, g, rfl⟩) hnd.2.1.1
      simp only [Prod.mk.injEq, Obj.cells.injEq, true_and] at this
      obtain ⟨rfl, rfl, -⟩ := this
      refine ⟨C, t', by simp, ?_⟩
      rw [hset, List.getElem?_set]
      by_cases c2 : o = o'
      · subst c2
        rw [hN] at hw'
        obtain rfl := Option.some.inj hw'
        exact ⟨_, by rw [if_pos rfl, if_pos (by simpa using ho)], hk⟩
      · exact ⟨v2, by rw [if_neg c2]; exact g2, g3⟩
    · refine ⟨cur', t', ?_, v2, g2, g3⟩
      rw [hD] at g1
      rcases List.mem_append.1 g1 with g | g
      · exact List.mem_append.2 (.inl g)
      · rcases List.mem_cons.1 g with g | g
        · cases g; exact absurd rfl c
        · exact List.mem_append.2 (.inr (List.mem_cons_of_mem _ g))
  · have := hh.mem.go1 (K' := A ++ (b, .cells C t (0, 0)) :: B) hi (by
      have hm1 : Mem w H (ids D) D H w := Mem.same hh.mem.agr hin
      have := hm1.go (K := [(b, .cells cur t (0, 0))]) (rst := A ++ B) (by rw [hD]; exact List.perm_middle) (by simpa [ids] using Mem.setRow hh.mem.agr hbk hap C)
      exact this.perm (by simpa using (List.perm_middle (a := (b, Obj.cells C t (0, 0))) (l₁ := A) (l₂ := B)).symm))
    exact this
theorem Kin.u8 {y a : UInt8} : Kin (.int .u8 (y.toNat : Int)) (.int .u8 (a.toNat : Int)) := .inr ⟨a, rfl⟩
theorem Kin.i64 {y a : Int} : Kin (.int .i64 y) (.int .i64 a) := .inr ⟨a, rfl⟩
/-- the state, spelled anew: slots that are read no more are forgotten -/
theorem JC.tidy {c : Code} {l' : Slots} {own' : List Own} (hl : Sub l' l) (ho : own' = own) (h : JC x c Q l' own' H) : JC x c Q l own H := by
  subst ho; exact JC.sub hl h
theorem JC.tidyP {c : Code} {l' : Slots} {own' rst : List Own} (hl : Sub l' l) (hp : own.flatten.Perm (own'.flatten ++ rst.flatten)) (h : JC x c Q l' own' H) : JC x c Q l own H := fun a w hh => by
  have hh' := hh.sub hl
  exact h a w ⟨hh'.size, hh'.ds, hh'.slots, (hh'.mem.perm hp).sub (List.sublist_append_left _ _)⟩
end Go.Ow

/-
  What is proved here: rows with a room of noughts behind them: 'make' with a length and a greater room, appends within it, the row with its noughts; over OwZE.
-/
namespace Go.Ow
open Go.RowKit
set_option linter.unusedVariables false
set_option linter.unusedSimpArgs false

variable {x : Cx} {ops : Array Oper} {Q : Exit → Act → World → Prop} {rest : List Oper} {l : Slots} {own : List Own} {H HF : Heaplet}
variable {ty : TypeId} {d : Nat} {pos : String} {aft : Array Edge} {p q : Operand} {t : TypeId}

/-- behind the row of n bytes there is room for N in all, and it holds noughts -/
def Spare (v : Value) (K : Own) (N : Nat) : Prop := ∃ g n cur E, v = .slice (some ⟨g, 0, none⟩) n N ∧ K = [(g, Obj.cells cur E (0, 0))] ∧ n ≤ N ∧ N ≤ cur.size ∧ (cur.toList.drop n).take (N - n) = List.replicate (N - n) (.int .u8 0)
theorem Flat.bytes_eq {H : Heaplet} : ∀ {l : List UInt8} {cells : List Value}, Flat H RU8 1 cells l → cells = bvs l
  | [], cells, h => h
  | b :: l, cells, h => by
    obtain ⟨cs, more, rfl, h1, h2, h3⟩ := h
    rw [Flat.bytes_eq h3, show cs = [.int .u8 (b.toNat : Int)] from h2]; rfl
/-- the row with its noughts -/
theorem RowOf.spare {B : Nat} {E : TypeId} {v : Value} {m m' : List UInt8} {K : Own} {N : Nat} {b : Int} (h : RowOf HF RU8 B E 1 v m K) (hs : Spare v K N) (hm : m' = m ++ List.replicate (b.toNat - m.length) 0) (hb : (m.length : Int) ≤ b ∧ b ≤ N) :
    ∃ g0, v = .slice (some ⟨g0, 0, none⟩) m.length N ∧ RowOf HF RU8 B E 1 (.slice (some ⟨g0, 0, none⟩) b.toNat N) m' K := by
  obtain ⟨g, n, cur, E', rfl, rfl, h1, h2, h3⟩ := hs
  obtain ⟨cells, ⟨h0, hr⟩, hf, ho⟩ := h
  rcases hr with ⟨e, -⟩ | ⟨g', cap, cur', e1, e2, e3, e4, e5, e6, e7⟩
  · cases e
  simp only [Value.slice.injEq, Option.some.injEq, Addr.mk.injEq] at e1
  obtain ⟨⟨rfl, -, -⟩, rfl, rfl⟩ := e1
  simp only [List.cons.injEq, Prod.mk.injEq, Obj.cells.injEq, and_true, true_and] at e2
  obtain ⟨rfl, rfl⟩ := e2
  have hml : m'.length = b.toNat := by rw [hm, List.length_append, List.length_replicate]; omega
  refine ⟨_, rfl, bvs m', ⟨by rw [hml]; simp [bvs, hml], .inr ⟨g, N, cur, by rw [hml], rfl, e3, by rw [hml]; omega, e5, by omega, ?_⟩⟩, Flat.bytes m', (Flat.bytes (H := HF) m').one' RU8.one⟩
  rw [hml, Nat.mul_one]
  have hc : cells = bvs m := Flat.bytes_eq hf
  have e : cur.toList.take b.toNat = cur.toList.take m.length ++ ((cur.toList.drop m.length).take (b.toNat - m.length)) := by
    conv => lhs; rw [show b.toNat = m.length + (b.toNat - m.length) by omega, List.take_add]
  have e8 : (cur.toList.drop m.length).take (b.toNat - m.length) = List.replicate (b.toNat - m.length) (.int .u8 0) := by
    have := congrArg (List.take (b.toNat - m.length)) h3
    rw [List.take_take, Nat.min_eq_left (by omega), List.take_replicate, Nat.min_eq_left (by omega)] at this
    exact this
  rw [Nat.mul_one] at e7
  rw [e, e8, e7, hc, hm]
  simp [bvs]
end Go.Ow

/-
  What is proved here: plain vocabulary of rows with a room of noughts.
-/
namespace Go.Ow
variable {α β : Type}
end Go.Ow

/-
  What is proved here: arrays of bytes: slices of them, slices as arrays, equality; appends of noughts to a slice that is full; over OwZF.
-/
namespace Go.Ow
open Go.RowKit
set_option linter.unusedVariables false
set_option linter.unusedSimpArgs false

variable {x : Cx} {ops : Array Oper} {Q : Exit → Act → World → Prop} {rest : List Oper} {l : Slots} {own : List Own} {H HF : Heaplet}
variable {ty : TypeId} {d : Nat} {pos : String} {aft : Array Edge} {p q : Operand} {t u : TypeId}

theorem IsSlice.first {ao : Option Addr} {n c N : Nat} {ls m : List UInt8} (h : IsSlice HF RU8 1 (.slice ao n c) ls) (hm : m = ls.take N) (hN : N ≤ ls.length) (h0 : 0 < N) :
    ∃ b o, ao = some ⟨b, o, none⟩ ∧ N ≤ n ∧ ∀ j u, (bvs m)[j]? = some u → HF b (o + j) = some u := by
  subst hm
  obtain ⟨cells, hf, ao', cap', e, hc⟩ := h.cells
  obtain rfl := Flat.bytes_eq hf
  simp only [Value.slice.injEq] at e
  obtain ⟨rfl, rfl, rfl⟩ := e
  rcases hc with rfl | ⟨b, o, rfl, hc⟩
  · simp only [List.length_nil] at hN; omega
  · refine ⟨b, o, rfl, hN, fun j u hj => hc j u ?_⟩
    have : bvs (ls.take N) = (bvs ls).take N := by unfold bvs; rw [List.map_take]
    rw [this, List.getElem?_take] at hj
    split at hj
    · exact hj
    · cases hj

/-! ### Equality -/
/-! ### An own array as a row -/
/-! ### Append of noughts to a slice that is full -/
end Go.Ow

/-
  What is proved here: cells that are made, at any time, in a region whose order Go leaves open: told apart from its other operations; over OwZG.
-/
namespace Go.Ow
open Go.RowKit
set_option linter.unusedVariables false
set_option linter.unusedSimpArgs false

variable {x : Cx} {ops : Array Oper} {Q : Exit → Act → World → Prop} {l : Slots} {own : List Own} {H : Heaplet} {so : List Own} {sH : Heaplet}

/-- an operation that makes a cell: its place, its slot -/
structure ASpec where
  i : Nat
  d : Nat
  T : TypeId
  z : Value
abbrev AM := List (ASpec × Option Nat)
def AM.sl : AM → Slots
  | [] => []
  | (s, some b) :: r => (s.d, .pointer (some ⟨b, 0, none⟩)) :: AM.sl r
  | (s, none) :: r => AM.sl r
def AM.ow : AM → List Own
  | [] => []
  | (s, some b) :: r => [(b, .cells s.z.cells s.T (0, 0))] :: AM.ow r
  | (s, none) :: r => AM.ow r
def AM.lst : AM → Array Bool → Array Bool
  | [], a => a
  | (s, some _) :: r, a => AM.lst r (a.setIfInBounds s.i true)
  | (s, none) :: r, a => AM.lst r a
def AM.left : AM → Nat
  | [] => 0
  | (_, some _) :: r => AM.left r
  | (_, none) :: r => AM.left r + 1
def AM.bs (m : AM) : List Bool := m.map (·.2.isSome)
def lstB : List ASpec → List Bool → Array Bool → Array Bool
  | s :: r, true :: bs, a => lstB r bs (a.setIfInBounds s.i true)
  | _ :: r, false :: bs, a => lstB r bs a
  | _, _, a => a
def undone : List ASpec → List Bool → List Nat
  | _ :: r, true :: bs => undone r bs
  | s :: r, false :: bs => s.i :: undone r bs
  | _, _ => []
def allB : Nat → List (List Bool)
  | 0 => [[]]
  | n + 1 => (allB n).flatMap fun bs => [true :: bs, false :: bs]
theorem allB_mem : ∀ (bs : List Bool), bs ∈ allB bs.length
  | [] => by simp [allB]
  | b :: bs => by
    simp only [List.length_cons, allB, List.mem_flatMap]
    exact ⟨bs, allB_mem bs, by cases b <;> simp⟩
theorem AM.lst_eq : ∀ (m : AM) (a : Array Bool), m.lst a = lstB (m.map (·.1)) m.bs a
  | [], _ => rfl
  | (s, some b) :: r, a => AM.lst_eq r _
  | (s, none) :: r, a => AM.lst_eq r _
theorem set_true_comm (a : Array Bool) (i j : Nat) : (a.setIfInBounds i true).setIfInBounds j true = (a.setIfInBounds j true).setIfInBounds i true := by
  by_cases h : i = j
  · subst h; rfl
  · exact Array.setIfInBounds_comm _ _ h
theorem AM.lst_set : ∀ (m : AM) (a : Array Bool) (k : Nat), (m.lst a).setIfInBounds k true = m.lst (a.setIfInBounds k true)
  | [], _, _ => rfl
  | (s, some b) :: r, a, k => by show (AM.lst r _).setIfInBounds k true = AM.lst r _; rw [AM.lst_set r, set_true_comm]
  | (s, none) :: r, a, k => AM.lst_set r a k
theorem AM.lst_none : ∀ (A : List ASpec) (a : Array Bool), AM.lst (A.map fun s => (s, none)) a = a
  | [], _ => rfl
  | s :: r, a => AM.lst_none r a
theorem AM.sl_none : ∀ (A : List ASpec), AM.sl (A.map fun s => (s, none)) = []
  | [] => rfl
  | s :: r => AM.sl_none r
theorem AM.ow_none : ∀ (A : List ASpec), AM.ow (A.map fun s => (s, none)) = []
  | [] => rfl
  | s :: r => AM.ow_none r
theorem AM.left_none : ∀ (A : List ASpec), AM.left (A.map fun s => (s, none)) = A.length
  | [] => rfl
  | s :: r => by show AM.left (r.map fun s => (s, none)) + 1 = _; rw [AM.left_none r]; rfl
/-- one that is not made yet is made -/
theorem AM.split : ∀ (m : AM) (k : Nat), k ∈ undone (m.map (·.1)) m.bs → ∃ m1 m2 s, m = m1 ++ (s, none) :: m2 ∧ s.i = k
  | (s, some b) :: r, k, h => by
    obtain ⟨m1, m2, s', rfl, e⟩ := AM.split r k h
    exact ⟨(s, some b) :: m1, m2, s', rfl, e⟩
  | (s, none) :: r, k, h => by
    have h' : k ∈ s.i :: undone (r.map (·.1)) (AM.bs r) := h
    rcases List.mem_cons.1 h' with e | e
    · exact ⟨[], r, s, rfl, e.symm⟩
    · obtain ⟨m1, m2, s', rfl, e2⟩ := AM.split r k e
      exact ⟨(s, none) :: m1, m2, s', rfl, e2⟩
theorem AM.made_left : ∀ (m1 m2 : AM) (s : ASpec) (b : Nat), (m1 ++ (s, none) :: m2).left = (m1 ++ (s, some b) :: m2).left + 1
  | [], _, _, _ => rfl
  | (_, some _) :: r, m2, s, b => AM.made_left r m2 s b
  | (_, none) :: r, m2, s, b => by show AM.left (r ++ _) + 1 = AM.left (r ++ _) + 1 + 1; rw [AM.made_left r m2 s b]
theorem AM.made_lst : ∀ (m1 m2 : AM) (s : ASpec) (b : Nat) (a : Array Bool), (m1 ++ (s, some b) :: m2).lst a = (m1 ++ (s, none) :: m2).lst (a.setIfInBounds s.i true)
  | [], _, _, _, _ => rfl
  | (t, some _) :: r, m2, s, b, a => by show AM.lst (r ++ _) _ = AM.lst (r ++ _) _; rw [AM.made_lst r m2 s b, set_true_comm]
  | (t, none) :: r, m2, s, b, a => AM.made_lst r m2 s b a
theorem AM.made_map : ∀ (m1 m2 : AM) (s : ASpec) (b : Nat), (m1 ++ (s, some b) :: m2).map (·.1) = (m1 ++ (s, none) :: m2).map (·.1) := fun m1 m2 s b => by simp
theorem AM.made_ow : ∀ (m1 m2 : AM) (s : ASpec) (b : Nat), (AM.ow (m1 ++ (s, some b) :: m2)).Perm ([(b, .cells s.z.cells s.T (0, 0))] :: AM.ow (m1 ++ (s, none) :: m2))
  | [], _, _, _ => List.Perm.refl _
  | (t, some c) :: r, m2, s, b => ((AM.made_ow r m2 s b).cons _).trans (List.Perm.swap _ _ _)
  | (t, none) :: r, m2, s, b => AM.made_ow r m2 s b
theorem lk_app : ∀ (l t : Slots) (i : Nat), lk (l ++ t) i = match lk l i with | some v => some v | none => lk t i
  | [], _, _ => rfl
  | (k, v) :: r, t, i => by
    simp only [List.cons_append, lk]
    cases h : Nat.beq k i with
    | true => rfl
    | false => exact lk_app r t i
theorem lk_appL {l t : Slots} {i : Nat} {v : Value} (h : lk l i = some v) : lk (l ++ t) i = some v := by rw [lk_app, h]
theorem evo_app {l t : Slots} {o : Operand} {v : Value} (h : evo l o = some v) : evo (l ++ t) o = some v := by
  cases o with
  | tmp k => exact lk_appL h
  | const u => exact h
  | global g => exact h
  | func f => exact h
theorem AM.made_lk : ∀ (m1 m2 : AM) (s : ASpec) (b : Nat) (i : Nat) (v : Value), ((m1 ++ (s, none) :: m2).map (fun p => p.1.d)).Nodup → lk (AM.sl (m1 ++ (s, some b) :: m2)) i = some v →
    (i = s.d ∧ v = .pointer (some ⟨b, 0, none⟩)) ∨ (i ≠ s.d ∧ lk (AM.sl (m1 ++ (s, none) :: m2)) i = some v)
  | [], m2, s, b, i, v, hn, h => by
    have h' : lk ((s.d, .pointer (some ⟨b, 0, none⟩)) :: AM.sl m2) i = some v := h
    simp only [lk] at h'
    cases hb : Nat.beq s.d i with
    | true => rw [hb] at h'; simp at h'; exact .inl ⟨(Nat.eq_of_beq_eq_true hb).symm, h'.symm⟩
    | false =>
      rw [hb] at h'
      exact .inr ⟨fun e => by subst e; simp at hb, h'⟩
  | (t, some c) :: r, m2, s, b, i, v, hn, h => by
    have h' : lk ((t.d, .pointer (some ⟨c, 0, none⟩)) :: AM.sl (r ++ (s, some b) :: m2)) i = some v := h
    have hn' : t.d ∉ (r ++ (s, none) :: m2).map (fun p => p.1.d) ∧ ((r ++ (s, none) :: m2).map (fun p => p.1.d)).Nodup := by
      rw [List.cons_append, List.map_cons, List.nodup_cons] at hn; exact hn
    have hts : t.d ≠ s.d := fun e => hn'.1 (by rw [e]; simp)
    show _ ∨ (_ ∧ lk ((t.d, .pointer (some ⟨c, 0, none⟩)) :: AM.sl (r ++ (s, none) :: m2)) i = some v)
    simp only [lk] at h' ⊢
    cases hb : Nat.beq t.d i with
    | true =>
      rw [hb] at h'
      have e : t.d = i := Nat.eq_of_beq_eq_true hb
      exact .inr ⟨by rw [← e]; exact hts, h'⟩
    | false => rw [hb] at h'; exact AM.made_lk r m2 s b i v hn'.2 h'
  | (t, none) :: r, m2, s, b, i, v, hn, h => by
    have hn' : ((r ++ (s, none) :: m2).map (fun p => p.1.d)).Nodup := by
      rw [List.cons_append, List.map_cons, List.nodup_cons] at hn; exact hn.2
    exact AM.made_lk r m2 s b i v hn' h

/-- what is asked of the list -/
def AOk (x : Cx) (ops : Array Oper) : List ASpec → Prop
  | [] => True
  | s :: r => (∃ ty pos aft, ops[s.i]? = some ⟨some s.d, .alloc s.T, ty, pos, aft, none⟩ ∧ zeroOf x.P s.T = some s.z ∧ Nat.blt s.d x.n = true) ∧ AOk x ops r
theorem AOk.at {A : List ASpec} (h : AOk x ops A) {s : ASpec} (hs : s ∈ A) : ∃ ty pos aft, ops[s.i]? = some ⟨some s.d, .alloc s.T, ty, pos, aft, none⟩ ∧ zeroOf x.P s.T = some s.z ∧ Nat.blt s.d x.n = true := by
  induction A with
  | nil => cases hs
  | cons t r ih =>
    rcases List.mem_cons.1 hs with rfl | h'
    · exact h.1
    · exact ih h.2 h'
def freeIn (l : Slots) : List ASpec → Bool
  | [] => true
  | s :: r => (lk l s.d).isNone && r.all (fun t => !Nat.beq t.d s.d) && freeIn l r
theorem freeIn.lk {A : List ASpec} (h : freeIn l A = true) {s : ASpec} (hs : s ∈ A) : lk l s.d = none := by
  induction A with
  | nil => cases hs
  | cons t r ih =>
    simp only [freeIn, Bool.and_eq_true] at h
    rcases List.mem_cons.1 hs with rfl | h'
    · simpa using h.1.1
    · exact ih h.2 h'
theorem freeIn.nodup {A : List ASpec} (h : freeIn l A = true) : (A.map (·.d)).Nodup := by
  induction A with
  | nil => exact List.nodup_nil
  | cons t r ih =>
    simp only [freeIn, Bool.and_eq_true] at h
    rw [List.map_cons, List.nodup_cons]
    refine ⟨fun hm => ?_, ih h.2⟩
    obtain ⟨s, hs, e⟩ := List.mem_map.1 hm
    have := List.all_eq_true.1 h.1.2 s hs
    simp [e] at this

def JAA (x : Cx) (ops : Array Oper) (Q : Exit → Act → World → Prop) (so : List Own) (sH : Heaplet) (A : List ASpec) (fuel : Nat) (listed : Array Bool) (l : Slots) (own : List Own) (H : Heaplet) : Prop :=
  ∀ m : AM, m.map (·.1) = A → (∀ p ∈ m, ∀ b, p.2 = some b → x.w0.heap.size ≤ b) → JA x ops Q so sH (fuel + m.left) (m.lst listed) (l ++ m.sl) (own ++ m.ow) H
def JOA (x : Cx) (ops : Array Oper) (Q : Exit → Act → World → Prop) (so : List Own) (sH : Heaplet) (A : List ASpec) (fuel : Nat) (listed : Array Bool) (i : Nat) (l : Slots) (own : List Own) (H : Heaplet) : Prop :=
  ∀ m : AM, m.map (·.1) = A → (∀ p ∈ m, ∀ b, p.2 = some b → x.w0.heap.size ≤ b) → JO x ops Q so sH (fuel + m.left) (m.lst listed) i (l ++ m.sl) (own ++ m.ow) H

theorem JAA.start (A : List ASpec) {fuel N : Nat} {listed : Array Bool} (hN : fuel + A.length = N) (h : JAA x ops Q so sH A fuel listed l own H) : JA x ops Q so sH N listed l own H := by
  have := h (A.map fun s => (s, none)) (by simp [Function.comp_def]) (fun p hp b e => by obtain ⟨s, -, rfl⟩ := List.mem_map.1 hp; cases e)
  rw [AM.lst_none, AM.sl_none, AM.ow_none, AM.left_none, hN] at this
  simpa using this
theorem SubO.app : ∀ {so own : List Own} (t : List Own), SubO so own → SubO so (own ++ t)
  | [], _, _, _ => trivial
  | s :: r, own, t, h => by
    obtain ⟨⟨i, hi⟩, h2⟩ := h
    refine ⟨⟨i, ?_⟩, SubO.app t h2⟩
    rw [List.getElem?_append_left (List.getElem?_eq_some_iff.1 hi).1]; exact hi
theorem JN.slots {K : Act → World → Prop} {l' : Slots} (h : ∀ i v, lk l' i = some v → lk l i = some v) (hk : JN x K l' own H) : JN x K l own H := fun a w hh =>
  hk a w ⟨hh.size, hh.ds, fun i v e => hh.slots i v (h i v e), hh.mem⟩
/-- a cell is made -/
theorem JOA.make {A : List ASpec} {F : Nat} {listed : Array Bool} (hA : AOk x ops A) (hle : Hle sH H) (hso : SubO so own) (hf : freeIn l A = true) {m : AM} (hm : m.map (·.1) = A) (hb : ∀ p ∈ m, ∀ b, p.2 = some b → x.w0.heap.size ≤ b)
    {k : Nat} (hk : k ∈ undone A m.bs) (ih : ∀ m' : AM, m'.left < m.left → m'.map (·.1) = A → (∀ p ∈ m', ∀ b, p.2 = some b → x.w0.heap.size ≤ b) → JA x ops Q so sH (F + m'.left) (m'.lst listed) (l ++ m'.sl) (own ++ m'.ow) H) :
    ∃ f, F + m.left = f + 1 ∧ JO x ops Q so sH f (m.lst listed) k (l ++ m.sl) (own ++ m.ow) H := by
  rw [← hm] at hk
  obtain ⟨m1, m2, s, rfl, rfl⟩ := AM.split m k hk
  have hsA : s ∈ A := by rw [← hm]; simp
  obtain ⟨ty, pos, aft, ho, hz, hd⟩ := hA.at hsA
  have hl := AM.made_left m1 m2 s 0
  refine ⟨F + AM.left (m1 ++ (s, some 0) :: m2), by omega, ?_⟩
  refine JO.step ho trivial rfl (fun K hK => ?_)
  refine JL.alloc hz hd (fun b hbb => ?_)
  refine ZD ?_
  have hleft : AM.left (m1 ++ (s, some b) :: m2) = AM.left (m1 ++ (s, some 0) :: m2) := by
    have := AM.made_left m1 m2 s b; omega
  have hmm : (m1 ++ (s, some b) :: m2).map (·.1) = A := by rw [AM.made_map]; exact hm
  have hJ := ih (m1 ++ (s, some b) :: m2) (by omega) hmm (fun p hp b' e => by
    rcases List.mem_append.1 hp with h | h
    · exact hb p (by simp [h]) b' e
    · rcases List.mem_cons.1 h with rfl | h
      · simp at e; subst e; exact hbb
      · exact hb p (by simp [h]) b' e)
  rw [hleft, AM.made_lst, ← AM.lst_set] at hJ
  have hnd : ((m1 ++ (s, none) :: m2).map (fun p => p.1.d)).Nodup := by
    have := freeIn.nodup hf; rw [← hm, List.map_map] at this; exact this
  have hln := freeIn.lk hf hsA
  have hsub : ∀ i v, lk (l ++ AM.sl (m1 ++ (s, some b) :: m2)) i = some v → lk ((s.d, .pointer (some ⟨b, 0, none⟩)) :: (l ++ AM.sl (m1 ++ (s, none) :: m2))) i = some v := fun i v e => by
    rw [lk_app] at e
    simp only [lk]
    cases hli : lk l i with
    | some u =>
      rw [hli] at e; simp at e; subst e
      have : Nat.beq s.d i = false := by
        cases hbq : Nat.beq s.d i with
        | false => rfl
        | true => have := Nat.eq_of_beq_eq_true hbq; rw [← this, hln] at hli; cases hli
      rw [this]; exact lk_appL hli
    | none =>
      rw [hli] at e
      rcases AM.made_lk m1 m2 s b i v hnd e with ⟨rfl, rfl⟩ | ⟨hne, h⟩
      · simp
      · have : Nat.beq s.d i = false := by
          cases hbq : Nat.beq s.d i with
          | false => rfl
          | true => exact absurd (Nat.eq_of_beq_eq_true hbq).symm hne
        rw [this, lk_app, hli]; exact h
  have hperm : ([(b, Obj.cells s.z.cells s.T (0, 0))] :: (own ++ AM.ow (m1 ++ (s, none) :: m2))).flatten.Perm (own ++ AM.ow (m1 ++ (s, some b) :: m2)).flatten := by
    refine List.Perm.flatten ?_
    refine List.Perm.trans ?_ ((AM.made_ow m1 m2 s b).symm.append_left own)
    exact List.perm_middle.symm
  refine JN.slots hsub (JN.perm hperm (hK _ _ _ ?_ hJ))
  exact Ze hle (hso.app _)

/-- some of the others may come up, too -/
theorem JAA.many {A : List ASpec} (R : List Nat) {fuel : Nat} {listed : Array Bool} (hA : AOk x ops A) (hle : Hle sH H) (hso : SubO so own) (hf : freeIn l A = true)
    (hr : (allB A.length).all (fun bs => !(Region.ready .any ops (lstB A bs listed)).isEmpty && (Region.ready .any ops (lstB A bs listed)).all (fun k => R.contains k || (undone A bs).contains k)) = true)
    (h : ∀ i ∈ R, JOA x ops Q so sH A fuel listed i l own H) : JAA x ops Q so sH A (fuel + 1) listed l own H := by
  intro m
  obtain ⟨n, hn⟩ : ∃ n, n = m.left := ⟨_, rfl⟩
  induction n using Nat.strongRecOn generalizing m with
  | _ n ih =>
    intro hm hb a w hh
    have hmem : m.bs ∈ allB A.length := by have := allB_mem m.bs; rwa [show m.bs.length = A.length by rw [← hm]; simp [AM.bs]] at this
    have h1 := List.all_eq_true.1 hr _ hmem
    simp only [Bool.and_eq_true] at h1
    have hlst : m.lst listed = lstB A m.bs listed := by rw [AM.lst_eq, hm]
    rw [← hlst] at h1
    rw [show fuel + 1 + m.left = (fuel + m.left) + 1 by omega]
    refine ⟨fun h0 => ?_, fun k hk => ?_⟩
    · rw [h0] at h1; simp at h1
    · have hk2 := List.all_eq_true.1 h1.2 k hk
      simp only [Bool.or_eq_true, List.contains_iff_mem] at hk2
      rcases hk2 with hk2 | hk2
      · exact h k hk2 m hm hb a w hh
      · obtain ⟨f, hf1, hJ⟩ := JOA.make (F := fuel + 1) (listed := listed) (Q := Q) hA hle hso hf hm hb hk2 (fun m' hlt hm' hb' => ih m'.left (by omega) m' rfl hm' hb')
        rw [show fuel + m.left = f by omega]
        exact hJ a w hh
/-- nothing else may come up, as long as one of them is not made -/
def AllA : List ASpec → Nat → (AM → Prop) → Prop
  | [], _, P => P []
  | s :: r, N, P => ∀ b, N ≤ b → AllA r N (fun m => P ((s, some b) :: m))
theorem AllA.at : ∀ {A : List ASpec} {N : Nat} {P : AM → Prop}, AllA A N P → ∀ m : AM, m.map (·.1) = A → m.left = 0 → (∀ p ∈ m, ∀ b, p.2 = some b → N ≤ b) → P m
  | [], _, _, h, [], _, _, _ => h
  | s :: r, N, P, h, (t, some b) :: m, hm, h0, hb => by
    simp only [List.map_cons, List.cons.injEq] at hm
    obtain ⟨rfl, hm⟩ := hm
    exact AllA.at (h b (hb (t, some b) (by simp) b rfl)) m hm h0 (fun p hp => hb p (by simp [hp]))
  | s :: r, N, P, h, (t, none) :: m, hm, h0, hb => by cases h0
theorem left_undone : ∀ (m : AM), m.left ≠ 0 → m.bs.all id = false
  | [], h => absurd rfl h
  | (_, some _) :: r, h => by have := left_undone r h; simpa [AM.bs] using this
  | (_, none) :: r, h => rfl
theorem JAA.all {A : List ASpec} {fuel : Nat} {listed : Array Bool} (hA : AOk x ops A) (hle : Hle sH H) (hso : SubO so own) (hf : freeIn l A = true)
    (hr : (allB A.length).all (fun bs => bs.all id || (!(Region.ready .any ops (lstB A bs listed)).isEmpty && (Region.ready .any ops (lstB A bs listed)).all (fun k => (undone A bs).contains k))) = true)
    (h : AllA A x.w0.heap.size (fun m => JA x ops Q so sH fuel (m.lst listed) (l ++ m.sl) (own ++ m.ow) H)) : JAA x ops Q so sH A fuel listed l own H := by
  intro m
  obtain ⟨n, hn⟩ : ∃ n, n = m.left := ⟨_, rfl⟩
  induction n using Nat.strongRecOn generalizing m with
  | _ n ih =>
    intro hm hb
    by_cases h0 : m.left = 0
    · rw [h0]; exact h.at m hm h0 hb
    intro a w hh
    have hmem : m.bs ∈ allB A.length := by have := allB_mem m.bs; rwa [show m.bs.length = A.length by rw [← hm]; simp [AM.bs]] at this
    have h1 := List.all_eq_true.1 hr _ hmem
    rw [left_undone m h0] at h1
    simp only [Bool.false_or, Bool.and_eq_true] at h1
    have hlst : m.lst listed = lstB A m.bs listed := by rw [AM.lst_eq, hm]
    rw [← hlst] at h1
    obtain ⟨f, hf0⟩ : ∃ f, fuel + m.left = f + 1 := ⟨fuel + m.left - 1, by omega⟩
    rw [hf0]
    refine ⟨fun h0 => ?_, fun k hk => ?_⟩
    · rw [h0] at h1; simp at h1
    · have hk2 := List.all_eq_true.1 h1.2 k hk
      simp only [List.contains_iff_mem] at hk2
      obtain ⟨f', hf1, hJ⟩ := JOA.make (F := fuel) (listed := listed) (Q := Q) hA hle hso hf hm hb hk2 (fun m' hlt hm' hb' => ih m'.left (by omega) m' rfl hm' hb')
      rw [show f = f' by omega]
      exact hJ a w hh

/-- 'l2' is 'l1', and the tail behind it -/
inductive AppL {α : Type} (t : List α) : List α → List α → Prop
  | nil : AppL t [] t
  | cons {a : α} {l1 l2 : List α} (h : AppL t l1 l2) : AppL t (a :: l1) (a :: l2)
theorem AppL.eq {α : Type} {t l1 l2 : List α} (h : AppL t l1 l2) : l2 = l1 ++ t := by
  induction h with
  | nil => rfl
  | cons _ ih => rw [ih]; rfl
theorem guard_app {t : Slots} {g : Option (Nat × Bool)} (h : guardYes ops l g) : guardYes ops (l ++ t) g := by
  cases g with
  | none => trivial
  | some jb => obtain ⟨j, b⟩ := jb; obtain ⟨k, oj, h1, h2, h3⟩ := h; exact ⟨k, oj, h1, h2, lk_appL h3⟩
theorem JOA.step {A : List ASpec} {fuel i : Nat} {listed listed' : Array Bool} {dst : Option Tmp} {op : Op} {ty : TypeId} {pos : String} {aft : Array Edge} {g : Option (Nat × Bool)}
    (ho : ops[i]? = some ⟨dst, op, ty, pos, aft, g⟩) (hg : guardYes ops l g) (hl : listed.setIfInBounds i true = listed')
    (h : ∀ (tl : Slots) (to : List Own) (K : Act → World → Prop), (∀ {l' own' H' l2 own2}, AppL tl l' l2 → AppL to own' own2 → (∀ a w, Holds x l2 own2 H' a w → Stab so sH w) → JAA x ops Q so sH A fuel listed' l' own' H' → JN x K l2 own2 H') →
      JL x ops (fun e a w => match e with | .normal => K a w | e => Q e a w) [⟨dst, op, ty, pos, aft, none⟩] (l ++ tl) (own ++ to) H) :
    JOA x ops Q so sH A fuel listed i l own H := fun m hm hb => by
  refine JO.step ho (guard_app hg) rfl (fun K hK => h m.sl m.ow K (fun {l' own' H' l2 own2} e1 e2 hst hJ => ?_))
  have e1 := e1.eq
  have e2 := e2.eq
  subst e1; subst e2
  refine hK _ _ _ hst ?_
  have := hJ m hm hb
  rw [← hl, ← AM.lst_set] at this
  exact this
theorem Runs.app {op : Op} {ty : TypeId} {v : Value} {t : Slots} (h : Runs x op ty l own H v) : Runs x op ty (l ++ t) own H v := fun ρ w d pos aft g hρ hs => h ρ w d pos aft g (fun o u e => hρ o u (evo_app e)) hs
/-- it may be taken now, whatever was made -/
def TakeA (ops : Array Oper) (A : List ASpec) (listed : Array Bool) (i : Nat) : Bool := (allB A.length).all fun bs => (Region.ready .any ops (lstB A bs listed)).contains i && Region.free .any ops (lstB A bs listed) i
theorem TakeA.take {A : List ASpec} {listed : Array Bool} {i : Nat} (h : TakeA ops A listed i = true) {m : AM} (hm : m.map (·.1) = A) : Take ops (m.lst listed) i (m.lst (listed.setIfInBounds i true)) := by
  have hmem : m.bs ∈ allB A.length := by have := allB_mem m.bs; rwa [show m.bs.length = A.length by rw [← hm]; simp [AM.bs]] at this
  have h1 := List.all_eq_true.1 h _ hmem
  have hlst : m.lst listed = lstB A m.bs listed := by rw [AM.lst_eq, hm]
  rw [← hlst] at h1
  simp only [Bool.and_eq_true] at h1
  exact ⟨h1.1, h1.2, AM.lst_set _ _ _⟩
theorem JAA.val {A : List ASpec} {fuel i d : Nat} {listed listed' : Array Bool} {op : Op} {ty : TypeId} {pos : String} {aft : Array Edge} {g : Option (Nat × Bool)} {v : Value} (hreg : Reg ops) (hc : Calm Q)
    (ho : ops[i]? = some ⟨some d, op, ty, pos, aft, g⟩) (ht : TakeA ops A listed i = true) (hl : listed.setIfInBounds i true = listed') (hg : guardYes ops l g) (hle : Hle sH H) (hso : SubO so own) (hr : Runs x op ty l so sH v) (hd : Nat.blt d x.n = true)
    (h : JAA x ops Q so sH A fuel listed' ((d, v) :: l) own H) : JAA x ops Q so sH A (fuel + 1) listed l own H := fun m hm hb => by
  rw [show fuel + 1 + m.left = (fuel + m.left) + 1 by omega]
  subst hl
  exact JA.val hreg hc ho (TakeA.take ht hm) (guard_app hg) (Ze hle (hso.app _)) hr.app hd (h m hm hb)
theorem JAA.no {A : List ASpec} {fuel i d j t : Nat} {b b' : Bool} {listed listed' : Array Bool} {op : Op} {ty : TypeId} {pos : String} {aft : Array Edge} {oj : Oper} (hreg : Reg ops) (hc : Calm Q)
    (ho : ops[i]? = some ⟨some d, op, ty, pos, aft, some (j, b)⟩) (ht : TakeA ops A listed i = true) (hl : listed.setIfInBounds i true = listed') (hj : ops[j]? = some oj) (htj : oj.dst = some t) (hb : lk l t = some (.bool b')) (hne : (b' == b) = false)
    (hle : Hle sH H) (hso : SubO so own) (hd : Nat.blt d x.n = true)
    (h : JAA x ops Q so sH A fuel listed' ((d, undef) :: l) own H) : JAA x ops Q so sH A (fuel + 1) listed l own H := fun m hm hb' => by
  rw [show fuel + 1 + m.left = (fuel + m.left) + 1 by omega]
  subst hl
  exact JA.no hreg hc ho (TakeA.take ht hm) hj htj (lk_appL hb) hne (Ze hle (hso.app _)) hd (h m hm hb')
theorem JAA.noU {A : List ASpec} {fuel i d j t : Nat} {b : Bool} {listed listed' : Array Bool} {op : Op} {ty : TypeId} {pos : String} {aft : Array Edge} {oj : Oper} (hreg : Reg ops) (hc : Calm Q)
    (ho : ops[i]? = some ⟨some d, op, ty, pos, aft, some (j, b)⟩) (ht : TakeA ops A listed i = true) (hl : listed.setIfInBounds i true = listed') (hj : ops[j]? = some oj) (htj : oj.dst = some t) (hb : lk l t = some undef)
    (hle : Hle sH H) (hso : SubO so own) (hd : Nat.blt d x.n = true)
    (h : JAA x ops Q so sH A fuel listed' ((d, undef) :: l) own H) : JAA x ops Q so sH A (fuel + 1) listed l own H := fun m hm hb' => by
  rw [show fuel + 1 + m.left = (fuel + m.left) + 1 by omega]
  subst hl
  exact JA.noU hreg hc ho (TakeA.take ht hm) hj htj (lk_appL hb) (Ze hle (hso.app _)) hd (h m hm hb')
theorem JAA.gSplit {A : List ASpec} {fuel : Nat} {listed : Array Bool} {t : Nat} {b : Bool} (hb : lk l t = some (.bool b)) (ht : b = true → JAA x ops Q so sH A fuel listed ((t, .bool true) :: l) own H)
    (hf : b = false → JAA x ops Q so sH A fuel listed ((t, .bool false) :: l) own H) : JAA x ops Q so sH A fuel listed l own H := fun m hm hb' =>
  JA.gSplit (lk_appL hb) (fun e => ht e m hm hb') (fun e => hf e m hm hb')
theorem JAA.one {A : List ASpec} {fuel i : Nat} {listed : Array Bool} (hA : AOk x ops A) (hle : Hle sH H) (hso : SubO so own) (hf : freeIn l A = true)
    (hr : (allB A.length).all (fun bs => !(Region.ready .any ops (lstB A bs listed)).isEmpty && (Region.ready .any ops (lstB A bs listed)).all (fun k => [i].contains k || (undone A bs).contains k)) = true)
    (h : JOA x ops Q so sH A fuel listed i l own H) : JAA x ops Q so sH A (fuel + 1) listed l own H := JAA.many [i] hA hle hso hf hr (fun k hk => by simp at hk; subst hk; exact h)
theorem JAA.two {A : List ASpec} {fuel i j : Nat} {listed : Array Bool} (hA : AOk x ops A) (hle : Hle sH H) (hso : SubO so own) (hf : freeIn l A = true)
    (hr : (allB A.length).all (fun bs => !(Region.ready .any ops (lstB A bs listed)).isEmpty && (Region.ready .any ops (lstB A bs listed)).all (fun k => [i, j].contains k || (undone A bs).contains k)) = true)
    (h : JOA x ops Q so sH A fuel listed i l own H) (h' : JOA x ops Q so sH A fuel listed j l own H) : JAA x ops Q so sH A (fuel + 1) listed l own H := JAA.many [i, j] hA hle hso hf hr (fun k hk => by
  simp only [List.mem_cons, List.not_mem_nil, or_false] at hk
  rcases hk with rfl | rfl
  · exact h
  · exact h')
end Go.Ow

/-
  What is proved here: a range over a function whose assignments make cells; over OwZH.
-/
namespace Go.Ow
open Go.RowKit
set_option linter.unusedVariables false
set_option linter.unusedSimpArgs false
variable {x : Cx} {ops : Array Oper} {Q : Exit → Act → World → Prop} {rest : List Oper} {l : Slots} {own : List Own} {H HF : Heaplet}
variable {ty : TypeId} {d : Nat} {pos : String} {aft : Array Edge}

end Go.Ow

/-
  What is proved here: a region whose order Go leaves open, again: what is known of it is said once; a segment that is turned later may be read by what comes ahead of that.
-/
namespace Go.Ow
open Go.RowKit
set_option linter.unusedVariables false
set_option linter.unusedSimpArgs false

section orders
variable {F : Fence} {n : Nat} {P : Program} {md : Region.Mode} {ops : Array Oper} {Q : Exit → Act → World → Prop} {S : Array Bool → World → Prop}
/-- whatever order: behind each operation S holds, of what is done so far -/
def wpAT (F : Fence) (n : Nat) (P : Program) (md : Region.Mode) (ops : Array Oper) (Q : Exit → Act → World → Prop) (S : Array Bool → World → Prop) : Nat → Array Bool → Act → World → Prop
  | 0, listed, a, w => Region.ready md ops listed = [] ∧ Q .normal a w
  | fuel + 1, listed, a, w => (Region.ready md ops listed = [] → Q .normal a w) ∧
    ∀ i ∈ Region.ready md ops listed, wpOpIn F n P ops Q i (fun a' w' => S (listed.setIfInBounds i true) w' ∧ wpAT F n P md ops Q S fuel (listed.setIfInBounds i true) a' w') a w
theorem wpAT_sound : ∀ (fuel : Nat) (listed : Array Bool) (a : Act) (w : World), wpAT F n P md ops Q S fuel listed a w → wpAnyIn F n P md ops Q fuel listed a w
  | 0, _, _, _, h => h
  | fuel + 1, listed, a, w, h => ⟨h.1, fun i hi => wpOpIn_mono (fun a' w' h' => wpAT_sound fuel _ a' w' h'.2) (h.2 i hi)⟩
/-- D hangs on i: none of it comes up while i is not done -/
def hangs (md : Region.Mode) (ops : Array Oper) (i : Nat) (D : List Nat) (listed : Array Bool) : Bool :=
  D.all fun d => !listed.getD d true && (match ops[d]? with | none => false | some o => o.after.any fun e => Region.binds md e && (e.on == i || D.contains e.on))
theorem wpAT_first (hF : ∀ f, F.fn f) {i : Nat} {oi : Oper} {v : Value} (hi : ops[i]? = some oi) (hsel : ∀ (j : Nat) (o : Oper) cs b, ops[j]? = some o → o.op ≠ .select cs b)
    (hdef : ∀ (j : Nat) (o : Oper), ops[j]? = some o → noDefer o.op = true) (hQ : ∀ c a w, Q (.panic c) (a.put oi.dst v) w → Q (.panic c) a w) (hmono : ∀ L j w, S L w → S (L.setIfInBounds j true) w)
    (hskip : ∀ L w, S (L.setIfInBounds i true) w → S L w) {D : List Nat} {T : World → Prop} (hT : ∀ L w, (∀ d ∈ D, L.getD d true = false) → S L w → T w) :
    ∀ (fuel : Nat) (listed : Array Bool) (a : Act) (w : World),
      (∀ j oj, ops[j]? = some oj → j ≠ i → listed.getD j true = false → (∀ e ∈ oj.after, Region.binds md e = true → e.on ≠ i) → oi.apart ops oj = true) →
      hangs md ops i D listed = true →
      i ∈ Region.ready md ops listed → YieldsS P ops T oi v a → S listed w →
      wpAT F n P md ops Q S fuel (listed.setIfInBounds i true) (a.put oi.dst v) w → wpAT F n P md ops Q S (fuel + 1) listed a w := by
  have hDs : ∀ {listed : Array Bool}, hangs md ops i D listed = true → ∀ d ∈ D, listed.getD d true = false := fun h d hd => by
    have := List.all_eq_true.1 h d hd
    rw [Bool.and_eq_true] at this
    simpa using this.1
  intro fuel
  induction fuel with
  | zero =>
    intro listed a w _ hD hr hy hS H
    refine ⟨fun h => (by rw [h] at hr; cases hr), fun j hj => ?_⟩
    by_cases hji : j = i
    · subst hji; exact hy.op hF hi (hdef _ _ hi) (hT _ _ (hDs hD) hS) ⟨hmono _ _ _ hS, H⟩
    · have := ready_mono hj hji
      rw [H.1] at this
      cases this
  | succ fuel ih =>
    intro listed a w hfree hD hr hy hS H
    refine ⟨fun h => (by rw [h] at hr; cases hr), fun j hj => ?_⟩
    by_cases hji : j = i
    · subst hji; exact hy.op hF hi (hdef _ _ hi) (hT _ _ (hDs hD) hS) ⟨hmono _ _ _ hS, H⟩
    · have h1 := H.2 j (ready_mono hj hji)
      obtain ⟨hjun, oj, hoj, hall⟩ := mem_ready.1 hj
      have h0 := (mem_ready.1 hr).1
      have hnot : ∀ e ∈ oj.after, Region.binds md e = true → e.on ≠ i := fun e he hb heq => by
        have h1 := hall e he hb
        rw [heq] at h1
        rcases Nat.lt_or_ge i listed.size with h' | h'
        · simp [h'] at h0 h1; rw [h0] at h1; cases h1
        · simp [Array.getElem?_eq_none h'] at h1
      have hjD : j ∉ D := fun hjD => by
        have := List.all_eq_true.1 hD j hjD
        rw [Bool.and_eq_true, hoj] at this
        obtain ⟨e, he, hb⟩ := Array.any_eq_true'.1 this.2
        rw [Bool.and_eq_true, Bool.or_eq_true] at hb
        rcases hb.2 with h | h
        · exact hnot e he hb.1 (by simpa using h)
        · have h2 := hDs hD e.on (by simpa using h)
          have h3 := hall e he hb.1
          rcases Nat.lt_or_ge e.on listed.size with h' | h'
          · simp [h'] at h2 h3; rw [h2] at h3; cases h3
          · simp [Array.getElem?_eq_none h'] at h3
      have hD' : hangs md ops i D (listed.setIfInBounds j true) = true := List.all_eq_true.2 fun d hd => by
        have := List.all_eq_true.1 hD d hd
        rw [getD_set_ne true (fun e => hjD (by rw [e]; exact hd))]; exact this
      have h2 := wpOpIn_putS (S := T) hF hoj (hfree j oj hoj hji hjun hnot) (fun cs b => hsel i oi cs b hi) (fun cs b => hsel j oj cs b hoj) (hdef j oj hoj) hQ hy h1
      have hfree' : ∀ k ok, ops[k]? = some ok → k ≠ i → (listed.setIfInBounds j true).getD k true = false →
          (∀ e ∈ ok.after, Region.binds md e = true → e.on ≠ i) → oi.apart ops ok = true := fun k ok hk hki hun hno => by
        refine hfree k ok hk hki ?_ hno
        by_cases hjk : j = k
        · subst hjk; exact hjun
        · rw [getD_set_ne true hjk] at hun; exact hun
      refine wpOpIn_mono (fun a' w' h3 => ?_) h2
      have hS' : S (listed.setIfInBounds j true) w' := hskip _ _ (by rw [Array.setIfInBounds_comm _ _ hji]; exact h3.2.1)
      refine ⟨hS', ih (listed.setIfInBounds j true) a' w' hfree' hD' (ready_mono hr (Ne.symm hji)) h3.1 hS' ?_⟩
      rw [Array.setIfInBounds_comm _ _ hji]
      exact h3.2.2
end orders

/-! ### The same from a state -/
variable {x : Cx} {ops : Array Oper} {K : Act → World → Prop} {l : Slots} {own : List Own} {H : Heaplet}

/-- the segments, each with what turns it -/
abbrev Segs := List (Own × List Nat)
def SB (so : Segs) (sH : Heaplet) (L : Array Bool) (w : World) : Prop := Agrees sH w ∧ ∀ x ∈ so, (∃ t ∈ x.2, L.getD t true = true) ∨ ∀ p ∈ x.1, w.heap[p.1]? = some p.2
theorem SB.mono {so : Segs} {sH : Heaplet} {L : Array Bool} {w : World} (j : Nat) (h : SB so sH L w) : SB so sH (L.setIfInBounds j true) w := by
  refine ⟨h.1, fun x hx => (h.2 x hx).imp (fun ⟨t, ht, e⟩ => ⟨t, ht, ?_⟩) id⟩
  by_cases c : j = t
  · subst c
    rcases Nat.lt_or_ge j L.size with h' | h'
    · simp [h']
    · simp [Array.getElem?_eq_none h']
  · rw [getD_set_ne true c]; exact e
def noTurn (so : Segs) (i : Nat) : Bool := so.all fun x => !x.2.contains i
theorem SB.skip {so : Segs} {sH : Heaplet} {i : Nat} (hn : noTurn so i = true) {L : Array Bool} {w : World} (h : SB so sH (L.setIfInBounds i true) w) : SB so sH L w := by
  refine ⟨h.1, fun x hx => (h.2 x hx).imp (fun ⟨t, ht, e⟩ => ⟨t, ht, ?_⟩) id⟩
  have := List.all_eq_true.1 hn x hx
  have hne : i ≠ t := fun c => by subst c; simp at this; exact this ht
  rw [getD_set_ne true hne] at e; exact e
/-- the segments that stand as long as none of D is done -/
def segsOf (D : List Nat) : Segs → List Own
  | [] => []
  | x :: q => cond (x.2.all fun t => D.contains t) (x.1 :: segsOf D q) (segsOf D q)
theorem SB.stab {so : Segs} {sH : Heaplet} {D : List Nat} {L : Array Bool} {w : World} (hD : ∀ d ∈ D, L.getD d true = false) (h : SB so sH L w) : Stab (segsOf D so) sH w := by
  refine ⟨h.1, ?_⟩
  have h2 := h.2
  clear h
  induction so with
  | nil => intro p hp; simp [segsOf] at hp
  | cons y q ih =>
    have ihq := ih (fun x hx => h2 x (List.mem_cons_of_mem _ hx))
    intro p hp
    unfold segsOf at hp
    cases e : (y.2.all fun t => D.contains t) with
    | false => rw [e, cond_false] at hp; exact ihq p hp
    | true =>
      rw [e, cond_true, List.flatten_cons, List.mem_append] at hp
      rcases hp with hp | hp
      · rcases h2 y (List.mem_cons_self ..) with ⟨t, ht, e2⟩ | h3
        · have := List.all_eq_true.1 e t ht
          rw [hD t (by simpa using this)] at e2; cases e2
        · exact h3 p hp
      · exact ihq p hp
/-- what is kept now -/
def Kept' : Segs → Array Bool → List Own → Prop
  | [], _, _ => True
  | x :: q, L, own => ((x.2.any fun t => L.getD t true) = true ∨ ∃ i : Nat, own[i]? = some x.1) ∧ Kept' q L own
theorem Kept'.sb {so : Segs} {sH : Heaplet} {L : Array Bool} (hle : Hle sH H) (hk : Kept' so L own) {a : Act} {w : World} (hh : Holds x l own H a w) : SB so sH L w := by
  refine ⟨hh.mem.agr.le hle, ?_⟩
  induction so with
  | nil => intro y hy; cases hy
  | cons z q ih =>
    intro y hy
    rcases List.mem_cons.1 hy with rfl | hy
    · rcases hk.1 with h | ⟨i, hi⟩
      · obtain ⟨t, ht, e⟩ := List.any_eq_true.1 h; exact .inl ⟨t, ht, e⟩
      · exact .inr fun p hp => hh.mem.ok.here p (List.mem_flatten.2 ⟨_, List.mem_of_getElem? hi, hp⟩)
    · exact ih hk.2 y hy
theorem Kept'.mono {so : Segs} {L : Array Bool} (j : Nat) (hk : Kept' so L own) : Kept' so (L.setIfInBounds j true) own := by
  induction so with
  | nil => trivial
  | cons z q ih =>
    refine ⟨hk.1.imp (fun h => ?_) id, ih hk.2⟩
    obtain ⟨t, ht, e⟩ := List.any_eq_true.1 h
    refine List.any_eq_true.2 ⟨t, ht, ?_⟩
    by_cases c : j = t
    · subst c
      rcases Nat.lt_or_ge j L.size with h' | h'
      · simp [h']
      · simp [Array.getElem?_eq_none h']
    · rw [getD_set_ne true c]; exact e

theorem kept0 {so : Segs} {L : Array Bool} (ps : List Nat) (h : ps.map (fun i => own[i]?) = so.map fun x => some x.1) : Kept' so L own := by
  induction so generalizing ps with
  | nil => trivial
  | cons z q ih =>
    cases ps with
    | nil => cases h
    | cons p ps =>
      simp only [List.map_cons, List.cons.injEq] at h
      exact ⟨.inr ⟨p, h.1⟩, ih ps h.2⟩
def picked (own : List Own) : List Bool → List Nat → List (Option Own)
  | b :: bs, p :: ps => cond b none own[p]? :: picked own bs ps
  | _, _ => []
def wanted' : List Bool → Segs → List (Option Own)
  | b :: bs, x :: q => cond b none (some x.1) :: wanted' bs q
  | _, _ => []
theorem kept1 {so : Segs} {L : Array Bool} (bs : List Bool) (ps : List Nat) (h1 : so.map (fun x => x.2.any fun t => L.getD t true) = bs) (h : picked own bs ps = wanted' bs so) : Kept' so L own := by
  induction so generalizing ps bs with
  | nil => trivial
  | cons z q ih =>
    subst h1
    cases ps with
    | nil => cases h
    | cons p ps =>
      simp only [List.map_cons, picked, wanted', List.cons.injEq] at h
      refine ⟨?_, ih _ ps rfl h.2⟩
      cases e : (z.2.any fun t => L.getD t true) with
      | true => exact .inl rfl
      | false =>
        have h2 := h.1
        rw [e] at h2
        exact .inr ⟨p, h2⟩
def JB (x : Cx) (ops : Array Oper) (K : Act → World → Prop) (so : Segs) (sH : Heaplet) (fuel : Nat) (listed : Array Bool) (l : Slots) (own : List Own) (H : Heaplet) : Prop :=
  Reg ops → Hle sH H → Kept' so listed own → ∀ a w, Holds x l own H a w → wpAT (Fw x.r) 0 x.P .any ops (onlyN K) (SB so sH) fuel listed a w
def JOB (x : Cx) (ops : Array Oper) (K : Act → World → Prop) (so : Segs) (sH : Heaplet) (fuel : Nat) (listed : Array Bool) (i : Nat) (l : Slots) (own : List Own) (H : Heaplet) : Prop :=
  Reg ops → Hle sH H → Kept' so listed own → ∀ a w, Holds x l own H a w →
    wpOpIn (Fw x.r) 0 x.P ops (onlyN K) i (fun a' w' => SB so sH (listed.setIfInBounds i true) w' ∧ wpAT (Fw x.r) 0 x.P .any ops (onlyN K) (SB so sH) fuel (listed.setIfInBounds i true) a' w') a w
theorem JC.drawB {Q : Exit → Act → World → Prop} {so : Segs} (N : Nat) {id : Nat} (hN : ops.size = N) (hm : x.P.follows .mixedOrders = true) (hreg : Reg ops) (hk : Kept' so (Array.replicate N false) own)
    (h : JB x ops (Q .normal) so H N (Array.replicate N false) l own H) : JC x (.region id ops true) Q l own H := fun a w hh => by
  subst hN
  refine wpIn_mono (Q := onlyN (Q .normal)) (wpIn_region_any hm (wpAT_sound _ _ _ _ (h hreg (Hle.refl _) hk a w.drew ⟨hh.size, hh.ds, hh.slots, hh.mem.drew⟩))) ?_
  intro e a w hq
  cases e with
  | normal => exact hq
  | exit id => exact hq.elim
  | goto t => exact hq.elim
  | ret => exact hq.elim
  | panic c => exact hq.elim
  | outgrown => exact hq.elim
section
variable {so : Segs} {sH : Heaplet} {fuel i d : Nat} {listed listed' : Array Bool} {op : Op} {ty : TypeId} {pos : String} {aft : Array Edge} {g : Option (Nat × Bool)} {v : Value}
theorem JB.val (D : List Nat) (ho : ops[i]? = some ⟨some d, op, ty, pos, aft, g⟩) (hr : Runs x op ty l (segsOf D so) sH v)
    (h : JB x ops K so sH fuel listed' ((d, v) :: l) own H)
    (ht : Take ops listed i listed' := by exact ⟨by kernel_rfl, by kernel_rfl, rfl⟩) (hg : guardYes ops l g := by first | exact trivial | exact ⟨_, _, rfl, rfl, rfl⟩)
    (hD : hangs .any ops i D listed = true := by kernel_rfl) (hn : noTurn so i = true := by rfl) (hd : Nat.blt d x.n = true := by rfl) :
    JB x ops K so sH (fuel + 1) listed l own H := fun hreg hle hk a w hh => by
  have hl := ht.nxt
  subst hl
  exact wpAT_first (fun _ => trivial) ho (Region.noSelect_spec hreg.sel) hreg.noDefer (fun c a' w' h' => h') (fun _ j _ h => h.mono j) (fun _ _ h => h.skip hn) (D := D) (T := Stab (segsOf D so) sH) (fun _ _ hD h => h.stab hD)
    fuel listed a w (Region.free_spec ho ht.free) hD (by simpa using ht.rdy)
    (.inl ⟨wanted_yes hh hg, fun w' hw' => hr a.eval w' (some d) pos aft g (fun o u e => eval_of hh e) hw'⟩) (hk.sb hle hh) (h hreg hle (hk.mono i) _ _ (hh.put hd v))
theorem JB.no {j t : Nat} {b b' : Bool} {oj : Oper} (ho : ops[i]? = some ⟨some d, op, ty, pos, aft, some (j, b)⟩) (hj : ops[j]? = some oj) (htj : oj.dst = some t) (hb : lk l t = some (.bool b')) (hne : (b' == b) = false)
    (h : JB x ops K so sH fuel listed' ((d, undef) :: l) own H)
    (ht : Take ops listed i listed' := by exact ⟨by kernel_rfl, by kernel_rfl, rfl⟩) (hn : noTurn so i = true := by rfl) (hd : Nat.blt d x.n = true := by rfl) :
    JB x ops K so sH (fuel + 1) listed l own H := fun hreg hle hk a w hh => by
  have hl := ht.nxt
  subst hl
  have hw : Region.wanted ⟨some d, op, ty, pos, aft, some (j, b)⟩ (yielded ops a.tmps) = false := by
    simp only [Region.wanted, yielded, hj, Option.bind_some, htj]
    have := hh.slots t _ hb
    cases hs : a.tmps[t]? with
    | none => simp [hs, undef] at this
    | some u => simp [hs] at this; subst this; simpa using hne
  exact wpAT_first (fun _ => trivial) ho (Region.noSelect_spec hreg.sel) hreg.noDefer (fun c a' w' h' => h') (fun _ j _ h => h.mono j) (fun _ _ h => h.skip hn) (D := []) (T := fun _ => True) (fun _ _ _ _ => trivial)
    fuel listed a w (Region.free_spec ho ht.free) rfl (by simpa using ht.rdy) (.inr ⟨hw, rfl⟩) (hk.sb hle hh) (h hreg hle (hk.mono i) _ _ (hh.put hd undef))
theorem JB.noU {j t : Nat} {b : Bool} {oj : Oper} (ho : ops[i]? = some ⟨some d, op, ty, pos, aft, some (j, b)⟩) (hj : ops[j]? = some oj) (htj : oj.dst = some t) (hb : lk l t = some undef)
    (h : JB x ops K so sH fuel listed' ((d, undef) :: l) own H)
    (ht : Take ops listed i listed' := by exact ⟨by kernel_rfl, by kernel_rfl, rfl⟩) (hn : noTurn so i = true := by rfl) (hd : Nat.blt d x.n = true := by rfl) :
    JB x ops K so sH (fuel + 1) listed l own H := fun hreg hle hk a w hh => by
  have hl := ht.nxt
  subst hl
  have hw : Region.wanted ⟨some d, op, ty, pos, aft, some (j, b)⟩ (yielded ops a.tmps) = false := by
    simp only [Region.wanted, yielded, hj, Option.bind_some, htj]
    have := hh.slots t _ hb
    cases hs : a.tmps[t]? with
    | none => simp
    | some u => simp [hs] at this; subst this; simp [undef]
  exact wpAT_first (fun _ => trivial) ho (Region.noSelect_spec hreg.sel) hreg.noDefer (fun c a' w' h' => h') (fun _ j _ h => h.mono j) (fun _ _ h => h.skip hn) (D := []) (T := fun _ => True) (fun _ _ _ _ => trivial)
    fuel listed a w (Region.free_spec ho ht.free) rfl (by simpa using ht.rdy) (.inr ⟨hw, rfl⟩) (hk.sb hle hh) (h hreg hle (hk.mono i) _ _ (hh.put hd undef))
theorem JB.doneN (hr : Region.ready .any ops listed = []) (h : JN x K l own H) : JB x ops K so sH fuel listed l own H := fun _ _ _ a w hh => by
  cases fuel with
  | zero => exact ⟨hr, h a w hh⟩
  | succ fuel => exact ⟨fun _ => h a w hh, by rw [hr]; simp⟩
theorem JB.one (hr : Region.ready .any ops listed = [i]) (h1 : JOB x ops K so sH fuel listed i l own H) : JB x ops K so sH (fuel + 1) listed l own H := fun hreg hle hk a w hh => by
  refine ⟨fun h0 => (by rw [hr] at h0; cases h0), fun k hk' => ?_⟩
  rw [hr] at hk'; simp at hk'; subst hk'; exact h1 hreg hle hk a w hh
theorem JB.two {j : Nat} (hr : Region.ready .any ops listed = [i, j]) (h1 : JOB x ops K so sH fuel listed i l own H) (h2 : JOB x ops K so sH fuel listed j l own H) :
    JB x ops K so sH (fuel + 1) listed l own H := fun hreg hle hk a w hh => by
  refine ⟨fun h0 => (by rw [hr] at h0; cases h0), fun k hk' => ?_⟩
  rw [hr] at hk'; simp at hk'; rcases hk' with rfl | rfl
  · exact h1 hreg hle hk a w hh
  · exact h2 hreg hle hk a w hh
theorem JOB.step {dst : Option Tmp} (ho : ops[i]? = some ⟨dst, op, ty, pos, aft, g⟩) (hg : guardYes ops l g) (hl : listed.setIfInBounds i true = listed')
    (h : ∀ K' : Act → World → Prop, (∀ l' own' H', Hle sH H' → Kept' so listed' own' → JB x ops K so sH fuel listed' l' own' H' → JN x K' l' own' H') →
      JL x ops (fun e a w => match e with | .normal => K' a w | e => onlyN K e a w) [⟨dst, op, ty, pos, aft, none⟩] l own H) :
    JOB x ops K so sH fuel listed i l own H := fun hreg hle hk a w hh => by
  subst hl
  have := h (fun a' w' => SB so sH (listed.setIfInBounds i true) w' ∧ wpAT (Fw x.r) 0 x.P .any ops (onlyN K) (SB so sH) fuel (listed.setIfInBounds i true) a' w')
    (fun l' own' H' hle' hk' hJ a' w' hh' => ⟨hk'.sb hle' hh', hJ hreg hle' hk' a' w' hh'⟩) a w hh
  simp only [wpLs, wanted_none, if_true] at this
  unfold wpOpIn
  simp only [ho]
  rw [if_pos (wanted_yes hh hg)]
  refine ⟨fun _ _ => trivial, ?_⟩
  have h2 := this.2
  have es : ∀ (ρ : Operand → Value), Oper.semAt (Fw x.r).round ρ ⟨dst, op, ty, pos, aft, g⟩ = Oper.semAt (Fw x.r).round ρ ⟨dst, op, ty, pos, aft, none⟩ := fun ρ => by
    unfold Oper.semAt; cases (Fw x.r).round <;> cases op <;> rfl
  rw [es]
  generalize (Oper.semAt (Fw x.r).round a.eval ⟨dst, op, ty, pos, aft, none⟩).run x.P w = r at *
  cases r with
  | ok y w' =>
    cases y <;> simp only [Oper.uponIn] at h2 ⊢ <;> first | exact h2 | exact ⟨h2.1, CallsIn.mono h2.2 (fun e w'' he => by cases e <;> exact he)⟩ | exact ⟨h2.1, RoundIn.mono h2.2 (fun e w'' he => by cases e <;> exact he)⟩
  | halt y w' => cases y <;> simp only [Oper.uponIn] at h2 ⊢ <;> exact h2
theorem JB.gSplit {t : Nat} {b : Bool} (hb : lk l t = some (.bool b)) (ht : b = true → JB x ops K so sH fuel listed ((t, .bool true) :: l) own H)
    (hf : b = false → JB x ops K so sH fuel listed ((t, .bool false) :: l) own H) : JB x ops K so sH fuel listed l own H := fun hreg hle hk a w hh => by
  cases b with
  | true => exact ht rfl hreg hle hk a w (hh.set hb rfl)
  | false => exact hf rfl hreg hle hk a w (hh.set hb rfl)
end
end Go.Ow

/- plain functions: what the code computes. -/
namespace Go.Ow
set_option linter.unusedVariables false
set_option linter.unusedSimpArgs false

def code_sized (p_1 : Int) : Option Bool :=
  Option.bind (cond (decide (0 < p_1)) (some (decide (p_1 ≤ 4))) (some false)) (fun t_2 => some t_2)

def code_Put_l1 (p_2 : Int) (s_13 : Int × List UInt8) : Option ((Int × List UInt8) ⊕ (List UInt8)) :=
  cond (decide ((s_13.2.length : Int) < p_2)) (app s_13.2 ([u8i s_13.1]) fun q_19 => some (.inl (w64 (s_13.1.tdiv 256), q_19))) (some (.inr s_13.2))

def code_Put (p_1 : Int) (p_2 : Int) : Option (List UInt8 × Int) :=
  Option.bind (code_sized p_2) fun x_3 => cond (!x_3) (some (([] : List UInt8), 2)) (cond (decide (p_1 < 0)) (some (([] : List UInt8), 2)) (chk (0 ≤ (w64 (8 * p_2))) <| cond (decide ((sli 1 (w64 (8 * p_2))) ≤ p_1)) (some (([] : List UInt8), 2)) (Option.bind (loop (code_Put_l1 p_2) (p_1, ([] : List UInt8))) (fun t_10 => some (t_10, 0)))))

def slices_Clone_byte (p_1 : List UInt8) : Option (List UInt8) := app [] p_1 fun q => some q

def slices_Clip_byte (p_1 : List UInt8) : Option (List UInt8) :=
  slc p_1 0 (p_1.length : Int) fun m_3 => some m_3

def slices_Chunk_byte (p_1 : List UInt8) (p_2 : Int) : Option Unit := if 1 ≤ p_2 ∧ p_2 ≤ 1099511627776 ∧ p_1.length ≤ LIM then some () else none

def slices_Backward_byte (p_1 : List UInt8) : Option Unit := some ()

def code_Get_r1 (y_28 : Nat × UInt8) (s_27 : Int) : Option (Int ⊕ Unit) :=
  some (.inl (w64 ((w64 (256 * s_27)) + (y_28.2.toNat : Int))))

def code_Get (p_1 : List UInt8) (p_3 : Int) (p_4 : Int) : Option (Int × Int) :=
  Option.bind (code_sized p_4) fun x_5 => Option.bind (cond (!x_5) (some true) (cond (decide (p_3 < 0)) (some true) (some (decide ((p_1.length : Int) < p_3))))) (fun t_8 => cond t_8 (some (0, 2)) (cond (decide ((p_1.length : Int) < (w64 (p_3 + p_4)))) (some (0, 8)) (slc p_1 p_3 (w64 (p_3 + p_4)) fun m_16 => Option.bind (slices_Backward_byte m_16) fun x_20 => Option.bind (forL code_Get_r1 (bwd m_16 m_16.length) 0) (fun t_24 => Sum.elim (fun s_27 => some (s_27, 0)) (fun _ => none) t_24))))

def mix_number (p_1 : List UInt8) : Option UInt32 :=
  Option.bind (code_Get p_1 0 4) fun x_3 => some (u32i x_3.1)

def math_bits_RotateLeft32 (p_1 : UInt32) (p_2 : Int) : Option UInt32 :=
  some ((sl32 p_1 ((((u64i p_2) &&& (31 : UInt64)).toNat : Int)).toNat) ||| (sr32 p_1 ((((32 : UInt64) - ((u64i p_2) &&& (31 : UInt64))).toNat : Int)).toNat))

def mix_words_turned_1 (p_1 : Int) (p_2 : Int) (p_4 : A4 UInt32) : Option (A4 UInt32) :=
  Option.bind (math_bits_RotateLeft32 (p_4.e3 ^^^ (p_4.e0 + p_4.e1)) p_1) fun x_5 => Option.bind (math_bits_RotateLeft32 (p_4.e1 ^^^ (p_4.e2 + x_5)) p_2) fun x_8 => some (A4.mk (p_4.e0 + p_4.e1) x_8 (p_4.e2 + x_5) x_5)

def mix_words_turned (p_1 : A4 UInt32) : Option (A4 UInt32) :=
  Option.bind (mix_words_turned_1 15 11 p_1) fun x_4 => Option.bind (mix_words_turned_1 9 6 x_4) fun x_7 => some x_7

def mix_words_often_l1 (p_2 : Int) (s_8 : UInt32 × UInt32 × UInt32 × UInt32 × Int) : Option ((UInt32 × UInt32 × UInt32 × UInt32 × Int) ⊕ (UInt32 × UInt32 × UInt32 × UInt32)) :=
  cond (decide (s_8.2.2.2.2 < p_2)) (Option.bind (mix_words_turned (A4.mk s_8.1 s_8.2.1 s_8.2.2.1 s_8.2.2.2.1)) fun x_12 => some (.inl (x_12.e0, x_12.e1, x_12.e2, x_12.e3, w64 (s_8.2.2.2.2 + 1)))) (some (.inr (s_8.1, s_8.2.1, s_8.2.2.1, s_8.2.2.2.1)))

def mix_words_often (p_1 : A4 UInt32) (p_2 : Int) : Option (A4 UInt32) :=
  Option.bind (loop (mix_words_often_l1 p_2) (p_1.e0, p_1.e1, p_1.e2, p_1.e3, 0)) (fun t_5 => some (A4.mk t_5.1 t_5.2.1 t_5.2.2.1 t_5.2.2.2))

def mix_four_r2 (y_36 : List UInt8) (s_35 : UInt32 × UInt32 × UInt32 × UInt32) : Option ((UInt32 × UInt32 × UInt32 × UInt32) ⊕ Unit) :=
  Option.bind (slc y_36 0 4 fun m_45 => Option.bind (mix_number m_45) fun x_49 => some (s_35.1 ^^^ x_49)) (fun t_42 => slc y_36 4 (y_36.length : Int) fun m_56 => Option.bind (mix_number m_56) fun x_60 => Option.bind (mix_words_often (A4.mk t_42 s_35.2.1 (s_35.2.2.1 ^^^ x_60) s_35.2.2.2) 4) fun x_63 => some (.inl (x_63.e0, x_63.e1, x_63.e2, x_63.e3)))

def mix_four_l1 (s_22 : List UInt8) : Option ((List UInt8) ⊕ (List UInt8)) :=
  cond (!decide (((s_22.length : Int).tmod 8) = 0)) (app s_22 ([(0 : UInt8)]) fun q_28 => some (.inl q_28)) (some (.inr s_22))

def mix_four (p_1 : List UInt8) : Option (A4 UInt32) :=
  Option.bind (slices_Clone_byte p_1) fun x_5 => Option.bind (slices_Clip_byte x_5) fun x_10 => app x_10 ([(1 : UInt8)]) fun q_15 => Option.bind (loop mix_four_l1 q_15) (fun t_19 => Option.bind (slices_Chunk_byte t_19 8) fun x_28 => Option.bind (forL mix_four_r2 (chunks (8 : Int).toNat t_19.length t_19) ((1 : UInt32), (2 : UInt32), (3 : UInt32), (4 : UInt32))) (fun t_32 => Sum.elim (fun s_35 => Option.bind (mix_words_often (A4.mk s_35.1 (s_35.2.1 ^^^ (u32i (p_1.length : Int))) s_35.2.2.1 s_35.2.2.2) 8) fun x_42 => some x_42) (fun _ => none) t_32))

def mix_Sum (p_1 : List UInt8) : Option UInt32 :=
  Option.bind (mix_four p_1) fun x_3 => some x_3.e0

end Go.Ow

/- that new memory's bytes do not matter to bytes.Repeat. -/
namespace Go.Ow
set_option linter.unusedVariables false
set_option linter.unusedSimpArgs false

end Go.Ow

/- plain functions: what the code computes. -/
namespace Go.Ow
set_option linter.unusedVariables false
set_option linter.unusedSimpArgs false

end Go.Ow

/- plain functions: what the code computes. -/
namespace Go.Ow
set_option linter.unusedVariables false
set_option linter.unusedSimpArgs false

def cmp_isNaN_int (p_1 : Int) : Option Bool :=
  some (!decide (p_1 = p_1))

def cmp_Compare_int (p_1 : Int) (p_2 : Int) : Option Int :=
  Option.bind (cmp_isNaN_int p_1) fun x_3 => Option.bind (cmp_isNaN_int p_2) fun x_6 => cond x_3 (cond x_6 (some 0) (some (-1))) (cond x_6 (some 1) (cond (decide (p_1 < p_2)) (some (-1)) (cond (decide (p_2 < p_1)) (some 1) (some 0))))

end Go.Ow

/- plain functions: what the code computes. -/
namespace Go.Ow
set_option linter.unusedVariables false
set_option linter.unusedSimpArgs false

end Go.Ow

/- plain functions: what the code computes. -/
namespace Go.Ow
set_option linter.unusedVariables false
set_option linter.unusedSimpArgs false

def ref01_Room_b (rec_0 : Int → Option Int) (p_1 : Int) : Option Int :=
  cond (decide (p_1 = 0)) (some 1) (Option.bind (rec_0 (w64 (p_1 - 1))) fun x_3 => some (w64 (256 * x_3)))

def ref01_Room_n : Nat → Int → Option Int
  | 0, _ => none
  | n + 1, p_1 => ref01_Room_b (ref01_Room_n n) p_1

def ref01_Room (p_1 : Int) : Option Int := ref01_Room_n FUEL p_1

def ref01_Bytes_l1 (p_1 : Int) (p_2 : Int) (s_10 : List UInt8 × Int) : Option ((List UInt8 × Int) ⊕ (List UInt8)) :=
  cond (decide (s_10.2 < p_2)) (Option.bind (ref01_Room s_10.2) fun x_15 => chk (x_15 ≠ 0) <| chk (0 ≤ s_10.2 ∧ s_10.2.toNat < s_10.1.length) <| setI s_10.1 s_10.2 (u8i ((w64 (p_1.tdiv x_15)).tmod 256)) fun m_23 => some (.inl (m_23, w64 (s_10.2 + 1)))) (some (.inr s_10.1))

def ref01_Bytes (p_1 : Int) (p_2 : Int) : Option (List UInt8) :=
  mks p_2 (0 : UInt8) fun x_5 => Option.bind (loop (ref01_Bytes_l1 p_1 p_2) (x_5, 0)) (fun t_7 => some t_7)

end Go.Ow

/- plain functions: what the code computes. -/
namespace Go.Ow
set_option linter.unusedVariables false
set_option linter.unusedSimpArgs false

def ref29_Great_l1 (p_1 : Stream) (s_9 : Nat) : Option (Nat ⊕ (Unit ⊕ Unit)) :=
  cond (decide (((s_9 : Nat) : Int) < (p_1.Parts.length : Int))) (cond (decide (((s_9 : Nat) : Int) < 400)) (idx p_1.Parts ((s_9 : Nat) : Int) fun y_14 => cond (decide (1000 < (y_14.Data.length : Int))) (some (.inr (.inr ()))) (some (.inl (s_9 + 1)))) (some (.inr (.inl ())))) (some (.inr (.inl ())))

def ref29_Great (p_1 : Stream) : Option Bool :=
  Option.bind (loop (ref29_Great_l1 p_1) 0) (fun t_6 => Sum.elim (fun t_6a => Option.bind (cond (decide (400 < (p_1.Parts.length : Int))) (some true) (cond (decide (1000 < (p_1.Key.length : Int))) (some true) (some (decide (1000 < (p_1.Sign.length : Int)))))) (fun t_12 => some t_12)) (fun t_6b => some true) t_6)

def send_place (p_1 : Part) : Option Int :=
  some (w64 ((w64 (p_1.Obj * 16)) + ((w64 (p_1.Index + 1)).tmod 16)))

def send_may_1 (p_1 : Part) (p_3 : Part) : Option Int :=
  Option.bind (send_place p_1) fun x_7 => Option.bind (send_place p_3) fun x_10 => Option.bind (cmp_Compare_int x_7 x_10) fun x_13 => some x_13

def slices_IsSortedFunc_Part_l1 (p_1 : List Part) (s_6 : Int) : Option (Int ⊕ (Unit ⊕ Unit)) :=
  cond (decide (0 < s_6)) (idx p_1 s_6 fun y_10 => idx p_1 (w64 (s_6 - 1)) fun y_21 => Option.bind (send_may_1 y_10 y_21) fun x_32 => cond (decide (x_32 < 0)) (some (.inr (.inr ()))) (some (.inl (w64 (s_6 - 1))))) (some (.inr (.inl ())))

def slices_IsSortedFunc_Part (p_1 : List Part) : Option Bool :=
  Option.bind (loop (slices_IsSortedFunc_Part_l1 p_1) (w64 ((p_1.length : Int) - 1))) (fun t_3 => Sum.elim (fun t_3a => some true) (fun t_3b => some false) t_3)

def send_blank_1 (p_1 : UInt8) : Option Bool :=
  some (!decide (p_1 = (0 : UInt8)))

def slices_IndexFunc_byte_l1 (p_1 : List UInt8) (s_6 : Nat) : Option (Nat ⊕ (Unit ⊕ Int)) :=
  cond (decide (((s_6 : Nat) : Int) < (p_1.length : Int))) (idx p_1 ((s_6 : Nat) : Int) fun y_10 => Option.bind (send_blank_1 y_10) fun x_19 => cond x_19 (some (.inr (.inr ((s_6 : Nat) : Int)))) (some (.inl (s_6 + 1)))) (some (.inr (.inl ())))

def slices_IndexFunc_byte (p_1 : List UInt8) : Option Int :=
  Option.bind (loop (slices_IndexFunc_byte_l1 p_1) 0) (fun t_3 => Sum.elim (fun t_3a => some (-1)) (fun t_3b => some t_3b) t_3)

def slices_ContainsFunc_byte (p_1 : List UInt8) : Option Bool :=
  Option.bind (slices_IndexFunc_byte p_1) fun x_3 => some (decide (0 ≤ x_3))

def send_blank (p_1 : List UInt8) : Option Bool :=
  Option.bind (slices_ContainsFunc_byte p_1) fun x_3 => some (!x_3)

def send_part (p_1 : Part) : Option Bool :=
  Option.bind (cond (!decide (p_1.Iv = (0 : UInt32))) (some true) (some (!decide (p_1.Tag = (0 : UInt32))))) (fun t_4 => Option.bind (cond (decide (p_1.Obj < 0)) (some true) (cond (decide (16 ≤ p_1.Obj)) (some true) (cond (decide (p_1.Index < 0)) (some true) (some (decide (15 < p_1.Index)))))) (fun t_8 => cond t_8 (some false) (cond (decide (p_1.Index < 15)) (Option.bind (cond (decide ((p_1.Data.length : Int) = 0)) (cond (!t_4) (some true) (some (decide ((p_1.Data.length : Int) = 256)))) (some (decide ((p_1.Data.length : Int) = 256)))) (fun t_16 => some t_16)) (Option.bind (cond (!decide ((p_1.Data.length : Int) = 4)) (some true) (cond t_4 (some true) (idx p_1.Data 0 fun y_26 => some (decide ((7 : UInt8) < y_26))))) (fun t_21 => cond t_21 (some false) (Option.bind (code_Get p_1.Data 2 2) fun x_36 => Option.bind (cond (decide (x_36.1 ≤ 3840)) (idx p_1.Data 0 fun y_43 => cond (decide ((0 : UInt8) < y_43)) (some true) (Option.bind (send_blank p_1.Data) fun x_53 => some x_53)) (some false)) (fun t_39 => some t_39)))))))

def send_may_l1 (p_1 : Stream) (s_17 : Int × Nat) : Option ((Int × Nat) ⊕ (Unit ⊕ Unit)) :=
  cond (decide (((s_17.2 : Nat) : Int) < (p_1.Parts.length : Int))) (idx p_1.Parts ((s_17.2 : Nat) : Int) fun y_22 => Option.bind (Option.bind (send_part y_22) fun x_37 => cond (!x_37) (some (.inr ())) (cond (decide (0 < ((s_17.2 : Nat) : Int))) (idx p_1.Parts (w64 (((s_17.2 : Nat) : Int) - 1)) fun y_42 => Option.bind (send_place y_42) fun x_53 => Option.bind (send_place y_22) fun x_56 => cond (decide (x_53 = x_56)) (some (.inr ())) (some (.inl ()))) (some (.inl ())))) (fun t_34 => Sum.elim (fun t_34a => Option.bind (cond (decide (y_22.Index = 15)) (idx y_22.Data 0 fun y_66 => cond (decide ((0 : UInt8) < y_66)) (some y_22.Obj) (some s_17.1)) (some s_17.1)) (fun t_62 => cond (decide (y_22.Index < 15)) (cond (!decide (t_62 = y_22.Obj)) (some (.inr (.inr ()))) (some (.inl (t_62, s_17.2 + 1)))) (some (.inl (t_62, s_17.2 + 1))))) (fun t_34b => some (.inr (.inr ()))) t_34)) (some (.inr (.inl ())))

def send_may (p_1 : Stream) : Option Bool :=
  cond (decide (p_1.Guid = (0 : UInt32))) (some false) (cond (decide (p_1.Guid = p_1.Base)) (some false) (cond (!decide ((p_1.Key.length : Int) = 24)) (some false) (cond (!decide ((p_1.Sign.length : Int) = 209)) (some false) (Option.bind (slices_IsSortedFunc_Part p_1.Parts) fun x_10 => cond (!x_10) (some false) (Option.bind (loop (send_may_l1 p_1) ((-1), 0)) (fun t_14 => Sum.elim (fun t_14a => some true) (fun t_14b => some false) t_14))))))

def send_put_l1 (p_3 : Int) (p_4 : List Int) (s_9 : List UInt8 × Nat) : Option ((List UInt8 × Nat) ⊕ (List UInt8)) :=
  cond (decide (((s_9.2 : Nat) : Int) < (p_4.length : Int))) (idx p_4 ((s_9.2 : Nat) : Int) fun y_14 => Option.bind (code_Put y_14 p_3) fun x_23 => app s_9.1 x_23.1 fun q_27 => some (.inl (q_27, s_9.2 + 1))) (some (.inr s_9.1))

def send_put (p_1 : List UInt8) (p_3 : Int) (p_4 : List Int) : Option (List UInt8) :=
  Option.bind (loop (send_put_l1 p_3 p_4) (p_1, 0)) (fun t_6 => some t_6)

def send_text_l1 (p_1 : Stream) (s_31 : List UInt8 × Nat) : Option ((List UInt8 × Nat) ⊕ (List UInt8)) :=
  cond (decide (((s_31.2 : Nat) : Int) < (p_1.Parts.length : Int))) (idx p_1.Parts ((s_31.2 : Nat) : Int) fun y_37 => Option.bind (Option.bind (send_put s_31.1 1 ([y_37.Obj, y_37.Index])) fun x_54 => Option.bind (send_put x_54 4 ([(y_37.Iv.toNat : Int), (y_37.Tag.toNat : Int)])) fun x_60 => some x_60) (fun t_49 => Option.bind (send_put t_49 2 ([(y_37.Data.length : Int)])) fun x_68 => app x_68 y_37.Data fun q_72 => some (.inl (q_72, s_31.2 + 1)))) (some (.inr s_31.1))

def send_text (p_1 : Stream) : Option (List UInt8) :=
  Option.bind (send_put ([(83 : UInt8)]) 4 ([(p_1.Guid.toNat : Int), (p_1.Base.toNat : Int)])) fun x_9 => Option.bind (app x_9 p_1.Key fun q_16 => Option.bind (send_put q_16 2 ([(p_1.Parts.length : Int)])) fun x_22 => some x_22) (fun t_13 => Option.bind (loop (send_text_l1 p_1) (t_13, 0)) (fun t_28 => some t_28))

def send_Write (p_1 : Stream) : Option (List UInt8 × Int) :=
  Option.bind (send_may p_1) fun x_6 => cond (!x_6) (some (([] : List UInt8), 8)) (Option.bind (send_text p_1) fun x_10 => app x_10 p_1.Sign fun q_14 => some (q_14, 0))

def ref01_Number_l1 (p_1 : List UInt8) (s_6 : Int × Nat) : Option ((Int × Nat) ⊕ Int) :=
  cond (decide (((s_6.2 : Nat) : Int) < (p_1.length : Int))) (idx p_1 ((s_6.2 : Nat) : Int) fun y_10 => Option.bind (ref01_Room ((s_6.2 : Nat) : Int)) fun x_19 => some (.inl (w64 (s_6.1 + (w64 ((y_10.toNat : Int) * x_19))), s_6.2 + 1))) (some (.inr s_6.1))

def ref01_Number (p_1 : List UInt8) : Option Int :=
  Option.bind (loop (ref01_Number_l1 p_1) (0, 0)) (fun t_3 => some t_3)

def ref29_noughts_l1 (p_1 : List UInt8) (s_6 : Nat) : Option (Nat ⊕ (Unit ⊕ Unit)) :=
  cond (decide (((s_6 : Nat) : Int) < (p_1.length : Int))) (idx p_1 ((s_6 : Nat) : Int) fun y_10 => cond (!decide (y_10 = (0 : UInt8))) (some (.inr (.inr ()))) (some (.inl (s_6 + 1)))) (some (.inr (.inl ())))

def ref29_noughts (p_1 : List UInt8) : Option Bool :=
  Option.bind (loop (ref29_noughts_l1 p_1) 0) (fun t_3 => Sum.elim (fun t_3a => some true) (fun t_3b => some false) t_3)

def ref29_mayPart (p_1 : Part) : Option Bool :=
  cond (decide (p_1.Obj < 0)) (some false) (cond (decide (15 < p_1.Obj)) (some false) (cond (decide (p_1.Index < 0)) (some false) (cond (decide (15 < p_1.Index)) (some false) (Option.bind (cond (decide (p_1.Iv = (0 : UInt32))) (some (decide (p_1.Tag = (0 : UInt32)))) (some false)) (fun t_8 => cond (decide (p_1.Index < 15)) (Option.bind (cond (decide ((p_1.Data.length : Int) = 256)) (some true) (cond (decide ((p_1.Data.length : Int) = 0)) (some t_8) (some false))) (fun t_13 => some t_13)) (cond (!decide ((p_1.Data.length : Int) = 4)) (some false) (cond (!t_8) (some false) (idx p_1.Data 0 fun y_20 => cond (decide ((7 : UInt8) < y_20)) (some false) (slc p_1.Data 2 4 fun m_30 => Option.bind (ref01_Number m_30) fun x_34 => cond (decide (3840 < x_34)) (some false) (Option.bind (idx p_1.Data 0 fun y_41 => cond (!decide (y_41 = (0 : UInt8))) (some true) (Option.bind (ref29_noughts p_1.Data) fun x_51 => some x_51)) (fun t_38 => some t_38)))))))))))

def ref29_before (p_1 : Part) (p_3 : Part) : Option Bool :=
  cond (!decide (p_1.Obj = p_3.Obj)) (some (decide (p_1.Obj < p_3.Obj))) (cond (decide (p_1.Index = 15)) (Option.bind (cond (decide (p_1.Index = 15)) (some (decide (p_3.Index < 15))) (some false)) (fun t_9 => some t_9)) (cond (decide (p_3.Index = 15)) (Option.bind (cond (decide (p_1.Index = 15)) (some (decide (p_3.Index < 15))) (some false)) (fun t_14 => some t_14)) (some (decide (p_1.Index < p_3.Index)))))

def ref29_May_l1 (p_1 : Stream) (s_13 : Nat) (s_77 : Bool × Int) : Option ((Bool × Int) ⊕ Bool) :=
  cond (decide (s_77.2 < ((s_13 : Nat) : Int))) (cond s_77.1 (some (.inl (true, w64 (s_77.2 + 1)))) (idx p_1.Parts s_77.2 fun y_82 => idx p_1.Parts ((s_13 : Nat) : Int) fun y_93 => cond (decide (y_82.Obj = y_93.Obj)) (idx p_1.Parts s_77.2 fun y_105 => cond (decide (y_105.Index = 15)) (idx p_1.Parts s_77.2 fun y_117 => idx y_117.Data 0 fun y_128 => some (.inl (decide ((0 : UInt8) < y_128), w64 (s_77.2 + 1)))) (some (.inl (false, w64 (s_77.2 + 1))))) (some (.inl (false, w64 (s_77.2 + 1)))))) (some (.inr s_77.1))

def ref29_May_l2 (p_1 : Stream) (s_13 : Nat) : Option (Nat ⊕ (Unit ⊕ Unit)) :=
  cond (decide (((s_13 : Nat) : Int) < (p_1.Parts.length : Int))) (Option.bind (idx p_1.Parts ((s_13 : Nat) : Int) fun y_20 => Option.bind (ref29_mayPart y_20) fun x_31 => cond (!x_31) (some (.inr ())) (cond (decide (0 < ((s_13 : Nat) : Int))) (idx p_1.Parts (w64 (((s_13 : Nat) : Int) - 1)) fun y_36 => idx p_1.Parts ((s_13 : Nat) : Int) fun y_47 => Option.bind (ref29_before y_36 y_47) fun x_58 => cond (!x_58) (some (.inr ())) (some (.inl ()))) (some (.inl ())))) (fun t_17 => Sum.elim (fun t_17a => idx p_1.Parts ((s_13 : Nat) : Int) fun y_62 => cond (decide (y_62.Index = 15)) (some (.inl (s_13 + 1))) (Option.bind (loop (ref29_May_l1 p_1 s_13) (false, 0)) (fun t_74 => cond (!t_74) (some (.inr (.inr ()))) (some (.inl (s_13 + 1)))))) (fun t_17b => some (.inr (.inr ()))) t_17)) (some (.inr (.inl ())))

def ref29_May (p_1 : Stream) : Option Bool :=
  cond (decide (p_1.Guid = (0 : UInt32))) (some false) (cond (decide (p_1.Guid = p_1.Base)) (some false) (cond (!decide ((p_1.Key.length : Int) = 24)) (some false) (cond (!decide ((p_1.Sign.length : Int) = 209)) (some false) (Option.bind (loop (ref29_May_l2 p_1) 0) (fun t_10 => Sum.elim (fun t_10a => some true) (fun t_10b => some false) t_10)))))

def ref29_Text_l1 (p_1 : Stream) (s_38 : List UInt8 × Nat) : Option ((List UInt8 × Nat) ⊕ (List UInt8)) :=
  cond (decide (((s_38.2 : Nat) : Int) < (p_1.Parts.length : Int))) (idx p_1.Parts ((s_38.2 : Nat) : Int) fun y_43 => app s_38.1 ([u8i y_43.Obj, u8i y_43.Index]) fun q_56 => Option.bind (ref01_Bytes (y_43.Iv.toNat : Int) 4) fun x_60 => app q_56 x_60 fun q_64 => Option.bind (ref01_Bytes (y_43.Tag.toNat : Int) 4) fun x_68 => app q_64 x_68 fun q_72 => Option.bind (ref01_Bytes (y_43.Data.length : Int) 2) fun x_76 => app q_72 x_76 fun q_80 => app q_80 y_43.Data fun q_84 => some (.inl (q_84, s_38.2 + 1))) (some (.inr s_38.1))

def ref29_Text (p_1 : Stream) : Option (List UInt8) :=
  Option.bind (ref01_Bytes (p_1.Guid.toNat : Int) 4) fun x_7 => app ([(83 : UInt8)]) x_7 fun q_11 => Option.bind (ref01_Bytes (p_1.Base.toNat : Int) 4) fun x_15 => app q_11 x_15 fun q_19 => app q_19 p_1.Key fun q_23 => Option.bind (ref01_Bytes (p_1.Parts.length : Int) 2) fun x_27 => app q_23 x_27 fun q_31 => Option.bind (loop (ref29_Text_l1 p_1) (q_31, 0)) (fun t_35 => some t_35)

def ref29_Write (p_1 : Stream) : Option (List UInt8 × Int) :=
  Option.bind (ref29_May p_1) fun x_6 => cond (!x_6) (some (([] : List UInt8), 8)) (Option.bind (ref29_Text p_1) fun x_10 => app x_10 p_1.Sign fun q_14 => some (q_14, 0))

def send_Parse_1 (p_1 : Int) (p_3 : Bool) (p_5 : List UInt8) (p_8 : Int) : Option (List UInt8 × Bool × List UInt8 × Int) :=
  Option.bind (cond p_3 (some true) (some (decide ((w64 ((p_5.length : Int) - p_8)) < p_1)))) (fun t_9 => cond t_9 (some (([] : List UInt8), t_9, p_5, p_8)) (slc p_5 (w64 ((w64 (p_8 + p_1)) - p_1)) (w64 (p_8 + p_1)) fun m_14 => Option.bind (slices_Clone_byte m_14) fun x_18 => some (x_18, t_9, p_5, w64 (p_8 + p_1))))

def send_Parse_2 (p_1 : Int) (p_4 : Bool) (p_6 : List UInt8) (p_9 : Int) : Option (Int × Bool × List UInt8 × Int) :=
  Option.bind (send_Parse_1 p_1 p_4 p_6 p_9) fun x_10 => Option.bind (code_Get x_10.1 0 p_1) fun x_18 => some (x_18.1, x_10.2.1, x_10.2.2.1, x_10.2.2.2)

def send_Parse_l1 (x_58 : Int × Bool × List UInt8 × Int) (s_65 : List UInt8 × Int × Bool × List Part × Int) : Option ((List UInt8 × Int × Bool × List Part × Int) ⊕ (List UInt8 × Int × Bool × List Part)) :=
  cond (decide (s_65.2.2.2.2 < x_58.1)) (cond (decide (s_65.2.2.2.2 ≤ 256)) (cond (!s_65.2.2.1) (Option.bind (send_Parse_2 1 s_65.2.2.1 s_65.1 s_65.2.1) fun x_74 => Option.bind (send_Parse_2 1 x_74.2.1 x_74.2.2.1 x_74.2.2.2) fun x_78 => Option.bind (send_Parse_2 4 x_78.2.1 x_78.2.2.1 x_78.2.2.2) fun x_82 => Option.bind (send_Parse_2 4 x_82.2.1 x_82.2.2.1 x_82.2.2.2) fun x_86 => Option.bind (Option.bind (send_Parse_2 2 x_86.2.1 x_86.2.2.1 x_86.2.2.2) fun x_94 => Option.bind (send_Parse_1 x_94.1 x_94.2.1 x_94.2.2.1 x_94.2.2.2) fun x_98 => some (x_98.2.2.1, x_98.2.2.2, x_98.2.1, x_98.1)) (fun t_91 => app s_65.2.2.2.1 ([Part.mk x_74.1 x_78.1 (u32i x_82.1) (u32i x_86.1) t_91.2.2.2]) fun q_107 => some (.inl (t_91.1, t_91.2.1, t_91.2.2.1, q_107, w64 (s_65.2.2.2.2 + 1))))) (some (.inr (s_65.1, s_65.2.1, s_65.2.2.1, s_65.2.2.2.1)))) (some (.inr (s_65.1, s_65.2.1, s_65.2.2.1, s_65.2.2.2.1)))) (some (.inr (s_65.1, s_65.2.1, s_65.2.2.1, s_65.2.2.2.1)))

def send_Parse (p_1 : List UInt8) : Option (Stream × Int) :=
  cond (decide (131072 < (p_1.length : Int))) (some (Stream.mk (0 : UInt32) (0 : UInt32) ([] : List UInt8) ([] : List Part) ([] : List UInt8), 3)) (Option.bind (send_Parse_2 1 false p_1 0) fun x_9 => Option.bind (Option.bind (send_Parse_2 4 x_9.2.1 x_9.2.2.1 x_9.2.2.2) fun x_16 => Option.bind (send_Parse_2 4 x_16.2.1 x_16.2.2.1 x_16.2.2.2) fun x_20 => Option.bind (send_Parse_1 24 x_20.2.1 x_20.2.2.1 x_20.2.2.2) fun x_24 => some (x_24.2.2.1, x_24.2.2.2, x_24.2.1, u32i x_16.1, u32i x_20.1, x_24.1)) (fun t_13 => Option.bind (send_Parse_2 2 t_13.2.2.1 t_13.1 t_13.2.1) fun x_58 => Option.bind (loop (send_Parse_l1 x_58) (x_58.2.2.1, x_58.2.2.2, x_58.2.1, ([] : List Part), 0)) (fun t_62 => Option.bind (send_Parse_1 209 t_62.2.2.1 t_62.1 t_62.2.1) fun x_74 => cond x_74.2.1 (some (Stream.mk (0 : UInt32) (0 : UInt32) ([] : List UInt8) ([] : List Part) ([] : List UInt8), 8)) (cond (!decide (x_9.1 = 83)) (some (Stream.mk (0 : UInt32) (0 : UInt32) ([] : List UInt8) ([] : List Part) ([] : List UInt8), 8)) (cond (!decide (x_58.1 = (t_62.2.2.2.length : Int))) (some (Stream.mk (0 : UInt32) (0 : UInt32) ([] : List UInt8) ([] : List Part) ([] : List UInt8), 8)) (cond (!decide (x_74.2.2.2 = (x_74.2.2.1.length : Int))) (some (Stream.mk (0 : UInt32) (0 : UInt32) ([] : List UInt8) ([] : List Part) ([] : List UInt8), 8)) (Option.bind (send_may (Stream.mk t_13.2.2.2.1 t_13.2.2.2.2.1 t_13.2.2.2.2.2 t_62.2.2.2 x_74.1)) fun x_86 => cond (!x_86) (some (Stream.mk (0 : UInt32) (0 : UInt32) ([] : List UInt8) ([] : List Part) ([] : List UInt8), 8)) (some (Stream.mk t_13.2.2.2.1 t_13.2.2.2.2.1 t_13.2.2.2.2.2 t_62.2.2.2 x_74.1, 0)))))))))

def ref29_Parse_l1 (p_1 : List UInt8) (s_39 : List Part × Int) : Option ((List Part × Int) ⊕ ((List Part) ⊕ Unit)) :=
  cond (decide ((w64 (s_39.2 + 12)) ≤ (w64 ((p_1.length : Int) - 209)))) (slc p_1 (w64 (s_39.2 + 10)) (w64 (s_39.2 + 12)) fun m_45 => Option.bind (ref01_Number m_45) fun x_49 => cond (decide ((w64 ((p_1.length : Int) - 209)) < (w64 ((w64 (s_39.2 + 12)) + x_49)))) (some (.inr (.inr ()))) (idx p_1 s_39.2 fun y_53 => idx p_1 (w64 (s_39.2 + 1)) fun y_62 => slc p_1 (w64 (s_39.2 + 2)) (w64 (s_39.2 + 6)) fun m_71 => slc p_1 (w64 (s_39.2 + 6)) (w64 (s_39.2 + 10)) fun m_75 => Option.bind (ref01_Number m_71) fun x_81 => Option.bind (ref01_Number m_75) fun x_86 => slc p_1 (w64 (s_39.2 + 12)) (w64 ((w64 (s_39.2 + 12)) + x_49)) fun m_90 => app ([] : List UInt8) m_90 fun q_95 => app s_39.1 ([Part.mk (y_53.toNat : Int) (y_62.toNat : Int) (u32i x_81) (u32i x_86) q_95]) fun q_101 => some (.inl (q_101, w64 (s_39.2 + (w64 (12 + x_49))))))) (some (.inr (.inl s_39.1)))

def ref29_Parse (p_1 : List UInt8) : Option (Stream × Int) :=
  cond (decide (131072 < (p_1.length : Int))) (some (Stream.mk (0 : UInt32) (0 : UInt32) ([] : List UInt8) ([] : List Part) ([] : List UInt8), 3)) (cond (decide ((p_1.length : Int) < 244)) (some (Stream.mk (0 : UInt32) (0 : UInt32) ([] : List UInt8) ([] : List Part) ([] : List UInt8), 8)) (slc p_1 1 5 fun m_6 => slc p_1 5 9 fun m_10 => slc p_1 9 33 fun m_14 => Option.bind (ref01_Number m_6) fun x_20 => Option.bind (ref01_Number m_10) fun x_25 => app ([] : List UInt8) m_14 fun q_31 => Option.bind (loop (ref29_Parse_l1 p_1) (([] : List Part), 35)) (fun t_36 => Sum.elim (fun t_36a => slc p_1 (w64 ((p_1.length : Int) - 209)) (p_1.length : Int) fun m_47 => app ([] : List UInt8) m_47 fun q_52 => Option.bind (ref29_May (Stream.mk (u32i x_20) (u32i x_25) q_31 t_36a q_52)) fun x_59 => cond (!x_59) (some (Stream.mk (0 : UInt32) (0 : UInt32) ([] : List UInt8) ([] : List Part) ([] : List UInt8), 8)) (slc p_1 0 (w64 ((p_1.length : Int) - 209)) fun m_62 => Option.bind (ref29_Text (Stream.mk (u32i x_20) (u32i x_25) q_31 t_36a q_52)) fun x_69 => cond (!decide (x_69 = m_62)) (some (Stream.mk (0 : UInt32) (0 : UInt32) ([] : List UInt8) ([] : List Part) ([] : List UInt8), 8)) (some (Stream.mk (u32i x_20) (u32i x_25) q_31 t_36a q_52, 0)))) (fun t_36b => some (Stream.mk (0 : UInt32) (0 : UInt32) ([] : List UInt8) ([] : List Part) ([] : List UInt8), 8)) t_36)))

def ref29_Same_l1 (p_1 : Stream) (p_5 : Stream) (s_19 : Nat) : Option (Nat ⊕ (Unit ⊕ Unit)) :=
  cond (decide (((s_19 : Nat) : Int) < (p_1.Parts.length : Int))) (idx p_1.Parts ((s_19 : Nat) : Int) fun y_23 => idx p_5.Parts ((s_19 : Nat) : Int) fun y_35 => cond (!decide (y_23.Obj = y_35.Obj)) (some (.inr (.inr ()))) (cond (!decide (y_23.Index = y_35.Index)) (some (.inr (.inr ()))) (cond (!decide (y_23.Iv = y_35.Iv)) (some (.inr (.inr ()))) (cond (!decide (y_23.Tag = y_35.Tag)) (some (.inr (.inr ()))) (cond (!decide (y_23.Data = y_35.Data)) (some (.inr (.inr ()))) (some (.inl (s_19 + 1)))))))) (some (.inr (.inl ())))

def ref29_Same (p_1 : Stream) (p_5 : Stream) : Option Bool :=
  cond (!decide (p_1.Guid = p_5.Guid)) (some false) (cond (!decide (p_1.Base = p_5.Base)) (some false) (cond (!decide (p_1.Key = p_5.Key)) (some false) (cond (!decide (p_1.Sign = p_5.Sign)) (some false) (cond (!decide ((p_1.Parts.length : Int) = (p_5.Parts.length : Int))) (some false) (Option.bind (loop (ref29_Same_l1 p_1 p_5) 0) (fun t_16 => Sum.elim (fun t_16a => some true) (fun t_16b => some false) t_16))))))

def law29_SendBytes_l1 (x_27 : Stream × Int) (s_65 : Nat) (s_74 : Nat) : Option (Nat ⊕ Unit) :=
  idx x_27.1.Parts ((s_65 : Nat) : Int) fun y_79 => cond (decide (((s_74 : Nat) : Int) < (y_79.Data.length : Int))) (idx x_27.1.Parts ((s_65 : Nat) : Int) fun y_96 => idx y_96.Data ((s_74 : Nat) : Int) fun y_112 => idx y_96.Data ((s_74 : Nat) : Int) fun y_126 => some (.inl (s_74 + 1))) (some (.inr ()))

def law29_SendBytes_l2 (x_27 : Stream × Int) (s_65 : Nat) : Option (Nat ⊕ Unit) :=
  cond (decide (((s_65 : Nat) : Int) < (x_27.1.Parts.length : Int))) (Option.bind (loop (law29_SendBytes_l1 x_27 s_65) 0) (fun t_71 => some (.inl (s_65 + 1)))) (some (.inr ()))

def law29_SendBytes (p_1 : Stream) (p_5 : List UInt8) : Option Bool :=
  Option.bind (ref29_Great p_1) fun x_8 => cond x_8 (some true) (cond (decide (140000 < (p_5.length : Int))) (some true) (Option.bind (send_Write p_1) fun x_19 => Option.bind (ref29_Write p_1) fun x_23 => Option.bind (send_Parse p_5) fun x_27 => Option.bind (ref29_Parse p_5) fun x_34 => Option.bind (cond (decide (x_19.1 = x_23.1)) (cond (decide (x_19.2 = x_23.2)) (Option.bind (ref29_Same x_27.1 x_34.1) fun x_51 => cond x_51 (some (decide (x_27.2 = x_34.2))) (some false)) (some false)) (some false)) (fun t_41 => Option.bind (loop (law29_SendBytes_l2 x_27) 0) (fun t_62 => Option.bind (cond t_41 (some (decide (p_5 = p_5))) (some false)) (fun t_72 => some t_72)))))
end Go.Ow

/-
  What is proved here: loops over the elements of a list, told by recursion over the list: plain lists alone.
-/
namespace Go.Ow
set_option linter.unusedVariables false
set_option linter.unusedSimpArgs false
variable {α σ ρ τ : Type}

theorem cI {n m : Nat} {β : Type} {a b : β} : (bif decide ((n : Int) < (m : Int)) then a else b) = if n < m then a else b := by
  by_cases h : n < m
  · rw [if_pos h, decide_eq_true (by omega)]; rfl
  · rw [if_neg h, decide_eq_false (by omega)]; rfl
end Go.Ow

/-
  What is proved here: the disk in plain words: what may be, a twin, a write, what is seen.
-/
namespace Go.Ow
set_option linter.unusedVariables false
set_option linter.unusedSimpArgs false

def okW (w : Write) : Bool := decide (0 ≤ w.At ∧ w.At < 256) && decide (w.Data.length = 256)
def OKD (d : Disk) : Prop := d.Blocks.length = 256 ∧ d.Waits.length ≤ 4096 ∧ (∀ b ∈ d.Blocks, b.length = 256) ∧ ∀ w ∈ d.Waits, okW w = true
instance (d : Disk) : Decidable (OKD d) := by unfold OKD; infer_instance
theorem small_lt {n : Nat} (h : n ≤ 9223372036854775807) : n < FUEL := Nat.lt_of_le_of_lt h (by decide)

/-! ### A twin -/
structure Mid (d : Disk) : Prop where
  blocks : d.Blocks.length ≤ 1000
  waits : d.Waits.length ≤ 5000
  eb : ∀ b ∈ d.Blocks, b.length ≤ 1000
  ew : ∀ w ∈ d.Waits, w.Data.length ≤ 1000
theorem OKD.mid {d : Disk} (h : OKD d) : Mid d := ⟨by rw [h.1]; omega, by have := h.2.1; omega, fun b hb => by rw [h.2.2.1 b hb]; omega, fun w hw => by
  have := h.2.2.2 w hw
  simp only [okW, Bool.and_eq_true, decide_eq_true_eq] at this
  omega⟩
end Go.Ow

/-
  What is proved here: what is written, what is seen, what a crash leaves: the disk in plain words.
-/
namespace Go.Ow
set_option linter.unusedVariables false
set_option linter.unusedSimpArgs false

/-! ### What is left of the writes -/
def layW (B : List (List UInt8)) (ws : List Write) : List (List UInt8) := ws.foldl (fun B w => B.set w.At.toNat w.Data) B
def KeysOk (M : List (Int × Write)) : Prop := (M.map (·.1)).Nodup ∧ ∀ p ∈ M, 0 ≤ p.1
theorem mem_putM {M : List (Int × Write)} {k : Int} {y : Write} {p : Int × Write} (h : p ∈ putM M k y) : p ∈ M ∨ p = (k, y) := by
  induction M with
  | nil => simp [putM] at h; exact .inr h
  | cons q r ih =>
    simp only [putM] at h
    split at h
    · rcases List.mem_cons.1 h with h' | h'
      · exact .inr h'
      · exact .inl (by simp [h'])
    · rcases List.mem_cons.1 h with h' | h'
      · exact .inl (by simp [h'])
      · exact (ih h').imp (fun z => by simp [z]) id
theorem keys_putM {M : List (Int × Write)} {k : Int} {y : Write} (h : (M.map (·.1)).Nodup) : ((putM M k y).map (·.1)).Nodup := by
  induction M with
  | nil => simp [putM]
  | cons q r ih =>
    simp only [List.map_cons, List.nodup_cons] at h
    simp only [putM]
    split
    · rename_i e
      simp only [List.map_cons, List.nodup_cons]; rw [← e]; exact h
    · rename_i e
      simp only [List.map_cons, List.nodup_cons]
      refine ⟨fun hm => ?_, ih h.2⟩
      obtain ⟨p, hp, hpe⟩ := List.mem_map.1 hm
      rcases mem_putM hp with h' | h'
      · exact h.1 (List.mem_map.2 ⟨p, h', hpe⟩)
      · subst h'; exact e hpe.symm
theorem KeysOk.put {M : List (Int × Write)} {k : Int} {y : Write} (h : KeysOk M) (hk : 0 ≤ k) : KeysOk (putM M k y) :=
  ⟨keys_putM h.1, fun p hp => (mem_putM hp).elim (h.2 p) (fun e => by subst e; exact hk)⟩
theorem layW_length (B : List (List UInt8)) (ws : List Write) : (layW B ws).length = B.length := by
  unfold layW
  induction ws generalizing B with
  | nil => rfl
  | cons w ws ih => simp only [List.foldl_cons, ih, List.length_set]
/-- the blocks as the writes leave them -/
def seenB (d : Disk) : List (List UInt8) := layW d.Blocks d.Waits
theorem seenB_length {d : Disk} (h : OKD d) : (seenB d).length = 256 := by unfold seenB; rw [layW_length]; exact h.1
end Go.Ow

/-
  What is proved here: numbers as bytes and back; a sum is always told; pointers as bytes: in plain words.
-/
namespace Go.Ow
set_option linter.unusedVariables false
set_option linter.unusedSimpArgs false

/-- a number's bytes, the lowest first -/
def leB (n : Nat) : Nat → List UInt8
  | 0 => []
  | k + 1 => UInt8.ofNat n :: leB (n / 256) k
theorem Zb (n k : Nat) : (leB n k).length = k := by
  induction k generalizing n with
  | zero => rfl
  | succ k ih => simp [leB, ih]
def numB : List UInt8 → Nat
  | [] => 0
  | b :: r => b.toNat + 256 * numB r
theorem numB_lt (m : List UInt8) : numB m < 256 ^ m.length := by
  induction m with
  | nil => simp [numB]
  | cons b r ih =>
    have := b.toNat_lt
    simp only [numB, List.length_cons, Nat.pow_succ]; omega
theorem numB_leB {n k : Nat} (h : n < 256 ^ k) : numB (leB n k) = n := by
  induction k generalizing n with
  | zero => simp at h; subst h; rfl
  | succ k ih =>
    simp only [leB, numB]
    rw [ih (by rw [Nat.pow_succ] at h; omega), UInt8.toNat_ofNat']
    omega
theorem u8i_nat (n : Nat) : u8i (n : Int) = UInt8.ofNat n := by
  unfold u8i
  apply UInt8.toNat_inj.1
  rw [UInt8.toNat_ofNat', UInt8.toNat_ofNat']
  omega
theorem sized_eq (k : Int) : code_sized k = some (decide (0 < k ∧ k ≤ 4)) := by
  unfold code_sized
  by_cases h : 0 < k
  · rw [decide_eq_true h]
    simp only [cond_true, Option.bind_some]
    congr 1; simp only [decide_eq_decide]; omega
  · rw [decide_eq_false h]
    simp only [cond_false, Option.bind_some]
    congr 1; rw [decide_eq_false (fun e => h e.1)]
theorem put_loop {n k : Nat} (hk : k ≤ 4) (hn : n < 4294967296) : loop (code_Put_l1 (k : Int)) ((n : Int), ([] : List UInt8)) = some (leB n k) := by
  obtain ⟨t, h1, h2⟩ := loop_rule (body := code_Put_l1 (k : Int)) (fun s => ∃ m : Nat, s.1 = (m : Int) ∧ m < 4294967296 ∧ s.2.length ≤ k ∧ s.2 ++ leB m (k - s.2.length) = leB n k) (fun s => k - s.2.length) (fun t => t = leB n k) (by
    rintro ⟨a, b⟩ ⟨m, h1, h0, h2, h3⟩
    simp only at h1 h2 h3
    subst h1
    unfold code_Put_l1
    dsimp only
    rw [cI]
    rcases Nat.lt_or_ge b.length k with c | c
    · left
      rw [if_pos c, app_eq (by simp only [List.length_cons, List.length_nil, LIM]; omega)]
      refine ⟨_, rfl, ⟨m / 256, ?_, by omega, by simp; omega, ?_⟩, by simp; omega⟩
      · simp only
        rw [Int.tdiv_eq_ediv_of_nonneg (by omega), Zw (by omega) (by omega)]; omega
      · simp only
        rw [← h3, show k - b.length = (k - (b ++ [u8i (m : Int)]).length) + 1 by simp; omega]
        simp only [leB, u8i_nat, List.append_assoc, List.singleton_append]
    · right
      rw [if_neg (by omega)]
      refine ⟨_, rfl, ?_⟩
      rw [show k - b.length = 0 by omega] at h3
      simpa [leB] using h3) (s := ((n : Int), ([] : List UInt8))) ⟨n, rfl, hn, by simp, by simp⟩ (Nat.lt_of_le_of_lt (Nat.sub_le _ _) (small_lt (by omega)))
  rw [h1, h2]
theorem pow256 {k : Nat} (h1 : 1 ≤ k) (h4 : k ≤ 4) : sli 1 (w64 (8 * (k : Int))) = ((256 ^ k : Nat) : Int) ∧ 256 ^ k ≤ 4294967296 := by
  have : k = 1 ∨ k = 2 ∨ k = 3 ∨ k = 4 := by omega
  rcases this with rfl | rfl | rfl | rfl <;> decide
theorem code_Put_eq {n k : Nat} (h1 : 1 ≤ k) (h4 : k ≤ 4) (hn : n < 256 ^ k) : code_Put (n : Int) (k : Int) = some (leB n k, 0) := by
  unfold code_Put
  rw [sized_eq]
  simp only [Option.bind_some]
  obtain ⟨h5, h6⟩ := pow256 h1 h4
  rw [decide_eq_true (show 0 < (k : Int) ∧ (k : Int) ≤ 4 by omega), decide_eq_false (show ¬ (n : Int) < 0 by omega), chk_eq (by rw [Zw (by omega) (by omega)]; omega), h5,
    decide_eq_false (show ¬ ((256 ^ k : Nat) : Int) ≤ (n : Int) by omega)]
  simp only [Bool.not_true, cond_false]
  rw [put_loop h4 (by omega)]
  rfl

theorem numB_snoc (p : List UInt8) (c : UInt8) : numB (p ++ [c]) = numB p + 256 ^ p.length * c.toNat := by
  induction p with
  | nil => simp [numB]
  | cons b p ih => simp only [List.cons_append, numB, ih, List.length_cons, Nat.pow_succ]; rw [Nat.mul_add, ← Nat.mul_assoc, Nat.mul_comm 256 (256 ^ p.length)]; omega
theorem bwd_length' (m : List UInt8) (k : Nat) : (bwd m k).length = k := by induction k with | zero => rfl | succ k ih => simp [bwd, ih]
theorem bwd_fold (m : List UInt8) : ∀ (k a : Nat), k ≤ m.length → (bwd m k).foldl (fun n y => 256 * n + y.2.toNat) a = numB (m.take k) + 256 ^ k * a := by
  intro k
  induction k with
  | zero => intro a _; simp [bwd, numB]
  | succ k ih =>
    intro a hk
    simp only [bwd, List.foldl_cons]
    rw [ih _ (by omega), List.take_succ_eq_append_getElem (by omega), numB_snoc, List.length_take, Nat.min_eq_left (by omega), List.getD_eq_getElem?_getD, List.getElem?_eq_getElem (by omega), Option.getD_some, Nat.pow_succ, Nat.mul_add, ← Nat.mul_assoc]
    omega
theorem get_loop : ∀ (l : List (Nat × UInt8)) (a j : Nat), a < 256 ^ j → j + l.length ≤ 4 → forL code_Get_r1 l (a : Int) = some (.inl ((l.foldl (fun n y => 256 * n + y.2.toNat) a : Nat) : Int))
  | [], a, j, _, _ => rfl
  | y :: l, a, j, ha, hj => by
    have hy := y.2.toNat_lt
    have hp : (256 : Nat) ^ (j + 1) ≤ 256 ^ 4 := Nat.pow_le_pow_right (by omega) (by simp at hj; omega)
    have h2 : 256 * a + y.2.toNat < 256 ^ (j + 1) := by rw [Nat.pow_succ]; omega
    rw [forL_cons (s' := ((256 * a + y.2.toNat : Nat) : Int)) (by
      have e4 : (256 : Nat) ^ 4 = 4294967296 := by decide
      rw [e4] at hp
      generalize (256 : Nat) ^ (j + 1) = N at hp h2
      show some (Sum.inl (w64 ((w64 (256 * (a : Int))) + (y.2.toNat : Int)))) = _
      rw [Zw (n := 256 * (a : Int)) (by omega) (by omega), Zw (by omega) (by omega)]
      rw [show (256 * (a : Int) + (y.2.toNat : Int)) = ((256 * a + y.2.toNat : Nat) : Int) by omega]), get_loop l _ (j + 1) h2 (by simp at hj; omega)]
    rfl
theorem cut_len {l : List UInt8} {a b : Nat} (h1 : a ≤ b) (h2 : b ≤ l.length) : (cut l (a : Int) (b : Int)).length = b - a := by
  unfold cut; simp only [List.length_take, List.length_drop]; omega
theorem get_core {b : List UInt8} {at' k : Nat} (h4 : k ≤ 4) (hl : at' + k ≤ b.length) :
    (slc b (at' : Int) ((at' + k : Nat) : Int) fun m_16 => Option.bind (slices_Backward_byte m_16) fun x_20 => Option.bind (forL code_Get_r1 (bwd m_16 m_16.length) 0) (fun t_24 => Sum.elim (fun s_27 => some (s_27, (0 : Int))) (fun _ => none) t_24)) = some ((numB ((b.drop at').take k) : Int), 0) := by
  rw [slc_eq (by omega) (by omega) (by omega)]
  have hm : (cut b (at' : Int) ((at' + k : Nat) : Int)).length = k := by rw [cut_len (by omega) (by omega)]; omega
  have he : cut b (at' : Int) ((at' + k : Nat) : Int) = (b.drop at').take k := by unfold cut; rw [Int.toNat_natCast, Int.toNat_natCast, Nat.add_sub_cancel_left]
  rw [he] at hm ⊢
  have := get_loop (bwd ((b.drop at').take k) ((b.drop at').take k).length) 0 0 (by decide) (by rw [bwd_length', hm]; omega)
  unfold slices_Backward_byte
  rw [Option.bind_some]
  rw [show ((0 : Nat) : Int) = 0 from rfl] at this
  rw [this, bwd_fold _ _ _ (Nat.le_refl _), List.take_length, Nat.mul_zero, Nat.add_zero]
  rfl
theorem get_cond {b : List UInt8} {a q k : Int} {K : Option (Int × Int)} (hk : 0 < k ∧ k ≤ 4) (h0 : 0 ≤ a) (h1 : a ≤ b.length) (h2 : q ≤ b.length) :
    (Option.bind (code_sized k) fun x_5 => Option.bind (cond (!x_5) (some true) (cond (decide (a < 0)) (some true) (some (decide ((b.length : Int) < a))))) (fun t_8 => cond t_8 (some (0, 2)) (cond (decide ((b.length : Int) < q)) (some (0, 8)) K))) = K := by
  rw [sized_eq, Option.bind_some, decide_eq_true hk, decide_eq_false (show ¬ a < 0 by omega), decide_eq_false (show ¬ (b.length : Int) < a by omega), decide_eq_false (show ¬ (b.length : Int) < q by omega)]
  rfl
theorem code_Get_eq {b : List UInt8} {at' k : Nat} (h1 : 1 ≤ k) (h4 : k ≤ 4) (hl : at' + k ≤ b.length) (hb : b.length ≤ 1000000) : code_Get b (at' : Int) (k : Int) = some ((numB ((b.drop at').take k) : Int), 0) := by
  unfold code_Get
  have hw : w64 ((at' : Int) + (k : Int)) = ((at' + k : Nat) : Int) := by rw [Zw (by omega) (by omega)]; omega
  rw [hw]
  exact (get_cond ⟨by omega, by omega⟩ (by omega) (by omega) (by omega)).trans (get_core h4 hl)

/-! ### A sum is always told -/
def sumOf (b : List UInt8) : UInt32 := (mix_Sum b).getD 0
end Go.Ow

/-
  What is proved here: pointers and labels as bytes, and back: in plain words.
-/
namespace Go.Ow
set_option linter.unusedVariables false
set_option linter.unusedSimpArgs false

theorem run_st {σ τ : Type} {body : σ → Option (σ ⊕ τ)} {n : Nat} {s s' : σ} (h : body s = some (.inl s')) : run body (n + 1) s = run body n s' := by
  show Option.bind (body s) _ = _; rw [h]; rfl
theorem run_en {σ τ : Type} {body : σ → Option (σ ⊕ τ)} {n : Nat} {s : σ} {t : τ} (h : body s = some (.inr t)) : run body (n + 1) s = some t := by
  show Option.bind (body s) _ = _; rw [h]; rfl
def isNone (p : Ptr) : Prop := p.At = 0 ∧ p.Birth = 0 ∧ p.Iv = 0 ∧ p.Tag = 0 ∧ p.Sum = 0
instance (p : Ptr) : Decidable (isNone p) := by unfold isNone; infer_instance
/-- a pointer that is one -/
def okR (p : Ptr) : Prop := 12 ≤ p.At ∧ p.At < 256 ∧ (1 : UInt32) ≤ p.Birth ∧ p.Birth ≤ 16777215
instance (p : Ptr) : Decidable (okR p) := by unfold okR; infer_instance
end Go.Ow

/-
  What is proved here: what stands behind a put or a write; one label stands on a new disk: in plain words.
-/
namespace Go.Ow
set_option linter.unusedVariables false
set_option linter.unusedSimpArgs false

end Go.Ow

/-
  What is proved here: tables of blocks (space), in plain words.
-/
namespace Go.Ow
set_option linter.unusedVariables false
set_option linter.unusedSimpArgs false

def okS (s : List UInt8) : Prop := s.length = 256 ∧ (∀ b ∈ s, b ≤ 2) ∧ ∀ b ∈ s.take 12, b = 1
instance (s : List UInt8) : Decidable (okS s) := by unfold okS; infer_instance

/-! ### Free blocks -/
/-- the first nought from place i on -/
def freeFrom (s : List UInt8) (i : Nat) : Option Nat := (List.range' i (s.length - i)).find? fun j => s.getD j 1 == 0
theorem freeFrom_some {s : List UInt8} {i j : Nat} (h : freeFrom s i = some j) : i ≤ j ∧ j < s.length ∧ s[j]? = some 0 := by
  unfold freeFrom at h
  have h1 := List.mem_of_find?_eq_some h
  have h2 := List.find?_some h
  rw [List.mem_range'_1] at h1
  have hj : j < s.length := by omega
  refine ⟨h1.1, hj, ?_⟩
  rw [List.getD_eq_getElem?_getD, List.getElem?_eq_getElem hj] at h2
  rw [List.getElem?_eq_getElem hj]
  simpa using h2
end Go.Ow

/-
  What is proved here: keys, streams of bytes, tags and seals (mix, mac, cipher, seal), in plain words: which values they have is left open.
-/
namespace Go.Ow
set_option linter.unusedVariables false
set_option linter.unusedSimpArgs false

theorem lim_le {n : Nat} (h : n ≤ 1000000) : n ≤ LIM := Nat.le_trans h (by decide)
/-! ### Texts one behind the other -/
/-! ### Keys -/
/-! ### Tags -/
/-! ### Streams -/
end Go.Ow

/-
  What is proved here: blocks laid, sealed, looked at, opened (store), in plain words.
-/
namespace Go.Ow
set_option linter.unusedVariables false
set_option linter.unusedSimpArgs false

def noP : Ptr := ⟨0, 0, 0, 0, 0⟩
def OKSt (s : Store) : Prop := OKD s.Disk ∧ okS s.Space ∧ (1 : UInt32) ≤ s.Epoch ∧ s.Epoch ≤ 65535 ∧ s.Count ≤ 65535
instance (s : Store) : Decidable (OKSt s) := by unfold OKSt; infer_instance
/-! ### What is asked -/
def birthOk (b : UInt32) : Prop := (1 : UInt32) ≤ b ∧ b ≤ 16777215
instance (b : UInt32) : Decidable (birthOk b) := by unfold birthOk; infer_instance
/-! ### A block is laid -/
structure PutAt (s : Store) (p : Ptr) (b : List UInt8) (t : Store) (q : Ptr) (j : Nat) : Prop where
  ok : OKSt s
  len : b.length = 256
  free : freeFrom s.Space 0 = some j
  room : s.Disk.Waits.length ≠ 4096
  out : t = ⟨⟨s.Disk.Blocks, s.Disk.Waits ++ [⟨(j : Int), b⟩]⟩, s.Space.set j 1, s.Epoch, s.Count⟩
  ptr : q = ⟨(j : Int), p.Birth, p.Iv, p.Tag, sumOf b⟩
theorem free_high {s : List UInt8} (h : okS s) {j : Nat} (hj : s[j]? = some 0) : 12 ≤ j ∧ j < 256 := by
  have hlt : j < s.length := (List.getElem?_eq_some_iff.1 hj).1
  rw [h.1] at hlt
  refine ⟨?_, hlt⟩
  apply Nat.le_of_not_lt
  intro hc
  have : (s.take 12)[j]? = some 0 := by rw [List.getElem?_take, if_pos hc]; exact hj
  have := h.2.2 0 (List.mem_of_getElem? this)
  cases this
theorem PutAt.place {s : Store} {p : Ptr} {b : List UInt8} {t : Store} {q : Ptr} {j : Nat} (h : PutAt s p b t q j) : 12 ≤ j ∧ j < 256 := free_high h.ok.2.1 (freeFrom_some h.free).2.2
theorem PutAt.seen {s : Store} {p : Ptr} {b : List UInt8} {t : Store} {q : Ptr} {j : Nat} (h : PutAt s p b t q j) : seenB t.Disk = (seenB s.Disk).set j b := by
  rw [h.out]
  simp only [seenB, layW, List.foldl_append, List.foldl_cons, List.foldl_nil, Int.toNat_natCast]
/-! ### A block is sealed -/
def more (s : Store) : Store := ⟨s.Disk, s.Space, s.Epoch, s.Count + 1⟩
/-! ### A block is looked at, and opened -/
def lookS (s : Store) (p : Ptr) : List UInt8 × Int :=
  if OKSt s ∧ (isNone p ∨ okR p) then (if isNone p then ([], 6) else (if sumOf ((seenB s.Disk).getD p.At.toNat []) = p.Sum then ((seenB s.Disk).getD p.At.toNat [], 0) else ([], 130))) else ([], 8)
end Go.Ow

/-
  What is proved here: a store that is new; what was laid is seen, what was sealed is opened; an example.
-/
namespace Go.Ow
set_option linter.unusedVariables false
set_option linter.unusedSimpArgs false

/-! ### What was laid is seen -/
theorem PutAt.okR {s : Store} {p : Ptr} {b : List UInt8} {t : Store} {q : Ptr} {j : Nat} (h : PutAt s p b t q j) (hb : birthOk p.Birth) : okR q ∧ ¬ isNone q := by
  have hp := h.place
  rw [h.ptr]
  exact ⟨⟨by show (12 : Int) ≤ (j : Int); omega, by show (j : Int) < 256; omega, hb.1, hb.2⟩, fun hn => by have : (j : Int) = 0 := hn.1; omega⟩
theorem getD_set {B : List (List UInt8)} {j : Nat} (hj : j < B.length) (b : List UInt8) (i : Nat) : (B.set j b).getD i [] = if i = j then b else B.getD i [] := by
  rw [List.getD_eq_getElem?_getD, List.getElem?_set]
  by_cases c : i = j
  · subst c; rw [if_pos rfl, if_pos hj, if_pos rfl]; rfl
  · rw [if_neg (fun e => c e.symm), if_neg c, List.getD_eq_getElem?_getD]
theorem PutAt.at {s : Store} {p : Ptr} {b : List UInt8} {t : Store} {q : Ptr} {j : Nat} (h : PutAt s p b t q j) (i : Nat) : (seenB t.Disk).getD i [] = if i = j then b else (seenB s.Disk).getD i [] := by
  have hp := h.place
  rw [h.seen, getD_set (by rw [seenB_length h.ok.1]; omega)]
/-! ### A new store -/
end Go.Ow

/-
  What is proved here: no two blocks are sealed by one number; limits, errors, examples: the laws, in plain words.
-/
namespace Go.Ow
set_option linter.unusedVariables false
set_option linter.unusedSimpArgs false

theorem noP_none : isNone noP := ⟨rfl, rfl, rfl, rfl, rfl⟩
/-! ### Examples -/
end Go.Ow

/-
  What is proved here: where there is room a block is laid; where a byte is turned, it is found: the laws, in plain words.
-/
namespace Go.Ow
set_option linter.unusedVariables false
set_option linter.unusedSimpArgs false

/-! ### The next free block -/
/-! ### A byte that is turned -/
def turned (B : List (List UInt8)) (j i : Nat) (by' : UInt8) : List (List UInt8) := B.set j ((B.getD j []).set i (((B.getD j []).getD i 0) ^^^ by'))
end Go.Ow
