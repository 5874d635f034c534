/-
  What is proved here: parts of own rows: reading through them, a prefix that goes on as the row, clearing a part; append of zeros to nothing; over OwS.
-/
import Derived.Test.YtdelcjkjkhcaoaaOwS
namespace Go.Ow
open Go.RowKit
set_option linter.unusedVariables false
set_option linter.unusedSimpArgs false

variable {x : Cx} {ops : Array Oper} {Q : Exit → Act → World → Prop} {rest : List Oper} {l : Slots} {own : List Own} {H HF : Heaplet}
variable {ty : TypeId} {d : Nat} {pos : String} {aft : Array Edge} {v : Value} {p q : Operand} {t u : TypeId}

/-- v' is the part of v from its lo-th element on, so many long -/
def SubV (size : Nat) (v v' : Value) (lo len : Nat) : Prop :=
  (∃ ao cap, v' = .slice ao len cap) ∧ (len = 0 ∨ ∃ b o n cap cap', v = .slice (some ⟨b, o, none⟩) n cap ∧ v' = .slice (some ⟨b, o + lo * size, none⟩) len cap' ∧ lo + len ≤ n)
def LongI (v : Value) (e : Int) : Prop := ∃ n : Nat, Long v n ∧ (n : Int) = e
theorem R.lenE {e : Int} {el : TypeId} (hu : x.P.underlying t = some (.slice el)) (h1 : evo l p = some v) (hL : LongI v e) : Runs x (.call ⟨.builtin .len, #[p], #[t]⟩) ty l own H (.int .i64 e) := by
  obtain ⟨n, h, rfl⟩ := hL; exact R.lenL hu h1 h
theorem ElemAt.sub {size lo len : Nat} {v v' : Value} {i j : Int} {b o : Nat} (hs : SubV size v v' lo len) (hE : ElemAt v size j b o) (hj : j = (lo : Int) + i) (hi : 0 ≤ i ∧ i < len) : ElemAt v' size i b o := by
  obtain ⟨_, hs⟩ := hs
  rcases hs with h0 | ⟨b', o', n, cap, cap', rfl, rfl, hle⟩
  · omega
  · obtain ⟨h0, o0, len', cap0, e, rfl, hlt⟩ := hE
    simp only [Value.slice.injEq, Option.some.injEq, Addr.mk.injEq] at e
    obtain ⟨⟨rfl, rfl, -⟩, rfl, rfl⟩ := e
    refine ⟨hi.1, _, len, cap', rfl, ?_, by omega⟩
    have : j.toNat = lo + i.toNat := by omega
    rw [this, Nat.add_mul]; omega
theorem RowOf.cutv {α : Type} {R : Rep α} {B size : Nat} {E : TypeId} {v : Value} {m : List α} {K : Own} {a b : Int} (h : RowOf HF R B E size v m K) (hab : 0 ≤ a ∧ a ≤ b ∧ b ≤ m.length) :
    ∃ v' cap, (∃ ao n, v = .slice ao n cap ∧ (cap : Int) = cap) ∧ b ≤ cap ∧ (∃ ao, v = .slice ao m.length cap ∧ (cap : Int) ≤ cap ∧ v' = sliced ao a.toNat b.toNat (cap : Int).toNat size) ∧
      SubV size v v' a.toNat (b.toNat - a.toNat) ∧ LongI v' (b - a) := by
  obtain ⟨cells, ⟨h0, h1⟩, hf, ho⟩ := h
  rcases h1 with ⟨rfl, h3, rfl⟩ | ⟨g, cap, cur, rfl, rfl, e3, e4, e5, e6, e7⟩
  · have hm : m = [] := List.length_eq_zero_iff.1 h3
    subst hm
    have ha : a = 0 := by simp at hab; omega
    have hb : b = 0 := by simp at hab; omega
    subst ha hb
    exact ⟨_, 0, ⟨none, 0, rfl, rfl⟩, by omega, ⟨none, rfl, Int.le_refl _, rfl⟩, ⟨⟨_, _, rfl⟩, .inl rfl⟩, 0, ⟨_, _, rfl⟩, rfl⟩
  · refine ⟨_, cap, ⟨_, _, rfl, rfl⟩, by omega, ⟨_, rfl, Int.le_refl _, rfl⟩, ⟨⟨_, _, rfl⟩, ?_⟩, b.toNat - a.toNat, ⟨_, _, rfl⟩, by omega⟩
    by_cases hz : b.toNat - a.toNat = 0
    · exact .inl hz
    · refine .inr ⟨g, 0, _, cap, cap - a.toNat, rfl, ?_, by omega⟩
      have hne : ¬ cap = a.toNat := by omega
      simp only [sliced, Int.toNat_natCast, if_neg hne, Option.map_some, add_lit]
/-- the first elements: what is behind them is spare -/
theorem RowOf.pre {α : Type} {R : Rep α} {B size : Nat} {E : TypeId} {v : Value} {m m' : List α} {K : Own} {b : Int} (h : RowOf HF R B E size v m K) (hm : m' = cut m 0 b) (hab : (0 : Int) ≤ 0 ∧ 0 ≤ b ∧ b ≤ m.length) :
    ∃ v' cap, (∃ ao n, v = .slice ao n cap ∧ (cap : Int) = cap) ∧ b ≤ cap ∧ (∃ ao, v = .slice ao m.length cap ∧ (cap : Int) ≤ cap ∧ v' = sliced ao (0 : Int).toNat b.toNat (cap : Int).toNat size) ∧ RowOf HF R B E size v' m' K := by
  subst hm
  obtain ⟨cells, ⟨h0, h1⟩, hf, ho⟩ := h
  rcases h1 with ⟨rfl, h3, rfl⟩ | ⟨g, cap, cur, rfl, rfl, e3, e4, e5, e6, e7⟩
  · have hm : m = [] := List.length_eq_zero_iff.1 h3
    subst hm
    have hb : b = 0 := by simp at hab; omega
    subst hb
    refine ⟨_, 0, ⟨none, 0, rfl, rfl⟩, by omega, ⟨none, rfl, Int.le_refl _, rfl⟩, ?_⟩
    have : sliced (none : Option Addr) (0 : Int).toNat (0 : Int).toNat ((0 : Nat) : Int).toNat size = .slice none 0 0 := by simp [sliced]
    rw [this, show cut ([] : List α) 0 0 = [] by simp [cut]]; exact RowOf.nil _ _ _ _ _
  · have hlen : (cut m 0 b).length = b.toNat := by simp only [cut, List.length_take, List.length_drop]; omega
    have hfl := hf.length
    have hft : ∀ (k : Nat) (m : List α) (cells : List Value), Flat HF R size cells m → Flat HF R size (cells.take (k * size)) (m.take k) := by
      intro k
      induction k with
      | zero => intro m cells _; simp [Flat]
      | succ k ih =>
        intro m cells hF
        cases m with
        | nil => simp only [Flat] at hF; subst hF; simp [Flat]
        | cons y r =>
          obtain ⟨cs, more, rfl, f1, f2, f3⟩ := hF
          refine ⟨cs, more.take (k * size), ?_, f1, f2, ih r more f3⟩
          rw [List.take_append, List.take_of_length_le (by rw [f1, Nat.add_mul]; omega), f1]; congr 2; rw [Nat.add_mul]; omega
    have hcut : cut m 0 b = m.take b.toNat := by simp [cut]
    refine ⟨_, cap, ⟨_, _, rfl, rfl⟩, by omega, ⟨_, rfl, Int.le_refl _, rfl⟩, ?_⟩
    have hv : sliced (some (⟨g, 0, none⟩ : Addr)) (0 : Int).toNat b.toNat (cap : Int).toNat size = .slice (some ⟨g, 0, none⟩) b.toNat cap := by
      simp [sliced]
    rw [hv]
    refine ⟨cells.take (b.toNat * size), ⟨?_, .inr ⟨g, cap, cur, by rw [hlen], rfl, e3, by omega, e5, e6, ?_⟩⟩, by rw [hcut]; exact hft _ _ _ hf, fun w hw => ho w (List.mem_of_mem_take hw)⟩
    · rw [List.length_take, hlen, hfl, Nat.min_eq_left (Nat.mul_le_mul_right _ (by omega))]
    · rw [hlen, ← e7, List.take_take, Nat.min_eq_left (Nat.mul_le_mul_right _ (by omega))]
/-! ### Nothing -/
theorem R.capN (hu : ∃ e, x.P.underlying t = some (.slice e)) (h1 : evo l p = some (.slice none 0 0)) : Runs x (.call ⟨.builtin .cap, #[p], #[t]⟩) ty l own H (.int .i64 0) := by
  obtain ⟨e, hu⟩ := hu
  exact fun ρ w _ _ _ _ hρ hm => by simp [execOp, resolve, invoke, hρ _ _ h1, run_underlying hu, go_sem, Builtin.cap_, goInt]
theorem R.slcN {e : TypeId} {g : Bool} {size : Nat} {lo hi mx : Option Operand} (hu : x.P.underlying t = some (.slice e)) (hs : shapeOf x.P e = some (g, size)) (h0 : evo l p = some (.slice none 0 0))
    (h1 : match lo with | none => True | some o => ∃ kk, evo l o = some (.int kk 0)) (h2 : match hi with | none => True | some o => ∃ kk, evo l o = some (.int kk 0)) (hmx : mx = none) :
    Runs x (.slice t p lo hi mx) ty l own H (.slice none 0 0) := by
  subst hmx
  have := R.slc (x := x) (own := own) (H := H) (ty := ty) (α := UInt8) (R := RU8) (m := []) (a := 0) (b := 0) (c := 0) (cap := 0) (v' := .slice none 0 0) (lo := lo) (hi := hi) (mx := none) hu hs h0
    (by cases lo <;> simp_all) (by cases hi <;> simp_all) ⟨none, 0, rfl, rfl⟩ ⟨by omega, by omega, by omega⟩ ⟨none, rfl, by simp, by simp [sliced]⟩ (.inl rfl)
  exact this
theorem JL.appZ {α : Type} {R : Rep α} {tn E : TypeId} {z : Value} {size bytes : Nat} {kn : IntKind} {n : Int} {y : α} {rs : List α} (hu : x.P.underlying t = some (.slice E)) (hun : x.P.underlying tn = some (.int kn)) (he : eInfo x.P E = some (z, size, bytes)) (h1 : evo l p = some (.slice none 0 0)) (h2 : evo l q = some (.int .i64 n))
    (hR : ∀ H, R H z.cells.toList y) (hR1 : R.One) (hrs : rs = List.replicate n.toNat y) (hn : 0 ≤ n ∧ n.toNat ≤ LIM) (hb : Nat.ble bytes 128 = true) (hd : Nat.blt d x.n = true)
    (h : ∀ v' K', RowOf HF R x.w0.heap.size E size v' rs K' → JL x ops Q rest ((d, v') :: l) (K' :: own) H) : JL x ops Q (⟨some d, .call ⟨.builtin .append, #[p, q], #[t, tn]⟩, ty, pos, aft, none⟩ :: rest) l own H := fun a w hh => by
  subst hrs
  obtain ⟨N, rfl⟩ := Int.eq_ofNat_of_zero_le hn.1
  have hN : N ≤ LIM := by simpa using hn.2
  simp only [Int.toNat_natCast] at h
  obtain ⟨i, hi, hz, hsz, hby, hzs, hpos⟩ := eInfo_parts he
  subst hsz; subst hby
  have e1 := eval_of hh h1
  have e2 := eval_of hh h2
  simp only [wpLs, wanted_none, if_true]
  refine ⟨fun _ _ => trivial, ?_⟩
  have base : ∀ v' w', (Builtin.append_ #[t, tn] ty #[.slice none 0 0, .int .i64 (N : Int)]).run x.P w = .ok v' w' →
      (execOp a.eval ⟨some d, .call ⟨.builtin .append, #[p, q], #[t, tn]⟩, ty, pos, aft, none⟩).run x.P w = .ok (.value v') w' := fun v' w' hr => by
    generalize a.eval = ρ at e1 e2
    have e3 : Array.map ρ #[p, q] = #[.slice none 0 0, .int .i64 (N : Int)] := by simp [e1, e2]
    simp only [execOp, resolve, e3, Sem.run_bind, Sem.run_pure, Result.andThen, invoke, builtin, hr]
  by_cases h0 : N = 0
  · subst h0
    have hr : (Builtin.append_ #[t, tn] ty #[.slice none 0 0, .int .i64 ((0 : Nat) : Int)]).run x.P w = .ok (.slice none 0 0) w := by
      have hw0 : IntKind.i64.wrap 0 = 0 := by decide
      simp [Builtin.append_, run_underlying hu, run_underlying hun, sizeOf, typeInfo, hi, asInt, asIntOf, hw0, go_sem]
    rw [semAt_of rfl, base _ _ hr]
    exact h _ [] (RowOf.nil _ _ _ _ _) _ _ (Holds.put (x := x) (l := l) ⟨hh.size, hh.ds, hh.slots, by simpa using hh.mem⟩ hd _)
  · have hlb := lim_bytes hN hb
    have hr := Lib.run_append_grow_zeros (P := x.P) w t tn ty E i z .i64 kn hu hun hi hz none 0 0 [] (by simp [Builtin.firstCells, go_sem]) N (by omega) hpos (by omega) (by unfold LIM at hN; omega) (by omega) (growslice_fits (by omega) (by rw [Nat.zero_add]; exact hlb))
    simp only [Nat.zero_add] at hr
    rw [semAt_of rfl, base _ _ (by simpa using hr)]
    obtain ⟨C, hC⟩ : ∃ C, C = Builtin.zeroCells z.cells N ++ Builtin.zeroCells z.cells (grownCap w N 0 E - N) := ⟨_, rfl⟩
    have hzc : (Builtin.zeroCells z.cells N).toList = (List.replicate N z.cells.toList).flatten := by
      have := madeCells_flat z.cells N (by rw [hzs]; exact hpos)
      rw [← this]; simp [Builtin.zeroCells, madeCells]
    have hfl := flat_replicate (R := R) (H := HF) (size := i.size) (hR HF) (by simpa using hzs) N
    have hge := grownCap_ge w N 0 E
    refine h _ [(w.heap.size, .cells C E (0, 0))] ⟨(List.replicate N z.cells.toList).flatten, ⟨by rw [hfl.length], .inr ⟨w.heap.size, _, C, by simp, rfl, hh.mem.kept.size, by simpa using hge, grownCap_le_maxLen w N 0 E (lim_max hN), ?_, ?_⟩⟩, hfl, hfl.one' hR1⟩ _ _ (Holds.put (x := x) (l := l) ?_ hd _)
    · rw [hC]; simp only [Array.size_append, size_zeroCells, hzs, ← Nat.add_mul]; refine Nat.mul_le_mul_right _ ?_; omega
    · rw [hC, List.length_replicate, Array.toList_append, hzc]
      exact List.take_left' (by rw [hfl.length]; simp)
    · have hm := Mem.alloc (w := w.drew) (H := H) (fun b o v e => hh.mem.agr b o v e) (.cells C E (0, 0))
      have hm' : Mem w H [] [(w.heap.size, .cells C E (0, 0))] H (w.drew.alloc (.cells C E (0, 0))) := ⟨hm.agr, hm.ok, ⟨hm.kept.os, hm.kept.tape, hm.kept.output, hm.kept.size, Nat.le_trans (Nat.le_succ _) hm.kept.drawn, hm.kept.block⟩, hm.fresh, hm.le, hm.grow, hm.soft⟩
      refine ⟨hh.size, hh.ds, hh.slots, ?_⟩
      have := hh.mem.go0 (K' := [[(w.heap.size, .cells C E (0, 0))]]) (by simpa using hm')
      rw [hC] at this ⊢
      simpa using this
end Go.Ow
