import Derived.Test.YtdoebbgjjlicjaaOwMb
import Derived.ChangeKeysEq
/-
  What is proved here: memory that callees have made is taken back, to be written in: the law's memory of the beginning is set anew; cells of whole numbers may turn, headers stay; over OwZD.
-/
namespace Go.Ow
open Go.RowKit
set_option linter.unusedVariables false
set_option linter.unusedSimpArgs false

variable {x : Cx} {ops : Array Oper} {Q : Exit → Act → World → Prop} {rest : List Oper} {l : Slots} {own : List Own} {H HF : Heaplet}
variable {ty : TypeId} {d : Nat} {pos : String} {aft : Array Edge} {p q : Operand}

/-- no cell of the heaplet lies in newer blocks -/
def Low (H : Heaplet) (n : Nat) : Prop := ∀ b o v, H b o = some v → b < n
theorem Low.of {w : World} (h : Agrees H w) : Low H w.heap.size := fun b o v e => by
  have := h b o v e
  by_cases c : b < w.heap.size
  · exact c
  · exfalso
    have hn : w.heap[b]? = none := Array.getElem?_eq_none (by omega)
    simp [World.cell?, hn] at this
abbrev Cx.at' (x : Cx) (w1 : World) (H : Heaplet) (own : List Own) : Cx := { P := x.P, r := x.r, n := x.n, w0 := w1, H0 := H, S := ids own.flatten, ds := x.ds }
/-- from here on, 'new' is what is new behind this place -/
theorem JC.root {c : Code} {fn : Func} {R : Value → List Own → Heaplet → Prop}
    (h : ∀ w1 : World, x.w0.heap.size ≤ w1.heap.size → Low H w1.heap.size → (∀ i ∈ ids own.flatten, i < w1.heap.size) → JC (x.at' w1 H own) c (Ret (x.at' w1 H own) fn R) l own H) :
    JC x c (Ret x fn R) l own H := fun a w hh => by
  have hlt : ∀ i ∈ ids own.flatten, i < w.heap.size := fun i hi => by
    obtain ⟨p, hp, rfl⟩ := List.mem_map.1 hi; exact hh.mem.ok.lt p hp
  have h1 := h w hh.mem.kept.size (Low.of hh.mem.agr) hlt a w ⟨hh.size, hh.ds, hh.slots, ⟨hh.mem.agr, hh.mem.ok, Kept.refl _ _, fun p hp => .inl (List.mem_map_of_mem hp), Hle.refl _, fun _ _ _ => rfl, Mem.soft0⟩⟩
  refine wpIn_mono h1 ?_
  have key : ∀ (e : Ending) (w' : World), (∃ v K' H', e = .returned v ∧ R v K' H' ∧ Mem w H (ids own.flatten) K'.flatten H' w') → (∃ v K' H', e = .returned v ∧ R v K' H' ∧ Mem x.w0 x.H0 x.S K'.flatten H' w') := by
    rintro e w' ⟨v, K', H', he, hR, hm⟩
    refine ⟨v, K', H', he, hR, ?_⟩
    have := hh.mem.go (K := own.flatten) (rst := []) (by simp) hm
    simpa using this
  intro e a' w' hq
  cases e with
  | normal => exact ⟨hq.1, by obtain ⟨v, h2, h3⟩ := hq.2; exact ⟨v, h2, key _ _ h3⟩⟩
  | ret => exact ⟨hq.1, by obtain ⟨v, h2, h3⟩ := hq.2; exact ⟨v, h2, key _ _ h3⟩⟩
  | panic ch => exact ⟨hq.1, key _ _ hq.2⟩
  | outgrown => exact key _ _ hq
  | exit id => exact hq.elim
  | goto t => exact hq.elim

/-! ### Memory that is taken back -/
/-- a cell of a whole number may have another one; what else it is, it stays -/
def Kin (v v' : Value) : Prop := v' = v ∨ match v with
  | .int .u8 _ => ∃ a : UInt8, v' = .int .u8 (a.toNat : Int)
  | .int .i64 _ => ∃ a : Int, v' = .int .i64 a
  | _ => False
def TH (N : Heaplet) (D : Own) : Prop := ∀ b o v, N b o = some v → ∃ cur t, (b, Obj.cells cur t (0, 0)) ∈ D ∧ ∃ v', cur.toList[o]? = some v' ∧ Kin v v'
theorem TH.exact {N : Heaplet} {D : Own} {b o : Nat} {v : Value} (h : TH N D) (hN : N b o = some v) (hv : ∀ k n, v ≠ .int k n) : ∃ cur t, (b, Obj.cells cur t (0, 0)) ∈ D ∧ cur.toList[o]? = some v := by
  obtain ⟨cur, t, h1, v', h2, h3⟩ := h b o v hN
  rcases h3 with rfl | h3
  · exact ⟨cur, t, h1, h2⟩
  · exfalso; revert h3; cases v <;> simp_all
theorem TH.u8 {N : Heaplet} {D : Own} {b o : Nat} {y : UInt8} (h : TH N D) (hN : N b o = some (.int .u8 (y.toNat : Int))) : ∃ (a : UInt8) (cur : Array Value) (t : TypeId), (b, Obj.cells cur t (0, 0)) ∈ D ∧ cur.toList[o]? = some (.int .u8 (a.toNat : Int)) := by
  obtain ⟨cur, t, h1, v', h2, h3⟩ := h b o _ hN
  rcases h3 with rfl | ⟨a, rfl⟩
  · exact ⟨y, cur, t, h1, h2⟩
  · exact ⟨a, cur, t, h1, h2⟩
theorem TH.i64 {N : Heaplet} {D : Own} {b o : Nat} {y : Int} (h : TH N D) (hN : N b o = some (.int .i64 y)) : ∃ (a : Int) (cur : Array Value) (t : TypeId), (b, Obj.cells cur t (0, 0)) ∈ D ∧ cur.toList[o]? = some (.int .i64 a) := by
  obtain ⟨cur, t, h1, v', h2, h3⟩ := h b o _ hN
  rcases h3 with rfl | ⟨a, rfl⟩
  · exact ⟨y, cur, t, h1, h2⟩
  · exact ⟨a, cur, t, h1, h2⟩
/-- all blocks that are new, and not owned -/
def newBlocks (n : Nat) (own : Own) (w : World) : Own := (List.range' n (w.heap.size - n)).filterMap fun b => if b ∈ ids own then none else (w.heap[b]?).map fun o => (b, o)
theorem mem_newBlocks {n : Nat} {own : Own} {w : World} {q : Nat × Obj} : q ∈ newBlocks n own w ↔ n ≤ q.1 ∧ q.1 ∉ ids own ∧ w.heap[q.1]? = some q.2 := by
  unfold newBlocks
  rw [List.mem_filterMap]
  constructor
  · rintro ⟨b, hb, h⟩
    rw [List.mem_range'_1] at hb
    by_cases c : b ∈ ids own
    · rw [if_pos c] at h; cases h
    · rw [if_neg c] at h
      cases ho : w.heap[b]? with
      | none => rw [ho] at h; cases h
      | some o => rw [ho] at h; obtain rfl := Option.some.inj h; exact ⟨hb.1, c, ho⟩
  · rintro ⟨h1, h2, h3⟩
    have hlt : q.1 < w.heap.size := (Array.getElem?_eq_some_iff.1 h3).1
    exact ⟨q.1, by rw [List.mem_range'_1]; omega, by rw [if_neg h2, h3]; rfl⟩
theorem newBlocks_nodup (n : Nat) (own : Own) (w : World) : (ids (newBlocks n own w)).Nodup := by
  unfold newBlocks ids
  have : ∀ l : List Nat, l.Nodup → ((l.filterMap fun b => if b ∈ ids own then none else (w.heap[b]?).map fun o => (b, o)).map (·.1)).Nodup := by
    intro l
    induction l with
    | nil => intro _; simp
    | cons b l ih =>
      intro h
      rw [List.nodup_cons] at h
      have ih := ih h.2
      rw [List.filterMap_cons]
      split
      · exact ih
      · rename_i q hq
        rw [List.map_cons, List.nodup_cons]
        refine ⟨fun hm => ?_, ih⟩
        obtain ⟨r, hr, e⟩ := List.mem_map.1 hm
        obtain ⟨b', hb', hr'⟩ := List.mem_filterMap.1 hr
        have e1 : q.1 = b := by
          by_cases c : b ∈ ids own
          · rw [if_pos c] at hq; cases hq
          · rw [if_neg c] at hq
            cases ho : w.heap[b]? with
            | none => rw [ho] at hq; cases hq
            | some o => rw [ho] at hq; obtain rfl := Option.some.inj hq; rfl
        have e2 : r.1 = b' := by
          by_cases c : b' ∈ ids own
          · rw [if_pos c] at hr'; cases hr'
          · rw [if_neg c] at hr'
            cases ho : w.heap[b']? with
            | none => rw [ho] at hr'; cases hr'
            | some o => rw [ho] at hr'; obtain rfl := Option.some.inj hr'; rfl
        exact h.1 (by rw [← e1, ← e, e2]; exact hb')
  exact this _ (List.nodup_range')
theorem JC.thaw {c : Code} (hl : Low x.H0 x.w0.heap.size) (h : ∀ D, TH (New x.H0 H) D → JC x c Q l (D :: own) x.H0) : JC x c Q l own H := fun a w hh => by
  have hnew : ∀ b o v, New x.H0 H b o = some v → x.w0.heap.size ≤ b ∧ b ∉ ids own.flatten ∧ ∃ cur t, w.heap[b]? = some (.cells cur t (0, 0)) ∧ cur.toList[o]? = some v := by
    intro b o v e
    have e0 : x.H0 b o = none := by
      unfold New at e; split at e
      · assumption
      · cases e
    have e1 := New.le _ _ b o v e
    refine ⟨?_, ?_, ?_⟩
    · apply Nat.le_of_not_lt
      intro hc
      rw [hh.mem.grow b o hc, e0] at e1; cases e1
    · intro hc
      obtain ⟨p, hp, rfl⟩ := List.mem_map.1 hc
      rw [hh.mem.ok.apart p hp o] at e1; cases e1
    · obtain ⟨cur, t, hb⟩ := hh.mem.soft b o v e0 e1
      refine ⟨cur, t, hb, ?_⟩
      have := hh.mem.agr b o v e1
      rw [cell_of_row w b o cur t (0, 0) hb] at this
      simpa using this
  refine h (newBlocks x.w0.heap.size own.flatten w) ?_ a w ?_
  · intro b o v e
    obtain ⟨h1, h2, cur, t, h3, h4⟩ := hnew b o v e
    exact ⟨cur, t, mem_newBlocks.2 ⟨h1, h2, h3⟩, v, h4, .inl rfl⟩
  · have hh0 := hh.low0
    refine ⟨hh0.size, hh0.ds, hh0.slots, hh0.mem.agr, ⟨?_, ?_, ?_⟩, hh0.mem.kept, ?_, hh0.mem.le, hh0.mem.grow, hh0.mem.soft⟩
    · intro p hp
      rw [List.flatten_cons, List.mem_append] at hp
      rcases hp with hp | hp
      · exact (mem_newBlocks.1 hp).2.2
      · exact hh0.mem.ok.here p hp
    · rw [List.flatten_cons]
      simp only [ids, List.map_append]
      refine List.nodup_append.2 ⟨newBlocks_nodup _ _ _, hh0.mem.ok.nodup, fun i hi j hj e => ?_⟩
      subst e
      obtain ⟨p, hp, rfl⟩ := List.mem_map.1 hi
      exact (mem_newBlocks.1 hp).2.1 hj
    · intro p hp o
      rw [List.flatten_cons, List.mem_append] at hp
      rcases hp with hp | hp
      · cases e : x.H0 p.1 o with
        | none => rfl
        | some v => have := hl _ _ _ e; have := (mem_newBlocks.1 hp).1; omega
      · exact hh0.mem.ok.apart p hp o
    · intro p hp
      rw [List.flatten_cons, List.mem_append] at hp
      rcases hp with hp | hp
      · exact .inr (mem_newBlocks.1 hp).1
      · exact hh0.mem.fresh p hp
theorem JL.stT (i : Nat) {T b o : Nat} {D : Own} {N : Heaplet} {v u : Value} (hs : shapeOf x.P T = some (false, 1)) (hi : own[i]? = some D) (hT : TH N D) (hN : N b o = some v) (h1 : evo l p = some (.pointer (some ⟨b, o, none⟩))) (h2 : evo l q = some u)
    (hu : ∃ k n, u = .int k n) (hk : Kin v u) (h : ∀ D', TH N D' → JL x ops Q rest l (own.set i D') H) : JL x ops Q (⟨none, .store T p q, ty, pos, aft, none⟩ :: rest) l own H := fun a w hh => by
  have e1 := Z4 hh h1
  have e2 := Z4 hh h2
  simp only [wpLs, Z8, if_true]
  refine ⟨fun _ _ => trivial, ?_⟩
  obtain ⟨cur, t, hm, v', hv', -⟩ := hT b o v hN
  have hin := own_here hh.mem hi
  have hbk := hin.here _ hm
  have hap : ∀ o, H b o = none := fun o => hin.apart _ hm o
  have ho : o < cur.size := by have := (List.getElem?_eq_some_iff.1 hv').1; simpa using this
  obtain ⟨k, n, rfl⟩ := hu
  have hst := run_storeAt (P := x.P) (T := T) (w := w) (b := b) (o := o) (v := .int k n) hs rfl rfl hbk (by omega)
  obtain ⟨C, hC⟩ : ∃ C, C = (cur.toList.take o ++ (Value.int k n).cells.toList ++ cur.toList.drop (o + 1)).toArray := ⟨_, rfl⟩
  rw [← hC] at hst
  have hr : (execOp a.eval ⟨none, .store T p q, ty, pos, aft, none⟩).run x.P w = .ok .skip (w.setRow b C) := by
    generalize a.eval = ρ at e1 e2
    simp only [execOp, e1, e2]
    exact run_u hst
  rw [semAt_of rfl, hr]
  obtain ⟨A, B, hD⟩ := List.append_of_mem hm
  have hset : C.toList = cur.toList.set o (.int k n) := by
    rw [hC, List.set_eq_take_append_cons_drop, if_pos (by simpa using ho)]
    simp [Value.cells]
  have hnd := hin.nodup
  refine h (A ++ (b, .cells C t (0, 0)) :: B) ?_ _ _ ⟨hh.size, hh.ds, hh.slots, ?_⟩
  · intro b' o' w' hw'
    obtain ⟨cur', t', g1, v2, g2, g3⟩ := hT b' o' w' hw'
    by_cases c : b' = b
    · subst c
      have : (b', Obj.cells cur' t' (0, 0)) = (b', Obj.cells cur t (0, 0)) := by
        rw [hD] at g1 hnd
        simp only [ids, List.map_append, List.map_cons, List.nodup_append, List.nodup_cons] at hnd
        rcases List.mem_append.1 g1 with g | g
        · exact absurd rfl (hnd.2.2 b' (List.mem_map.2 ⟨_, g, rfl⟩) b' (by simp))
        · rcases List.mem_cons.1 g with g | g
          · exact g
          · exact absurd (List.mem_map.2 ⟨_, g, rfl⟩) hnd.2.1.1
      simp only [Prod.mk.injEq, Obj.cells.injEq, true_and] at this
      obtain ⟨rfl, rfl, -⟩ := this
      refine ⟨C, t', by simp, ?_⟩
      rw [hset, List.getElem?_set]
      by_cases c2 : o = o'
      · subst c2
        rw [hN] at hw'
        obtain rfl := Option.some.inj hw'
        exact ⟨_, by rw [if_pos rfl, if_pos (by simpa using ho)], hk⟩
      · exact ⟨v2, by rw [if_neg c2]; exact g2, g3⟩
    · refine ⟨cur', t', ?_, v2, g2, g3⟩
      rw [hD] at g1
      rcases List.mem_append.1 g1 with g | g
      · exact List.mem_append.2 (.inl g)
      · rcases List.mem_cons.1 g with g | g
        · cases g; exact absurd rfl c
        · exact List.mem_append.2 (.inr (List.mem_cons_of_mem _ g))
  · have := hh.mem.go1 (K' := A ++ (b, .cells C t (0, 0)) :: B) hi (by
      have hm1 : Mem w H (ids D) D H w := Mem.same hh.mem.agr hin
      have := hm1.go (K := [(b, .cells cur t (0, 0))]) (rst := A ++ B) (by rw [hD]; exact List.perm_middle) (by simpa [ids] using Mem.setRow hh.mem.agr hbk hap C)
      exact this.perm (by simpa using (List.perm_middle (a := (b, Obj.cells C t (0, 0))) (l₁ := A) (l₂ := B)).symm))
    exact this
theorem Kin.u8 {y a : UInt8} : Kin (.int .u8 (y.toNat : Int)) (.int .u8 (a.toNat : Int)) := .inr ⟨a, rfl⟩
theorem Kin.i64 {y a : Int} : Kin (.int .i64 y) (.int .i64 a) := .inr ⟨a, rfl⟩
theorem JC.tidyP {c : Code} {l' : Slots} {own' rst : List Own} (hl : Sub l' l) (hp : own.flatten.Perm (own'.flatten ++ rst.flatten)) (h : JC x c Q l' own' H) : JC x c Q l own H := fun a w hh => by
  have hh' := hh.sub hl
  exact h a w ⟨hh'.size, hh'.ds, hh'.slots, (hh'.mem.perm hp).sub (List.sublist_append_left _ _)⟩
end Go.Ow

/-
  What is proved here: rows with a room of noughts behind them: 'make' with a length and a greater room, appends within it, the row with its noughts; over OwZE.
-/
namespace Go.Ow
open Go.RowKit
set_option linter.unusedVariables false
set_option linter.unusedSimpArgs false

variable {x : Cx} {ops : Array Oper} {Q : Exit → Act → World → Prop} {rest : List Oper} {l : Slots} {own : List Own} {H HF : Heaplet}
variable {ty : TypeId} {d : Nat} {pos : String} {aft : Array Edge} {p q : Operand} {t : TypeId}

/-- behind the row of n bytes there is room for N in all, and it holds noughts -/
def Spare (v : Value) (K : Own) (N : Nat) : Prop := ∃ g n cur E, v = .slice (some ⟨g, 0, none⟩) n N ∧ K = [(g, Obj.cells cur E (0, 0))] ∧ n ≤ N ∧ N ≤ cur.size ∧ (cur.toList.drop n).take (N - n) = List.replicate (N - n) (.int .u8 0)
theorem Flat.bytes_eq {H : Heaplet} : ∀ {l : List UInt8} {cells : List Value}, Flat H RU8 1 cells l → cells = bvs l
  | [], cells, h => h
  | b :: l, cells, h => by
    obtain ⟨cs, more, rfl, h1, h2, h3⟩ := h
    rw [Flat.bytes_eq h3, show cs = [.int .u8 (b.toNat : Int)] from h2]; rfl
/-- the row with its noughts -/
theorem RowOf.spare {B : Nat} {E : TypeId} {v : Value} {m m' : List UInt8} {K : Own} {N : Nat} {b : Int} (h : RowOf HF RU8 B E 1 v m K) (hs : Spare v K N) (hm : m' = m ++ List.replicate (b.toNat - m.length) 0) (hb : (m.length : Int) ≤ b ∧ b ≤ N) :
    ∃ g0, v = .slice (some ⟨g0, 0, none⟩) m.length N ∧ RowOf HF RU8 B E 1 (.slice (some ⟨g0, 0, none⟩) b.toNat N) m' K := by
  obtain ⟨g, n, cur, E', rfl, rfl, h1, h2, h3⟩ := hs
  obtain ⟨cells, ⟨h0, hr⟩, hf, ho⟩ := h
  rcases hr with ⟨e, -⟩ | ⟨g', cap, cur', e1, e2, e3, e4, e5, e6, e7⟩
  · cases e
  simp only [Value.slice.injEq, Option.some.injEq, Addr.mk.injEq] at e1
  obtain ⟨⟨rfl, -, -⟩, rfl, rfl⟩ := e1
  simp only [List.cons.injEq, Prod.mk.injEq, Obj.cells.injEq, and_true, true_and] at e2
  obtain ⟨rfl, rfl⟩ := e2
  have hml : m'.length = b.toNat := by rw [hm, List.length_append, List.length_replicate]; omega
  refine ⟨_, rfl, bvs m', ⟨by rw [hml]; simp [bvs, hml], .inr ⟨g, N, cur, by rw [hml], rfl, e3, by rw [hml]; omega, e5, by omega, ?_⟩⟩, Flat.bytes m', (Flat.bytes (H := HF) m').one' RU8.one⟩
  rw [hml, Nat.mul_one]
  have hc : cells = bvs m := Flat.bytes_eq hf
  have e : cur.toList.take b.toNat = cur.toList.take m.length ++ ((cur.toList.drop m.length).take (b.toNat - m.length)) := by
    conv => lhs; rw [show b.toNat = m.length + (b.toNat - m.length) by omega, List.take_add]
  have e8 : (cur.toList.drop m.length).take (b.toNat - m.length) = List.replicate (b.toNat - m.length) (.int .u8 0) := by
    have := congrArg (List.take (b.toNat - m.length)) h3
    rw [List.take_take, Nat.min_eq_left (by omega), List.take_replicate, Nat.min_eq_left (by omega)] at this
    exact this
  rw [Nat.mul_one] at e7
  rw [e, e8, e7, hc, hm]
  simp [bvs]
end Go.Ow

/-
  What is proved here: plain vocabulary of rows with a room of noughts.
-/
namespace Go.Ow
variable {α β : Type}
end Go.Ow

/-
  What is proved here: arrays of bytes: slices of them, slices as arrays, equality; appends of noughts to a slice that is full; over OwZF.
-/
namespace Go.Ow
open Go.RowKit
set_option linter.unusedVariables false
set_option linter.unusedSimpArgs false

variable {x : Cx} {ops : Array Oper} {Q : Exit → Act → World → Prop} {rest : List Oper} {l : Slots} {own : List Own} {H HF : Heaplet}
variable {ty : TypeId} {d : Nat} {pos : String} {aft : Array Edge} {p q : Operand} {t u : TypeId}

theorem IsSlice.first {ao : Option Addr} {n c N : Nat} {ls m : List UInt8} (h : IsSlice HF RU8 1 (.slice ao n c) ls) (hm : m = ls.take N) (hN : N ≤ ls.length) (h0 : 0 < N) :
    ∃ b o, ao = some ⟨b, o, none⟩ ∧ N ≤ n ∧ ∀ j u, (bvs m)[j]? = some u → HF b (o + j) = some u := by
  subst hm
  obtain ⟨cells, hf, ao', cap', e, hc⟩ := h.cells
  obtain rfl := Flat.bytes_eq hf
  simp only [Value.slice.injEq] at e
  obtain ⟨rfl, rfl, rfl⟩ := e
  rcases hc with rfl | ⟨b, o, rfl, hc⟩
  · simp only [List.length_nil] at hN; omega
  · refine ⟨b, o, rfl, hN, fun j u hj => hc j u ?_⟩
    have : bvs (ls.take N) = (bvs ls).take N := by unfold bvs; rw [List.map_take]
    rw [this, List.getElem?_take] at hj
    split at hj
    · exact hj
    · cases hj

/-! ### Equality -/
/-! ### An own array as a row -/
/-! ### Append of noughts to a slice that is full -/
end Go.Ow

/-
  What is proved here: cells that are made, at any time, in a region whose order Go leaves open: told apart from its other operations; over OwZG.
-/
namespace Go.Ow
open Go.RowKit
set_option linter.unusedVariables false
set_option linter.unusedSimpArgs false

variable {x : Cx} {ops : Array Oper} {Q : Exit → Act → World → Prop} {l : Slots} {own : List Own} {H : Heaplet} {so : List Own} {sH : Heaplet}

/-- an operation that makes a cell: its place, its slot -/
structure ASpec where
  i : Nat
  d : Nat
  T : TypeId
  z : Value
abbrev AM := List (ASpec × Option Nat)
def AM.sl : AM → Slots
  | [] => []
  | (s, some b) :: r => (s.d, .pointer (some ⟨b, 0, none⟩)) :: AM.sl r
  | (s, none) :: r => AM.sl r
def AM.ow : AM → List Own
  | [] => []
  | (s, some b) :: r => [(b, .cells s.z.cells s.T (0, 0))] :: AM.ow r
  | (s, none) :: r => AM.ow r
def AM.lst : AM → Array Bool → Array Bool
  | [], a => a
  | (s, some _) :: r, a => AM.lst r (a.setIfInBounds s.i true)
  | (s, none) :: r, a => AM.lst r a
def AM.left : AM → Nat
  | [] => 0
  | (_, some _) :: r => AM.left r
  | (_, none) :: r => AM.left r + 1
def AM.bs (m : AM) : List Bool := m.map (·.2.isSome)
def lstB : List ASpec → List Bool → Array Bool → Array Bool
  | s :: r, true :: bs, a => lstB r bs (a.setIfInBounds s.i true)
  | _ :: r, false :: bs, a => lstB r bs a
  | _, _, a => a
def undone : List ASpec → List Bool → List Nat
  | _ :: r, true :: bs => undone r bs
  | s :: r, false :: bs => s.i :: undone r bs
  | _, _ => []
def allB : Nat → List (List Bool)
  | 0 => [[]]
  | n + 1 => (allB n).flatMap fun bs => [true :: bs, false :: bs]
theorem allB_mem : ∀ (bs : List Bool), bs ∈ allB bs.length
  | [] => by simp [allB]
  | b :: bs => by
    simp only [List.length_cons, allB, List.mem_flatMap]
    exact ⟨bs, allB_mem bs, by cases b <;> simp⟩
theorem AM.lst_eq : ∀ (m : AM) (a : Array Bool), m.lst a = lstB (m.map (·.1)) m.bs a
  | [], _ => rfl
  | (s, some b) :: r, a => AM.lst_eq r _
  | (s, none) :: r, a => AM.lst_eq r _
theorem set_true_comm (a : Array Bool) (i j : Nat) : (a.setIfInBounds i true).setIfInBounds j true = (a.setIfInBounds j true).setIfInBounds i true := by
  by_cases h : i = j
  · subst h; rfl
  · exact Array.setIfInBounds_comm _ _ h
theorem AM.lst_set : ∀ (m : AM) (a : Array Bool) (k : Nat), (m.lst a).setIfInBounds k true = m.lst (a.setIfInBounds k true)
  | [], _, _ => rfl
  | (s, some b) :: r, a, k => by show (AM.lst r _).setIfInBounds k true = AM.lst r _; rw [AM.lst_set r, set_true_comm]
  | (s, none) :: r, a, k => AM.lst_set r a k
theorem AM.lst_none : ∀ (A : List ASpec) (a : Array Bool), AM.lst (A.map fun s => (s, none)) a = a
  | [], _ => rfl
  | s :: r, a => AM.lst_none r a
theorem AM.sl_none : ∀ (A : List ASpec), AM.sl (A.map fun s => (s, none)) = []
  | [] => rfl
  | s :: r => AM.sl_none r
theorem AM.ow_none : ∀ (A : List ASpec), AM.ow (A.map fun s => (s, none)) = []
  | [] => rfl
  | s :: r => AM.ow_none r
theorem AM.left_none : ∀ (A : List ASpec), AM.left (A.map fun s => (s, none)) = A.length
  | [] => rfl
  | s :: r => by show AM.left (r.map fun s => (s, none)) + 1 = _; rw [AM.left_none r]; rfl
/-- one that is not made yet is made -/
theorem AM.split : ∀ (m : AM) (k : Nat), k ∈ undone (m.map (·.1)) m.bs → ∃ m1 m2 s, m = m1 ++ (s, none) :: m2 ∧ s.i = k
  | (s, some b) :: r, k, h => by
    obtain ⟨m1, m2, s', rfl, e⟩ := AM.split r k h
    exact ⟨(s, some b) :: m1, m2, s', rfl, e⟩
  | (s, none) :: r, k, h => by
    have h' : k ∈ s.i :: undone (r.map (·.1)) (AM.bs r) := h
    rcases List.mem_cons.1 h' with e | e
    · exact ⟨[], r, s, rfl, e.symm⟩
    · obtain ⟨m1, m2, s', rfl, e2⟩ := AM.split r k e
      exact ⟨(s, none) :: m1, m2, s', rfl, e2⟩
theorem AM.made_left : ∀ (m1 m2 : AM) (s : ASpec) (b : Nat), (m1 ++ (s, none) :: m2).left = (m1 ++ (s, some b) :: m2).left + 1
  | [], _, _, _ => rfl
  | (_, some _) :: r, m2, s, b => AM.made_left r m2 s b
  | (_, none) :: r, m2, s, b => by show AM.left (r ++ _) + 1 = AM.left (r ++ _) + 1 + 1; rw [AM.made_left r m2 s b]
theorem AM.made_lst : ∀ (m1 m2 : AM) (s : ASpec) (b : Nat) (a : Array Bool), (m1 ++ (s, some b) :: m2).lst a = (m1 ++ (s, none) :: m2).lst (a.setIfInBounds s.i true)
  | [], _, _, _, _ => rfl
  | (t, some _) :: r, m2, s, b, a => by show AM.lst (r ++ _) _ = AM.lst (r ++ _) _; rw [AM.made_lst r m2 s b, set_true_comm]
  | (t, none) :: r, m2, s, b, a => AM.made_lst r m2 s b a
theorem AM.made_map : ∀ (m1 m2 : AM) (s : ASpec) (b : Nat), (m1 ++ (s, some b) :: m2).map (·.1) = (m1 ++ (s, none) :: m2).map (·.1) := fun m1 m2 s b => by simp
theorem AM.made_ow : ∀ (m1 m2 : AM) (s : ASpec) (b : Nat), (AM.ow (m1 ++ (s, some b) :: m2)).Perm ([(b, .cells s.z.cells s.T (0, 0))] :: AM.ow (m1 ++ (s, none) :: m2))
  | [], _, _, _ => List.Perm.refl _
  | (t, some c) :: r, m2, s, b => ((AM.made_ow r m2 s b).cons _).trans (List.Perm.swap _ _ _)
  | (t, none) :: r, m2, s, b => AM.made_ow r m2 s b
theorem lk_app : ∀ (l t : Slots) (i : Nat), lk (l ++ t) i = match lk l i with | some v => some v | none => lk t i
  | [], _, _ => rfl
  | (k, v) :: r, t, i => by
    simp only [List.cons_append, lk]
    cases h : Nat.beq k i with
    | true => rfl
    | false => exact lk_app r t i
theorem lk_appL {l t : Slots} {i : Nat} {v : Value} (h : lk l i = some v) : lk (l ++ t) i = some v := by rw [lk_app, h]
theorem evo_app {l t : Slots} {o : Operand} {v : Value} (h : evo l o = some v) : evo (l ++ t) o = some v := by
  cases o with
  | tmp k => exact lk_appL h
  | const u => exact h
  | global g => exact h
  | func f => exact h
theorem AM.made_lk : ∀ (m1 m2 : AM) (s : ASpec) (b : Nat) (i : Nat) (v : Value), ((m1 ++ (s, none) :: m2).map (fun p => p.1.d)).Nodup → lk (AM.sl (m1 ++ (s, some b) :: m2)) i = some v →
    (i = s.d ∧ v = .pointer (some ⟨b, 0, none⟩)) ∨ (i ≠ s.d ∧ lk (AM.sl (m1 ++ (s, none) :: m2)) i = some v)
  | [], m2, s, b, i, v, hn, h => by
    have h' : lk ((s.d, .pointer (some ⟨b, 0, none⟩)) :: AM.sl m2) i = some v := h
    simp only [lk] at h'
    cases hb : Nat.beq s.d i with
    | true => rw [hb] at h'; simp at h'; exact .inl ⟨(Nat.eq_of_beq_eq_true hb).symm, h'.symm⟩
    | false =>
      rw [hb] at h'
      exact .inr ⟨fun e => by subst e; simp at hb, h'⟩
  | (t, some c) :: r, m2, s, b, i, v, hn, h => by
    have h' : lk ((t.d, .pointer (some ⟨c, 0, none⟩)) :: AM.sl (r ++ (s, some b) :: m2)) i = some v := h
    have hn' : t.d ∉ (r ++ (s, none) :: m2).map (fun p => p.1.d) ∧ ((r ++ (s, none) :: m2).map (fun p => p.1.d)).Nodup := by
      rw [List.cons_append, List.map_cons, List.nodup_cons] at hn; exact hn
    have hts : t.d ≠ s.d := fun e => hn'.1 (by rw [e]; simp)
    show _ ∨ (_ ∧ lk ((t.d, .pointer (some ⟨c, 0, none⟩)) :: AM.sl (r ++ (s, none) :: m2)) i = some v)
    simp only [lk] at h' ⊢
    cases hb : Nat.beq t.d i with
    | true =>
      rw [hb] at h'
      have e : t.d = i := Nat.eq_of_beq_eq_true hb
      exact .inr ⟨by rw [← e]; exact hts, h'⟩
    | false => rw [hb] at h'; exact AM.made_lk r m2 s b i v hn'.2 h'
  | (t, none) :: r, m2, s, b, i, v, hn, h => by
    have hn' : ((r ++ (s, none) :: m2).map (fun p => p.1.d)).Nodup := by
      rw [List.cons_append, List.map_cons, List.nodup_cons] at hn; exact hn.2
    exact AM.made_lk r m2 s b i v hn' h

/-- what is asked of the list -/
def AOk (x : Cx) (ops : Array Oper) : List ASpec → Prop
  | [] => True
  | s :: r => (∃ ty pos aft, ops[s.i]? = some ⟨some s.d, .alloc s.T, ty, pos, aft, none⟩ ∧ zeroOf x.P s.T = some s.z ∧ Nat.blt s.d x.n = true) ∧ AOk x ops r
theorem AOk.at {A : List ASpec} (h : AOk x ops A) {s : ASpec} (hs : s ∈ A) : ∃ ty pos aft, ops[s.i]? = some ⟨some s.d, .alloc s.T, ty, pos, aft, none⟩ ∧ zeroOf x.P s.T = some s.z ∧ Nat.blt s.d x.n = true := by
  induction A with
  | nil => cases hs
  | cons t r ih =>
    rcases List.mem_cons.1 hs with rfl | h'
    · exact h.1
    · exact ih h.2 h'
def freeIn (l : Slots) : List ASpec → Bool
  | [] => true
  | s :: r => (lk l s.d).isNone && r.all (fun t => !Nat.beq t.d s.d) && freeIn l r
theorem freeIn.lk {A : List ASpec} (h : freeIn l A = true) {s : ASpec} (hs : s ∈ A) : lk l s.d = none := by
  induction A with
  | nil => cases hs
  | cons t r ih =>
    simp only [freeIn, Bool.and_eq_true] at h
    rcases List.mem_cons.1 hs with rfl | h'
    · simpa using h.1.1
    · exact ih h.2 h'
theorem freeIn.nodup {A : List ASpec} (h : freeIn l A = true) : (A.map (·.d)).Nodup := by
  induction A with
  | nil => exact List.nodup_nil
  | cons t r ih =>
    simp only [freeIn, Bool.and_eq_true] at h
    rw [List.map_cons, List.nodup_cons]
    refine ⟨fun hm => ?_, ih h.2⟩
    obtain ⟨s, hs, e⟩ := List.mem_map.1 hm
    have := List.all_eq_true.1 h.1.2 s hs
    simp [e] at this

def JAA (x : Cx) (ops : Array Oper) (Q : Exit → Act → World → Prop) (so : List Own) (sH : Heaplet) (A : List ASpec) (fuel : Nat) (listed : Array Bool) (l : Slots) (own : List Own) (H : Heaplet) : Prop :=
  ∀ m : AM, m.map (·.1) = A → (∀ p ∈ m, ∀ b, p.2 = some b → x.w0.heap.size ≤ b) → JA x ops Q so sH (fuel + m.left) (m.lst listed) (l ++ m.sl) (own ++ m.ow) H
def JOA (x : Cx) (ops : Array Oper) (Q : Exit → Act → World → Prop) (so : List Own) (sH : Heaplet) (A : List ASpec) (fuel : Nat) (listed : Array Bool) (i : Nat) (l : Slots) (own : List Own) (H : Heaplet) : Prop :=
  ∀ m : AM, m.map (·.1) = A → (∀ p ∈ m, ∀ b, p.2 = some b → x.w0.heap.size ≤ b) → JO x ops Q so sH (fuel + m.left) (m.lst listed) i (l ++ m.sl) (own ++ m.ow) H

theorem JAA.start (A : List ASpec) {fuel N : Nat} {listed : Array Bool} (hN : fuel + A.length = N) (h : JAA x ops Q so sH A fuel listed l own H) : JA x ops Q so sH N listed l own H := by
  have := h (A.map fun s => (s, none)) (by simp [Function.comp_def]) (fun p hp b e => by obtain ⟨s, -, rfl⟩ := List.mem_map.1 hp; cases e)
  rw [AM.lst_none, AM.sl_none, AM.ow_none, AM.left_none, hN] at this
  simpa using this
theorem SubO.app : ∀ {so own : List Own} (t : List Own), SubO so own → SubO so (own ++ t)
  | [], _, _, _ => trivial
  | s :: r, own, t, h => by
    obtain ⟨⟨i, hi⟩, h2⟩ := h
    refine ⟨⟨i, ?_⟩, SubO.app t h2⟩
    rw [List.getElem?_append_left (List.getElem?_eq_some_iff.1 hi).1]; exact hi
theorem JN.slots {K : Act → World → Prop} {l' : Slots} (h : ∀ i v, lk l' i = some v → lk l i = some v) (hk : JN x K l' own H) : JN x K l own H := fun a w hh =>
  hk a w ⟨hh.size, hh.ds, fun i v e => hh.slots i v (h i v e), hh.mem⟩
/-- a cell is made -/
theorem JOA.make {A : List ASpec} {F : Nat} {listed : Array Bool} (hA : AOk x ops A) (hle : Hle sH H) (hso : SubO so own) (hf : freeIn l A = true) {m : AM} (hm : m.map (·.1) = A) (hb : ∀ p ∈ m, ∀ b, p.2 = some b → x.w0.heap.size ≤ b)
    {k : Nat} (hk : k ∈ undone A m.bs) (ih : ∀ m' : AM, m'.left < m.left → m'.map (·.1) = A → (∀ p ∈ m', ∀ b, p.2 = some b → x.w0.heap.size ≤ b) → JA x ops Q so sH (F + m'.left) (m'.lst listed) (l ++ m'.sl) (own ++ m'.ow) H) :
    ∃ f, F + m.left = f + 1 ∧ JO x ops Q so sH f (m.lst listed) k (l ++ m.sl) (own ++ m.ow) H := by
  rw [← hm] at hk
  obtain ⟨m1, m2, s, rfl, rfl⟩ := AM.split m k hk
  have hsA : s ∈ A := by rw [← hm]; simp
  obtain ⟨ty, pos, aft, ho, hz, hd⟩ := hA.at hsA
  have hl := AM.made_left m1 m2 s 0
  refine ⟨F + AM.left (m1 ++ (s, some 0) :: m2), by omega, ?_⟩
  refine JO.step ho trivial rfl (fun K hK => ?_)
  refine JL.alloc hz hd (fun b hbb => ?_)
  refine ZD ?_
  have hleft : AM.left (m1 ++ (s, some b) :: m2) = AM.left (m1 ++ (s, some 0) :: m2) := by
    have := AM.made_left m1 m2 s b; omega
  have hmm : (m1 ++ (s, some b) :: m2).map (·.1) = A := by rw [AM.made_map]; exact hm
  have hJ := ih (m1 ++ (s, some b) :: m2) (by omega) hmm (fun p hp b' e => by
    rcases List.mem_append.1 hp with h | h
    · exact hb p (by simp [h]) b' e
    · rcases List.mem_cons.1 h with rfl | h
      · simp at e; subst e; exact hbb
      · exact hb p (by simp [h]) b' e)
  rw [hleft, AM.made_lst, ← AM.lst_set] at hJ
  have hnd : ((m1 ++ (s, none) :: m2).map (fun p => p.1.d)).Nodup := by
    have := freeIn.nodup hf; rw [← hm, List.map_map] at this; exact this
  have hln := freeIn.lk hf hsA
  have hsub : ∀ i v, lk (l ++ AM.sl (m1 ++ (s, some b) :: m2)) i = some v → lk ((s.d, .pointer (some ⟨b, 0, none⟩)) :: (l ++ AM.sl (m1 ++ (s, none) :: m2))) i = some v := fun i v e => by
    rw [lk_app] at e
    simp only [lk]
    cases hli : lk l i with
    | some u =>
      rw [hli] at e; simp at e; subst e
      have : Nat.beq s.d i = false := by
        cases hbq : Nat.beq s.d i with
        | false => rfl
        | true => have := Nat.eq_of_beq_eq_true hbq; rw [← this, hln] at hli; cases hli
      rw [this]; exact lk_appL hli
    | none =>
      rw [hli] at e
      rcases AM.made_lk m1 m2 s b i v hnd e with ⟨rfl, rfl⟩ | ⟨hne, h⟩
      · simp
      · have : Nat.beq s.d i = false := by
          cases hbq : Nat.beq s.d i with
          | false => rfl
          | true => exact absurd (Nat.eq_of_beq_eq_true hbq).symm hne
        rw [this, lk_app, hli]; exact h
  have hperm : ([(b, Obj.cells s.z.cells s.T (0, 0))] :: (own ++ AM.ow (m1 ++ (s, none) :: m2))).flatten.Perm (own ++ AM.ow (m1 ++ (s, some b) :: m2)).flatten := by
    refine List.Perm.flatten ?_
    refine List.Perm.trans ?_ ((AM.made_ow m1 m2 s b).symm.append_left own)
    exact List.perm_middle.symm
  refine JN.slots hsub (JN.perm hperm (hK _ _ _ ?_ hJ))
  exact ZE hle (hso.app _)

/-- some of the others may come up, too -/
theorem JAA.many {A : List ASpec} (R : List Nat) {fuel : Nat} {listed : Array Bool} (hA : AOk x ops A) (hle : Hle sH H) (hso : SubO so own) (hf : freeIn l A = true)
    (hr : (allB A.length).all (fun bs => !(Region.ready .any ops (lstB A bs listed)).isEmpty && (Region.ready .any ops (lstB A bs listed)).all (fun k => R.contains k || (undone A bs).contains k)) = true)
    (h : ∀ i ∈ R, JOA x ops Q so sH A fuel listed i l own H) : JAA x ops Q so sH A (fuel + 1) listed l own H := by
  intro m
  obtain ⟨n, hn⟩ : ∃ n, n = m.left := ⟨_, rfl⟩
  induction n using Nat.strongRecOn generalizing m with
  | _ n ih =>
    intro hm hb a w hh
    have hmem : m.bs ∈ allB A.length := by have := allB_mem m.bs; rwa [show m.bs.length = A.length by rw [← hm]; simp [AM.bs]] at this
    have h1 := List.all_eq_true.1 hr _ hmem
    simp only [Bool.and_eq_true] at h1
    have hlst : m.lst listed = lstB A m.bs listed := by rw [AM.lst_eq, hm]
    rw [← hlst] at h1
    rw [show fuel + 1 + m.left = (fuel + m.left) + 1 by omega]
    refine ⟨fun h0 => ?_, fun k hk => ?_⟩
    · rw [h0] at h1; simp at h1
    · have hk2 := List.all_eq_true.1 h1.2 k hk
      simp only [Bool.or_eq_true, List.contains_iff_mem] at hk2
      rcases hk2 with hk2 | hk2
      · exact h k hk2 m hm hb a w hh
      · obtain ⟨f, hf1, hJ⟩ := JOA.make (F := fuel + 1) (listed := listed) (Q := Q) hA hle hso hf hm hb hk2 (fun m' hlt hm' hb' => ih m'.left (by omega) m' rfl hm' hb')
        rw [show fuel + m.left = f by omega]
        exact hJ a w hh
/-- nothing else may come up, as long as one of them is not made -/
def AllA : List ASpec → Nat → (AM → Prop) → Prop
  | [], _, P => P []
  | s :: r, N, P => ∀ b, N ≤ b → AllA r N (fun m => P ((s, some b) :: m))
theorem AllA.at : ∀ {A : List ASpec} {N : Nat} {P : AM → Prop}, AllA A N P → ∀ m : AM, m.map (·.1) = A → m.left = 0 → (∀ p ∈ m, ∀ b, p.2 = some b → N ≤ b) → P m
  | [], _, _, h, [], _, _, _ => h
  | s :: r, N, P, h, (t, some b) :: m, hm, h0, hb => by
    simp only [List.map_cons, List.cons.injEq] at hm
    obtain ⟨rfl, hm⟩ := hm
    exact AllA.at (h b (hb (t, some b) (by simp) b rfl)) m hm h0 (fun p hp => hb p (by simp [hp]))
  | s :: r, N, P, h, (t, none) :: m, hm, h0, hb => by cases h0
theorem left_undone : ∀ (m : AM), m.left ≠ 0 → m.bs.all id = false
  | [], h => absurd rfl h
  | (_, some _) :: r, h => by have := left_undone r h; simpa [AM.bs] using this
  | (_, none) :: r, h => rfl
theorem JAA.all {A : List ASpec} {fuel : Nat} {listed : Array Bool} (hA : AOk x ops A) (hle : Hle sH H) (hso : SubO so own) (hf : freeIn l A = true)
    (hr : (allB A.length).all (fun bs => bs.all id || (!(Region.ready .any ops (lstB A bs listed)).isEmpty && (Region.ready .any ops (lstB A bs listed)).all (fun k => (undone A bs).contains k))) = true)
    (h : AllA A x.w0.heap.size (fun m => JA x ops Q so sH fuel (m.lst listed) (l ++ m.sl) (own ++ m.ow) H)) : JAA x ops Q so sH A fuel listed l own H := by
  intro m
  obtain ⟨n, hn⟩ : ∃ n, n = m.left := ⟨_, rfl⟩
  induction n using Nat.strongRecOn generalizing m with
  | _ n ih =>
    intro hm hb
    by_cases h0 : m.left = 0
    · rw [h0]; exact h.at m hm h0 hb
    intro a w hh
    have hmem : m.bs ∈ allB A.length := by have := allB_mem m.bs; rwa [show m.bs.length = A.length by rw [← hm]; simp [AM.bs]] at this
    have h1 := List.all_eq_true.1 hr _ hmem
    rw [left_undone m h0] at h1
    simp only [Bool.false_or, Bool.and_eq_true] at h1
    have hlst : m.lst listed = lstB A m.bs listed := by rw [AM.lst_eq, hm]
    rw [← hlst] at h1
    obtain ⟨f, hf0⟩ : ∃ f, fuel + m.left = f + 1 := ⟨fuel + m.left - 1, by omega⟩
    rw [hf0]
    refine ⟨fun h0 => ?_, fun k hk => ?_⟩
    · rw [h0] at h1; simp at h1
    · have hk2 := List.all_eq_true.1 h1.2 k hk
      simp only [List.contains_iff_mem] at hk2
      obtain ⟨f', hf1, hJ⟩ := JOA.make (F := fuel) (listed := listed) (Q := Q) hA hle hso hf hm hb hk2 (fun m' hlt hm' hb' => ih m'.left (by omega) m' rfl hm' hb')
      rw [show f = f' by omega]
      exact hJ a w hh

/-- 'l2' is 'l1', and the tail behind it -/
inductive AppL {α : Type} (t : List α) : List α → List α → Prop
  | nil : AppL t [] t
  | cons {a : α} {l1 l2 : List α} (h : AppL t l1 l2) : AppL t (a :: l1) (a :: l2)
theorem AppL.eq {α : Type} {t l1 l2 : List α} (h : AppL t l1 l2) : l2 = l1 ++ t := by
  induction h with
  | nil => rfl
  | cons _ ih => rw [ih]; rfl
theorem guard_app {t : Slots} {g : Option (Nat × Bool)} (h : guardYes ops l g) : guardYes ops (l ++ t) g := by
  cases g with
  | none => trivial
  | some jb => obtain ⟨j, b⟩ := jb; obtain ⟨k, oj, h1, h2, h3⟩ := h; exact ⟨k, oj, h1, h2, lk_appL h3⟩
theorem JOA.step {A : List ASpec} {fuel i : Nat} {listed listed' : Array Bool} {dst : Option Tmp} {op : Op} {ty : TypeId} {pos : String} {aft : Array Edge} {g : Option (Nat × Bool)}
    (ho : ops[i]? = some ⟨dst, op, ty, pos, aft, g⟩) (hg : guardYes ops l g) (hl : listed.setIfInBounds i true = listed')
    (h : ∀ (tl : Slots) (to : List Own) (K : Act → World → Prop), (∀ {l' own' H' l2 own2}, AppL tl l' l2 → AppL to own' own2 → (∀ a w, Holds x l2 own2 H' a w → Stab so sH w) → JAA x ops Q so sH A fuel listed' l' own' H' → JN x K l2 own2 H') →
      JL x ops (fun e a w => match e with | .normal => K a w | e => Q e a w) [⟨dst, op, ty, pos, aft, none⟩] (l ++ tl) (own ++ to) H) :
    JOA x ops Q so sH A fuel listed i l own H := fun m hm hb => by
  refine JO.step ho (guard_app hg) rfl (fun K hK => h m.sl m.ow K (fun {l' own' H' l2 own2} e1 e2 hst hJ => ?_))
  have e1 := e1.eq
  have e2 := e2.eq
  subst e1; subst e2
  refine hK _ _ _ hst ?_
  have := hJ m hm hb
  rw [← hl, ← AM.lst_set] at this
  exact this
theorem Runs.app {op : Op} {ty : TypeId} {v : Value} {t : Slots} (h : Runs x op ty l own H v) : Runs x op ty (l ++ t) own H v := fun ρ w d pos aft g hρ hs => h ρ w d pos aft g (fun o u e => hρ o u (evo_app e)) hs
/-- it may be taken now, whatever was made -/
def TakeA (ops : Array Oper) (A : List ASpec) (listed : Array Bool) (i : Nat) : Bool := (allB A.length).all fun bs => (Region.ready .any ops (lstB A bs listed)).contains i && Region.free .any ops (lstB A bs listed) i
theorem TakeA.take {A : List ASpec} {listed : Array Bool} {i : Nat} (h : TakeA ops A listed i = true) {m : AM} (hm : m.map (·.1) = A) : Take ops (m.lst listed) i (m.lst (listed.setIfInBounds i true)) := by
  have hmem : m.bs ∈ allB A.length := by have := allB_mem m.bs; rwa [show m.bs.length = A.length by rw [← hm]; simp [AM.bs]] at this
  have h1 := List.all_eq_true.1 h _ hmem
  have hlst : m.lst listed = lstB A m.bs listed := by rw [AM.lst_eq, hm]
  rw [← hlst] at h1
  simp only [Bool.and_eq_true] at h1
  exact ⟨h1.1, h1.2, AM.lst_set _ _ _⟩
theorem JAA.val {A : List ASpec} {fuel i d : Nat} {listed listed' : Array Bool} {op : Op} {ty : TypeId} {pos : String} {aft : Array Edge} {g : Option (Nat × Bool)} {v : Value} (hreg : Reg ops) (hc : Calm Q)
    (ho : ops[i]? = some ⟨some d, op, ty, pos, aft, g⟩) (ht : TakeA ops A listed i = true) (hl : listed.setIfInBounds i true = listed') (hg : guardYes ops l g) (hle : Hle sH H) (hso : SubO so own) (hr : Runs x op ty l so sH v) (hd : Nat.blt d x.n = true)
    (h : JAA x ops Q so sH A fuel listed' ((d, v) :: l) own H) : JAA x ops Q so sH A (fuel + 1) listed l own H := fun m hm hb => by
  rw [show fuel + 1 + m.left = (fuel + m.left) + 1 by omega]
  subst hl
  exact JA.val hreg hc ho (TakeA.take ht hm) (guard_app hg) (ZE hle (hso.app _)) hr.app hd (h m hm hb)
theorem JAA.no {A : List ASpec} {fuel i d j t : Nat} {b b' : Bool} {listed listed' : Array Bool} {op : Op} {ty : TypeId} {pos : String} {aft : Array Edge} {oj : Oper} (hreg : Reg ops) (hc : Calm Q)
    (ho : ops[i]? = some ⟨some d, op, ty, pos, aft, some (j, b)⟩) (ht : TakeA ops A listed i = true) (hl : listed.setIfInBounds i true = listed') (hj : ops[j]? = some oj) (htj : oj.dst = some t) (hb : lk l t = some (.bool b')) (hne : (b' == b) = false)
    (hle : Hle sH H) (hso : SubO so own) (hd : Nat.blt d x.n = true)
    (h : JAA x ops Q so sH A fuel listed' ((d, undef) :: l) own H) : JAA x ops Q so sH A (fuel + 1) listed l own H := fun m hm hb' => by
  rw [show fuel + 1 + m.left = (fuel + m.left) + 1 by omega]
  subst hl
  exact Zp hreg hc ho (TakeA.take ht hm) hj htj (lk_appL hb) hne (ZE hle (hso.app _)) hd (h m hm hb')
theorem JAA.gSplit {A : List ASpec} {fuel : Nat} {listed : Array Bool} {t : Nat} {b : Bool} (hb : lk l t = some (.bool b)) (ht : b = true → JAA x ops Q so sH A fuel listed ((t, .bool true) :: l) own H)
    (hf : b = false → JAA x ops Q so sH A fuel listed ((t, .bool false) :: l) own H) : JAA x ops Q so sH A fuel listed l own H := fun m hm hb' =>
  JA.gSplit (lk_appL hb) (fun e => ht e m hm hb') (fun e => hf e m hm hb')
theorem JAA.one {A : List ASpec} {fuel i : Nat} {listed : Array Bool} (hA : AOk x ops A) (hle : Hle sH H) (hso : SubO so own) (hf : freeIn l A = true)
    (hr : (allB A.length).all (fun bs => !(Region.ready .any ops (lstB A bs listed)).isEmpty && (Region.ready .any ops (lstB A bs listed)).all (fun k => [i].contains k || (undone A bs).contains k)) = true)
    (h : JOA x ops Q so sH A fuel listed i l own H) : JAA x ops Q so sH A (fuel + 1) listed l own H := JAA.many [i] hA hle hso hf hr (fun k hk => by simp at hk; subst hk; exact h)
theorem JAA.two {A : List ASpec} {fuel i j : Nat} {listed : Array Bool} (hA : AOk x ops A) (hle : Hle sH H) (hso : SubO so own) (hf : freeIn l A = true)
    (hr : (allB A.length).all (fun bs => !(Region.ready .any ops (lstB A bs listed)).isEmpty && (Region.ready .any ops (lstB A bs listed)).all (fun k => [i, j].contains k || (undone A bs).contains k)) = true)
    (h : JOA x ops Q so sH A fuel listed i l own H) (h' : JOA x ops Q so sH A fuel listed j l own H) : JAA x ops Q so sH A (fuel + 1) listed l own H := JAA.many [i, j] hA hle hso hf hr (fun k hk => by
  simp only [List.mem_cons, List.not_mem_nil, or_false] at hk
  rcases hk with rfl | rfl
  · exact h
  · exact h')
end Go.Ow

/-
  What is proved here: a range over a function whose assignments make cells; over OwZH.
-/
namespace Go.Ow
open Go.RowKit
set_option linter.unusedVariables false
set_option linter.unusedSimpArgs false
variable {x : Cx} {ops : Array Oper} {Q : Exit → Act → World → Prop} {rest : List Oper} {l : Slots} {own : List Own} {H HF : Heaplet}
variable {ty : TypeId} {d : Nat} {pos : String} {aft : Array Edge}

end Go.Ow
