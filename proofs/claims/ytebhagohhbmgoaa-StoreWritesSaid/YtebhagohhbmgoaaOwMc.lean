import Derived.Test.YtebhagohhbmgoaaOwMb
import Derived.ChangeKeysEq
import Derived.Test.YtebhagohhbmgoaaOwMa
/-
  What is proved here: memory that callees have made is taken back, to be written in: the law's memory of the beginning is set anew; cells of whole numbers may turn, headers stay; over OwZD.
-/
namespace Go.Ow
open Go.RowKit
set_option linter.unusedVariables false
set_option linter.unusedSimpArgs false

variable {x : Cx} {ops : Array Oper} {Q : Exit → Act → World → Prop} {rest : List Oper} {l : Slots} {own : List Own} {H HF : Heaplet}
variable {ty : TypeId} {d : Nat} {pos : String} {aft : Array Edge} {p q : Operand}

/-- no cell of the heaplet lies in newer blocks -/
def Low (H : Heaplet) (n : Nat) : Prop := ∀ b o v, H b o = some v → b < n
theorem Low.of {w : World} (h : Agrees H w) : Low H w.heap.size := fun b o v e => by
  have := h b o v e
  by_cases c : b < w.heap.size
  · exact c
  · exfalso
    have hn : w.heap[b]? = none := Array.getElem?_eq_none (by omega)
    simp [World.cell?, hn] at this
abbrev Cx.at' (x : Cx) (w1 : World) (H : Heaplet) (own : List Own) : Cx := { P := x.P, r := x.r, n := x.n, w0 := w1, H0 := H, S := ids own.flatten, ds := x.ds }
/-- from here on, 'new' is what is new behind this place -/
theorem JC.root {c : Code} {fn : Func} {R : Value → List Own → Heaplet → Prop}
    (h : ∀ w1 : World, x.w0.heap.size ≤ w1.heap.size → Low H w1.heap.size → (∀ i ∈ ids own.flatten, i < w1.heap.size) → JC (x.at' w1 H own) c (Ret (x.at' w1 H own) fn R) l own H) :
    JC x c (Ret x fn R) l own H := fun a w hh => by
  have hlt : ∀ i ∈ ids own.flatten, i < w.heap.size := fun i hi => by
    obtain ⟨p, hp, rfl⟩ := List.mem_map.1 hi; exact hh.mem.ok.lt p hp
  have h1 := h w hh.mem.kept.size (Low.of hh.mem.agr) hlt a w ⟨hh.size, hh.ds, hh.slots, ⟨hh.mem.agr, hh.mem.ok, Kept.refl _ _, fun p hp => .inl (List.mem_map_of_mem hp), Hle.refl _, fun _ _ _ => rfl, Mem.soft0⟩⟩
  refine wpIn_mono h1 ?_
  have key : ∀ (e : Ending) (w' : World), (∃ v K' H', e = .returned v ∧ R v K' H' ∧ Mem w H (ids own.flatten) K'.flatten H' w') → (∃ v K' H', e = .returned v ∧ R v K' H' ∧ Mem x.w0 x.H0 x.S K'.flatten H' w') := by
    rintro e w' ⟨v, K', H', he, hR, hm⟩
    refine ⟨v, K', H', he, hR, ?_⟩
    have := hh.mem.go (K := own.flatten) (rst := []) (by simp) hm
    simpa using this
  intro e a' w' hq
  cases e with
  | normal => exact ⟨hq.1, by obtain ⟨v, h2, h3⟩ := hq.2; exact ⟨v, h2, key _ _ h3⟩⟩
  | ret => exact ⟨hq.1, by obtain ⟨v, h2, h3⟩ := hq.2; exact ⟨v, h2, key _ _ h3⟩⟩
  | panic ch => exact ⟨hq.1, key _ _ hq.2⟩
  | outgrown => exact key _ _ hq
  | exit id => exact hq.elim
  | goto t => exact hq.elim

/-! ### Memory that is taken back -/
/-- a cell of a whole number may have another one; what else it is, it stays -/
def Kin (v v' : Value) : Prop := v' = v ∨ match v with
  | .int .u8 _ => ∃ a : UInt8, v' = .int .u8 (a.toNat : Int)
  | .int .i64 _ => ∃ a : Int, v' = .int .i64 a
  | _ => False
def TH (N : Heaplet) (D : Own) : Prop := ∀ b o v, N b o = some v → ∃ cur t, (b, Obj.cells cur t (0, 0)) ∈ D ∧ ∃ v', cur.toList[o]? = some v' ∧ Kin v v'
theorem TH.exact {N : Heaplet} {D : Own} {b o : Nat} {v : Value} (h : TH N D) (hN : N b o = some v) (hv : ∀ k n, v ≠ .int k n) : ∃ cur t, (b, Obj.cells cur t (0, 0)) ∈ D ∧ cur.toList[o]? = some v := by
  obtain ⟨cur, t, h1, v', h2, h3⟩ := h b o v hN
  rcases h3 with rfl | h3
  · exact ⟨cur, t, h1, h2⟩
  · exfalso; revert h3; cases v <;> simp_all
theorem TH.u8 {N : Heaplet} {D : Own} {b o : Nat} {y : UInt8} (h : TH N D) (hN : N b o = some (.int .u8 (y.toNat : Int))) : ∃ (a : UInt8) (cur : Array Value) (t : TypeId), (b, Obj.cells cur t (0, 0)) ∈ D ∧ cur.toList[o]? = some (.int .u8 (a.toNat : Int)) := by
  obtain ⟨cur, t, h1, v', h2, h3⟩ := h b o _ hN
  rcases h3 with rfl | ⟨a, rfl⟩
  · exact ⟨y, cur, t, h1, h2⟩
  · exact ⟨a, cur, t, h1, h2⟩
theorem TH.i64 {N : Heaplet} {D : Own} {b o : Nat} {y : Int} (h : TH N D) (hN : N b o = some (.int .i64 y)) : ∃ (a : Int) (cur : Array Value) (t : TypeId), (b, Obj.cells cur t (0, 0)) ∈ D ∧ cur.toList[o]? = some (.int .i64 a) := by
  obtain ⟨cur, t, h1, v', h2, h3⟩ := h b o _ hN
  rcases h3 with rfl | ⟨a, rfl⟩
  · exact ⟨y, cur, t, h1, h2⟩
  · exact ⟨a, cur, t, h1, h2⟩
/-- all blocks that are new, and not owned -/
def newBlocks (n : Nat) (own : Own) (w : World) : Own := (List.range' n (w.heap.size - n)).filterMap fun b => if b ∈ ids own then none else (w.heap[b]?).map fun o => (b, o)
theorem mem_newBlocks {n : Nat} {own : Own} {w : World} {q : Nat × Obj} : q ∈ newBlocks n own w ↔ n ≤ q.1 ∧ q.1 ∉ ids own ∧ w.heap[q.1]? = some q.2 := by
  unfold newBlocks
  rw [List.mem_filterMap]
  constructor
  · rintro ⟨b, hb, h⟩
    rw [List.mem_range'_1] at hb
    by_cases c : b ∈ ids own
    · rw [if_pos c] at h; cases h
    · rw [if_neg c] at h
      cases ho : w.heap[b]? with
      | none => rw [ho] at h; cases h
      | some o => rw [ho] at h; obtain rfl := Option.some.inj h; exact ⟨hb.1, c, ho⟩
  · rintro ⟨h1, h2, h3⟩
    have hlt : q.1 < w.heap.size := (Array.getElem?_eq_some_iff.1 h3).1
    exact ⟨q.1, by rw [List.mem_range'_1]; omega, by rw [if_neg h2, h3]; rfl⟩
theorem newBlocks_nodup (n : Nat) (own : Own) (w : World) : (ids (newBlocks n own w)).Nodup := by
  unfold newBlocks ids
  have : ∀ l : List Nat, l.Nodup → ((l.filterMap fun b => if b ∈ ids own then none else (w.heap[b]?).map fun o => (b, o)).map (·.1)).Nodup := by
    intro l
    induction l with
    | nil => intro _; simp
    | cons b l ih =>
      intro h
      rw [List.nodup_cons] at h
      have ih := ih h.2
      rw [List.filterMap_cons]
      split
      · exact ih
      · rename_i q hq
        rw [List.map_cons, List.nodup_cons]
        refine ⟨fun hm => ?_, ih⟩
        obtain ⟨r, hr, e⟩ := List.mem_map.1 hm
        obtain ⟨b', hb', hr'⟩ := List.mem_filterMap.1 hr
        have e1 : q.1 = b := by
          by_cases c : b ∈ ids own
          · rw [if_pos c] at hq; cases hq
          · rw [if_neg c] at hq
            cases ho : w.heap[b]? with
            | none => rw [ho] at hq; cases hq
            | some o => rw [ho] at hq; obtain rfl := Option.some.inj hq; rfl
        have e2 : r.1 = b' := by
          by_cases c : b' ∈ ids own
          · rw [if_pos c] at hr'; cases hr'
          · rw [if_neg c] at hr'
            cases ho : w.heap[b']? with
            | none => rw [ho] at hr'; cases hr'
            | some o => rw [ho] at hr'; obtain rfl := Option.some.inj hr'; rfl
        exact h.1 (by rw [← e1, ← e, e2]; exact hb')
  exact this _ (List.nodup_range')
theorem JC.thaw {c : Code} (hl : Low x.H0 x.w0.heap.size) (h : ∀ D, TH (New x.H0 H) D → JC x c Q l (D :: own) x.H0) : JC x c Q l own H := fun a w hh => by
  have hnew : ∀ b o v, New x.H0 H b o = some v → x.w0.heap.size ≤ b ∧ b ∉ ids own.flatten ∧ ∃ cur t, w.heap[b]? = some (.cells cur t (0, 0)) ∧ cur.toList[o]? = some v := by
    intro b o v e
    have e0 : x.H0 b o = none := by
      unfold New at e; split at e
      · assumption
      · cases e
    have e1 := New.le _ _ b o v e
    refine ⟨?_, ?_, ?_⟩
    · apply Nat.le_of_not_lt
      intro hc
      rw [hh.mem.grow b o hc, e0] at e1; cases e1
    · intro hc
      obtain ⟨p, hp, rfl⟩ := List.mem_map.1 hc
      rw [hh.mem.ok.apart p hp o] at e1; cases e1
    · obtain ⟨cur, t, hb⟩ := hh.mem.soft b o v e0 e1
      refine ⟨cur, t, hb, ?_⟩
      have := hh.mem.agr b o v e1
      rw [cell_of_row w b o cur t (0, 0) hb] at this
      simpa using this
  refine h (newBlocks x.w0.heap.size own.flatten w) ?_ a w ?_
  · intro b o v e
    obtain ⟨h1, h2, cur, t, h3, h4⟩ := hnew b o v e
    exact ⟨cur, t, mem_newBlocks.2 ⟨h1, h2, h3⟩, v, h4, .inl rfl⟩
  · have hh0 := hh.low0
    refine ⟨hh0.size, hh0.ds, hh0.slots, hh0.mem.agr, ⟨?_, ?_, ?_⟩, hh0.mem.kept, ?_, hh0.mem.le, hh0.mem.grow, hh0.mem.soft⟩
    · intro p hp
      rw [List.flatten_cons, List.mem_append] at hp
      rcases hp with hp | hp
      · exact (mem_newBlocks.1 hp).2.2
      · exact hh0.mem.ok.here p hp
    · rw [List.flatten_cons]
      simp only [ids, List.map_append]
      refine List.nodup_append.2 ⟨newBlocks_nodup _ _ _, hh0.mem.ok.nodup, fun i hi j hj e => ?_⟩
      subst e
      obtain ⟨p, hp, rfl⟩ := List.mem_map.1 hi
      exact (mem_newBlocks.1 hp).2.1 hj
    · intro p hp o
      rw [List.flatten_cons, List.mem_append] at hp
      rcases hp with hp | hp
      · cases e : x.H0 p.1 o with
        | none => rfl
        | some v => have := hl _ _ _ e; have := (mem_newBlocks.1 hp).1; omega
      · exact hh0.mem.ok.apart p hp o
    · intro p hp
      rw [List.flatten_cons, List.mem_append] at hp
      rcases hp with hp | hp
      · exact .inr (mem_newBlocks.1 hp).1
      · exact hh0.mem.fresh p hp
theorem JL.stT (i : Nat) {T b o : Nat} {D : Own} {N : Heaplet} {v u : Value} (hs : shapeOf x.P T = some (false, 1)) (hi : own[i]? = some D) (hT : TH N D) (hN : N b o = some v) (h1 : evo l p = some (.pointer (some ⟨b, o, none⟩))) (h2 : evo l q = some u)
    (hu : ∃ k n, u = .int k n) (hk : Kin v u) (h : ∀ D', TH N D' → JL x ops Q rest l (own.set i D') H) : JL x ops Q (⟨none, .store T p q, ty, pos, aft, none⟩ :: rest) l own H := fun a w hh => by
  have e1 := Z8 hh h1
  have e2 := Z8 hh h2
  simp only [wpLs, Z9, if_true]
  refine ⟨fun _ _ => trivial, ?_⟩
  obtain ⟨cur, t, hm, v', hv', -⟩ := hT b o v hN
  have hin := own_here hh.mem hi
  have hbk := hin.here _ hm
  have hap : ∀ o, H b o = none := fun o => hin.apart _ hm o
  have ho : o < cur.size := by have := (List.getElem?_eq_some_iff.1 hv').1; simpa using this
  obtain ⟨k, n, rfl⟩ := hu
  have hst := run_storeAt (P := x.P) (T := T) (w := w) (b := b) (o := o) (v := .int k n) hs rfl rfl hbk (by omega)
  obtain ⟨C, hC⟩ : ∃ C, C = (cur.toList.take o ++ (Value.int k n).cells.toList ++ cur.toList.drop (o + 1)).toArray := ⟨_, rfl⟩
  rw [← hC] at hst
  have hr : (execOp a.eval ⟨none, .store T p q, ty, pos, aft, none⟩).run x.P w = .ok .skip (w.setRow b C) := by
    generalize a.eval = ρ at e1 e2
    simp only [execOp, e1, e2]
    exact run_u hst
  rw [semAt_of rfl, hr]
  obtain ⟨A, B, hD⟩ := List.append_of_mem hm
  have hset : C.toList = cur.toList.set o (.int k n) := by
    rw [hC, List.set_eq_take_append_cons_drop, if_pos (by simpa using ho)]
    simp [Value.cells]
  have hnd := hin.nodup
  refine h (A ++ (b, .cells C t (0, 0)) :: B) ?_ _ _ ⟨hh.size, hh.ds, hh.slots, ?_⟩
  · intro b' o' w' hw'
    obtain ⟨cur', t', g1, v2, g2, g3⟩ := hT b' o' w' hw'
    by_cases c : b' = b
    · subst c
      have : (b', Obj.cells cur' t' (0, 0)) = (b', Obj.cells cur t (0, 0)) := by
        rw [hD] at g1 hnd
        simp only [ids, List.map_append, List.map_cons, List.nodup_append, List.nodup_cons] at hnd
        rcases List.mem_append.1 g1 with g | g
        · exact absurd rfl (hnd.2.2 b' (List.mem_map.2 ⟨_, g, rfl⟩) b' (by simp))
        · rcases List.mem_cons.1 g with g | g
          · exact g
          · exact absurd (List.mem_map.2 ⟨_, g, rfl⟩) hnd.2.1.1
      simp only [Prod.mk.injEq, Obj.cells.injEq, true_and] at this
      obtain ⟨rfl, rfl, -⟩ := this
      refine ⟨C, t', by simp, ?_⟩
      rw [hset, List.getElem?_set]
      by_cases c2 : o = o'
      · subst c2
        rw [hN] at hw'
        obtain rfl := Option.some.inj hw'
        exact ⟨_, by rw [if_pos rfl, if_pos (by simpa using ho)], hk⟩
      · exact ⟨v2, by rw [if_neg c2]; exact g2, g3⟩
    · refine ⟨cur', t', ?_, v2, g2, g3⟩
      rw [hD] at g1
      rcases List.mem_append.1 g1 with g | g
      · exact List.mem_append.2 (.inl g)
      · rcases List.mem_cons.1 g with g | g
        · cases g; exact absurd rfl c
        · exact List.mem_append.2 (.inr (List.mem_cons_of_mem _ g))
  · have := hh.mem.go1 (K' := A ++ (b, .cells C t (0, 0)) :: B) hi (by
      have hm1 : Mem w H (ids D) D H w := Mem.same hh.mem.agr hin
      have := hm1.go (K := [(b, .cells cur t (0, 0))]) (rst := A ++ B) (by rw [hD]; exact List.perm_middle) (by simpa [ids] using Mem.setRow hh.mem.agr hbk hap C)
      exact this.perm (by simpa using (List.perm_middle (a := (b, Obj.cells C t (0, 0))) (l₁ := A) (l₂ := B)).symm))
    exact this
theorem Kin.u8 {y a : UInt8} : Kin (.int .u8 (y.toNat : Int)) (.int .u8 (a.toNat : Int)) := .inr ⟨a, rfl⟩
theorem Kin.i64 {y a : Int} : Kin (.int .i64 y) (.int .i64 a) := .inr ⟨a, rfl⟩
/-- the state, spelled anew: slots that are read no more are forgotten -/
theorem JC.tidy {c : Code} {l' : Slots} {own' : List Own} (hl : Sub l' l) (ho : own' = own) (h : JC x c Q l' own' H) : JC x c Q l own H := by
  subst ho; exact JC.sub hl h
theorem YD {c : Code} {l' : Slots} {own' rst : List Own} (hl : Sub l' l) (hp : own.flatten.Perm (own'.flatten ++ rst.flatten)) (h : JC x c Q l' own' H) : JC x c Q l own H := fun a w hh => by
  have hh' := hh.sub hl
  exact h a w ⟨hh'.size, hh'.ds, hh'.slots, (hh'.mem.perm hp).sub (List.sublist_append_left _ _)⟩
end Go.Ow

/-
  What is proved here: rows with a room of noughts behind them: 'make' with a length and a greater room, appends within it, the row with its noughts; over OwZE.
-/
namespace Go.Ow
open Go.RowKit
set_option linter.unusedVariables false
set_option linter.unusedSimpArgs false

variable {x : Cx} {ops : Array Oper} {Q : Exit → Act → World → Prop} {rest : List Oper} {l : Slots} {own : List Own} {H HF : Heaplet}
variable {ty : TypeId} {d : Nat} {pos : String} {aft : Array Edge} {p q : Operand} {t : TypeId}

/-- behind the row of n bytes there is room for N in all, and it holds noughts -/
def Spare (v : Value) (K : Own) (N : Nat) : Prop := ∃ g n cur E, v = .slice (some ⟨g, 0, none⟩) n N ∧ K = [(g, Obj.cells cur E (0, 0))] ∧ n ≤ N ∧ N ≤ cur.size ∧ (cur.toList.drop n).take (N - n) = List.replicate (N - n) (.int .u8 0)
theorem Flat.bytes_eq {H : Heaplet} : ∀ {l : List UInt8} {cells : List Value}, Flat H RU8 1 cells l → cells = bvs l
  | [], cells, h => h
  | b :: l, cells, h => by
    obtain ⟨cs, more, rfl, h1, h2, h3⟩ := h
    rw [Flat.bytes_eq h3, show cs = [.int .u8 (b.toNat : Int)] from h2]; rfl
/-- the row with its noughts -/
theorem RowOf.spare {B : Nat} {E : TypeId} {v : Value} {m m' : List UInt8} {K : Own} {N : Nat} {b : Int} (h : RowOf HF RU8 B E 1 v m K) (hs : Spare v K N) (hm : m' = m ++ List.replicate (b.toNat - m.length) 0) (hb : (m.length : Int) ≤ b ∧ b ≤ N) :
    ∃ g0, v = .slice (some ⟨g0, 0, none⟩) m.length N ∧ RowOf HF RU8 B E 1 (.slice (some ⟨g0, 0, none⟩) b.toNat N) m' K := by
  obtain ⟨g, n, cur, E', rfl, rfl, h1, h2, h3⟩ := hs
  obtain ⟨cells, ⟨h0, hr⟩, hf, ho⟩ := h
  rcases hr with ⟨e, -⟩ | ⟨g', cap, cur', e1, e2, e3, e4, e5, e6, e7⟩
  · cases e
  simp only [Value.slice.injEq, Option.some.injEq, Addr.mk.injEq] at e1
  obtain ⟨⟨rfl, -, -⟩, rfl, rfl⟩ := e1
  simp only [List.cons.injEq, Prod.mk.injEq, Obj.cells.injEq, and_true, true_and] at e2
  obtain ⟨rfl, rfl⟩ := e2
  have hml : m'.length = b.toNat := by rw [hm, List.length_append, List.length_replicate]; omega
  refine ⟨_, rfl, bvs m', ⟨by rw [hml]; simp [bvs, hml], .inr ⟨g, N, cur, by rw [hml], rfl, e3, by rw [hml]; omega, e5, by omega, ?_⟩⟩, Flat.bytes m', (Flat.bytes (H := HF) m').one' RU8.one⟩
  rw [hml, Nat.mul_one]
  have hc : cells = bvs m := Flat.bytes_eq hf
  have e : cur.toList.take b.toNat = cur.toList.take m.length ++ ((cur.toList.drop m.length).take (b.toNat - m.length)) := by
    conv => lhs; rw [show b.toNat = m.length + (b.toNat - m.length) by omega, List.take_add]
  have e8 : (cur.toList.drop m.length).take (b.toNat - m.length) = List.replicate (b.toNat - m.length) (.int .u8 0) := by
    have := congrArg (List.take (b.toNat - m.length)) h3
    rw [List.take_take, Nat.min_eq_left (by omega), List.take_replicate, Nat.min_eq_left (by omega)] at this
    exact this
  rw [Nat.mul_one] at e7
  rw [e, e8, e7, hc, hm]
  simp [bvs]
end Go.Ow

/-
  What is proved here: plain vocabulary of rows with a room of noughts.
-/
namespace Go.Ow
variable {α β : Type}
end Go.Ow

/-
  What is proved here: arrays of bytes: slices of them, slices as arrays, equality; appends of noughts to a slice that is full; over OwZF.
-/
namespace Go.Ow
open Go.RowKit
set_option linter.unusedVariables false
set_option linter.unusedSimpArgs false

variable {x : Cx} {ops : Array Oper} {Q : Exit → Act → World → Prop} {rest : List Oper} {l : Slots} {own : List Own} {H HF : Heaplet}
variable {ty : TypeId} {d : Nat} {pos : String} {aft : Array Edge} {p q : Operand} {t u : TypeId}

theorem IsSlice.first {ao : Option Addr} {n c N : Nat} {ls m : List UInt8} (h : IsSlice HF RU8 1 (.slice ao n c) ls) (hm : m = ls.take N) (hN : N ≤ ls.length) (h0 : 0 < N) :
    ∃ b o, ao = some ⟨b, o, none⟩ ∧ N ≤ n ∧ ∀ j u, (bvs m)[j]? = some u → HF b (o + j) = some u := by
  subst hm
  obtain ⟨cells, hf, ao', cap', e, hc⟩ := h.cells
  obtain rfl := Flat.bytes_eq hf
  simp only [Value.slice.injEq] at e
  obtain ⟨rfl, rfl, rfl⟩ := e
  rcases hc with rfl | ⟨b, o, rfl, hc⟩
  · simp only [List.length_nil] at hN; omega
  · refine ⟨b, o, rfl, hN, fun j u hj => hc j u ?_⟩
    have : bvs (ls.take N) = (bvs ls).take N := by unfold bvs; rw [List.map_take]
    rw [this, List.getElem?_take] at hj
    split at hj
    · exact hj
    · cases hj

/-! ### Equality -/
/-! ### An own array as a row -/
/-! ### Append of noughts to a slice that is full -/
end Go.Ow

/-
  What is proved here: cells that are made, at any time, in a region whose order Go leaves open: told apart from its other operations; over OwZG.
-/
namespace Go.Ow
open Go.RowKit
set_option linter.unusedVariables false
set_option linter.unusedSimpArgs false

variable {x : Cx} {ops : Array Oper} {Q : Exit → Act → World → Prop} {l : Slots} {own : List Own} {H : Heaplet} {so : List Own} {sH : Heaplet}

/-- an operation that makes a cell: its place, its slot -/
structure ASpec where
  i : Nat
  d : Nat
  T : TypeId
  z : Value
abbrev AM := List (ASpec × Option Nat)
def AM.sl : AM → Slots
  | [] => []
  | (s, some b) :: r => (s.d, .pointer (some ⟨b, 0, none⟩)) :: AM.sl r
  | (s, none) :: r => AM.sl r
def AM.ow : AM → List Own
  | [] => []
  | (s, some b) :: r => [(b, .cells s.z.cells s.T (0, 0))] :: AM.ow r
  | (s, none) :: r => AM.ow r
def AM.lst : AM → Array Bool → Array Bool
  | [], a => a
  | (s, some _) :: r, a => AM.lst r (a.setIfInBounds s.i true)
  | (s, none) :: r, a => AM.lst r a
def AM.left : AM → Nat
  | [] => 0
  | (_, some _) :: r => AM.left r
  | (_, none) :: r => AM.left r + 1
def AM.bs (m : AM) : List Bool := m.map (·.2.isSome)
def lstB : List ASpec → List Bool → Array Bool → Array Bool
  | s :: r, true :: bs, a => lstB r bs (a.setIfInBounds s.i true)
  | _ :: r, false :: bs, a => lstB r bs a
  | _, _, a => a
def undone : List ASpec → List Bool → List Nat
  | _ :: r, true :: bs => undone r bs
  | s :: r, false :: bs => s.i :: undone r bs
  | _, _ => []
def allB : Nat → List (List Bool)
  | 0 => [[]]
  | n + 1 => (allB n).flatMap fun bs => [true :: bs, false :: bs]
theorem allB_mem : ∀ (bs : List Bool), bs ∈ allB bs.length
  | [] => by simp [allB]
  | b :: bs => by
    simp only [List.length_cons, allB, List.mem_flatMap]
    exact ⟨bs, allB_mem bs, by cases b <;> simp⟩
theorem AM.lst_eq : ∀ (m : AM) (a : Array Bool), m.lst a = lstB (m.map (·.1)) m.bs a
  | [], _ => rfl
  | (s, some b) :: r, a => AM.lst_eq r _
  | (s, none) :: r, a => AM.lst_eq r _
theorem set_true_comm (a : Array Bool) (i j : Nat) : (a.setIfInBounds i true).setIfInBounds j true = (a.setIfInBounds j true).setIfInBounds i true := by
  by_cases h : i = j
  · subst h; rfl
  · exact Array.setIfInBounds_comm _ _ h
theorem AM.lst_set : ∀ (m : AM) (a : Array Bool) (k : Nat), (m.lst a).setIfInBounds k true = m.lst (a.setIfInBounds k true)
  | [], _, _ => rfl
  | (s, some b) :: r, a, k => by show (AM.lst r _).setIfInBounds k true = AM.lst r _; rw [AM.lst_set r, set_true_comm]
  | (s, none) :: r, a, k => AM.lst_set r a k
theorem AM.lst_none : ∀ (A : List ASpec) (a : Array Bool), AM.lst (A.map fun s => (s, none)) a = a
  | [], _ => rfl
  | s :: r, a => AM.lst_none r a
theorem AM.sl_none : ∀ (A : List ASpec), AM.sl (A.map fun s => (s, none)) = []
  | [] => rfl
  | s :: r => AM.sl_none r
theorem AM.ow_none : ∀ (A : List ASpec), AM.ow (A.map fun s => (s, none)) = []
  | [] => rfl
  | s :: r => AM.ow_none r
theorem AM.left_none : ∀ (A : List ASpec), AM.left (A.map fun s => (s, none)) = A.length
  | [] => rfl
  | s :: r => by show AM.left (r.map fun s => (s, none)) + 1 = _; rw [AM.left_none r]; rfl
/-- one that is not made yet is made -/
theorem AM.split : ∀ (m : AM) (k : Nat), k ∈ undone (m.map (·.1)) m.bs → ∃ m1 m2 s, m = m1 ++ (s, none) :: m2 ∧ s.i = k
  | (s, some b) :: r, k, h => by
    obtain ⟨m1, m2, s', rfl, e⟩ := AM.split r k h
    exact ⟨(s, some b) :: m1, m2, s', rfl, e⟩
  | (s, none) :: r, k, h => by
    have h' : k ∈ s.i :: undone (r.map (·.1)) (AM.bs r) := h
    rcases List.mem_cons.1 h' with e | e
    · exact ⟨[], r, s, rfl, e.symm⟩
    · obtain ⟨m1, m2, s', rfl, e2⟩ := AM.split r k e
      exact ⟨(s, none) :: m1, m2, s', rfl, e2⟩
theorem AM.made_left : ∀ (m1 m2 : AM) (s : ASpec) (b : Nat), (m1 ++ (s, none) :: m2).left = (m1 ++ (s, some b) :: m2).left + 1
  | [], _, _, _ => rfl
  | (_, some _) :: r, m2, s, b => AM.made_left r m2 s b
  | (_, none) :: r, m2, s, b => by show AM.left (r ++ _) + 1 = AM.left (r ++ _) + 1 + 1; rw [AM.made_left r m2 s b]
theorem AM.made_lst : ∀ (m1 m2 : AM) (s : ASpec) (b : Nat) (a : Array Bool), (m1 ++ (s, some b) :: m2).lst a = (m1 ++ (s, none) :: m2).lst (a.setIfInBounds s.i true)
  | [], _, _, _, _ => rfl
  | (t, some _) :: r, m2, s, b, a => by show AM.lst (r ++ _) _ = AM.lst (r ++ _) _; rw [AM.made_lst r m2 s b, set_true_comm]
  | (t, none) :: r, m2, s, b, a => AM.made_lst r m2 s b a
theorem AM.made_map : ∀ (m1 m2 : AM) (s : ASpec) (b : Nat), (m1 ++ (s, some b) :: m2).map (·.1) = (m1 ++ (s, none) :: m2).map (·.1) := fun m1 m2 s b => by simp
theorem AM.made_ow : ∀ (m1 m2 : AM) (s : ASpec) (b : Nat), (AM.ow (m1 ++ (s, some b) :: m2)).Perm ([(b, .cells s.z.cells s.T (0, 0))] :: AM.ow (m1 ++ (s, none) :: m2))
  | [], _, _, _ => List.Perm.refl _
  | (t, some c) :: r, m2, s, b => ((AM.made_ow r m2 s b).cons _).trans (List.Perm.swap _ _ _)
  | (t, none) :: r, m2, s, b => AM.made_ow r m2 s b
theorem lk_app : ∀ (l t : Slots) (i : Nat), lk (l ++ t) i = match lk l i with | some v => some v | none => lk t i
  | [], _, _ => rfl
  | (k, v) :: r, t, i => by
    simp only [List.cons_append, lk]
    cases h : Nat.beq k i with
    | true => rfl
    | false => exact lk_app r t i
theorem lk_appL {l t : Slots} {i : Nat} {v : Value} (h : lk l i = some v) : lk (l ++ t) i = some v := by rw [lk_app, h]
theorem evo_app {l t : Slots} {o : Operand} {v : Value} (h : evo l o = some v) : evo (l ++ t) o = some v := by
  cases o with
  | tmp k => exact lk_appL h
  | const u => exact h
  | global g => exact h
  | func f => exact h
theorem AM.made_lk : ∀ (m1 m2 : AM) (s : ASpec) (b : Nat) (i : Nat) (v : Value), ((m1 ++ (s, none) :: m2).map (fun p => p.1.d)).Nodup → lk (AM.sl (m1 ++ (s, some b) :: m2)) i = some v →
    (i = s.d ∧ v = .pointer (some ⟨b, 0, none⟩)) ∨ (i ≠ s.d ∧ lk (AM.sl (m1 ++ (s, none) :: m2)) i = some v)
  | [], m2, s, b, i, v, hn, h => by
    have h' : lk ((s.d, .pointer (some ⟨b, 0, none⟩)) :: AM.sl m2) i = some v := h
    simp only [lk] at h'
    cases hb : Nat.beq s.d i with
    | true => rw [hb] at h'; simp at h'; exact .inl ⟨(Nat.eq_of_beq_eq_true hb).symm, h'.symm⟩
    | false =>
      rw [hb] at h'
      exact .inr ⟨fun e => by subst e; simp at hb, h'⟩
  | (t, some c) :: r, m2, s, b, i, v, hn, h => by
    have h' : lk ((t.d, .pointer (some ⟨c, 0, none⟩)) :: AM.sl (r ++ (s, some b) :: m2)) i = some v := h
    have hn' : t.d ∉ (r ++ (s, none) :: m2).map (fun p => p.1.d) ∧ ((r ++ (s, none) :: m2).map (fun p => p.1.d)).Nodup := by
      rw [List.cons_append, List.map_cons, List.nodup_cons] at hn; exact hn
    have hts : t.d ≠ s.d := fun e => hn'.1 (by rw [e]; simp)
    show _ ∨ (_ ∧ lk ((t.d, .pointer (some ⟨c, 0, none⟩)) :: AM.sl (r ++ (s, none) :: m2)) i = some v)
    simp only [lk] at h' ⊢
    cases hb : Nat.beq t.d i with
    | true =>
      rw [hb] at h'
      have e : t.d = i := Nat.eq_of_beq_eq_true hb
      exact .inr ⟨by rw [← e]; exact hts, h'⟩
    | false => rw [hb] at h'; exact AM.made_lk r m2 s b i v hn'.2 h'
  | (t, none) :: r, m2, s, b, i, v, hn, h => by
    have hn' : ((r ++ (s, none) :: m2).map (fun p => p.1.d)).Nodup := by
      rw [List.cons_append, List.map_cons, List.nodup_cons] at hn; exact hn.2
    exact AM.made_lk r m2 s b i v hn' h

/-- what is asked of the list -/
def AOk (x : Cx) (ops : Array Oper) : List ASpec → Prop
  | [] => True
  | s :: r => (∃ ty pos aft, ops[s.i]? = some ⟨some s.d, .alloc s.T, ty, pos, aft, none⟩ ∧ zeroOf x.P s.T = some s.z ∧ Nat.blt s.d x.n = true) ∧ AOk x ops r
theorem AOk.at {A : List ASpec} (h : AOk x ops A) {s : ASpec} (hs : s ∈ A) : ∃ ty pos aft, ops[s.i]? = some ⟨some s.d, .alloc s.T, ty, pos, aft, none⟩ ∧ zeroOf x.P s.T = some s.z ∧ Nat.blt s.d x.n = true := by
  induction A with
  | nil => cases hs
  | cons t r ih =>
    rcases List.mem_cons.1 hs with rfl | h'
    · exact h.1
    · exact ih h.2 h'
def freeIn (l : Slots) : List ASpec → Bool
  | [] => true
  | s :: r => (lk l s.d).isNone && r.all (fun t => !Nat.beq t.d s.d) && freeIn l r
theorem freeIn.lk {A : List ASpec} (h : freeIn l A = true) {s : ASpec} (hs : s ∈ A) : lk l s.d = none := by
  induction A with
  | nil => cases hs
  | cons t r ih =>
    simp only [freeIn, Bool.and_eq_true] at h
    rcases List.mem_cons.1 hs with rfl | h'
    · simpa using h.1.1
    · exact ih h.2 h'
theorem freeIn.nodup {A : List ASpec} (h : freeIn l A = true) : (A.map (·.d)).Nodup := by
  induction A with
  | nil => exact List.nodup_nil
  | cons t r ih =>
    simp only [freeIn, Bool.and_eq_true] at h
    rw [List.map_cons, List.nodup_cons]
    refine ⟨fun hm => ?_, ih h.2⟩
    obtain ⟨s, hs, e⟩ := List.mem_map.1 hm
    have := List.all_eq_true.1 h.1.2 s hs
    simp [e] at this

def JAA (x : Cx) (ops : Array Oper) (Q : Exit → Act → World → Prop) (so : List Own) (sH : Heaplet) (A : List ASpec) (fuel : Nat) (listed : Array Bool) (l : Slots) (own : List Own) (H : Heaplet) : Prop :=
  ∀ m : AM, m.map (·.1) = A → (∀ p ∈ m, ∀ b, p.2 = some b → x.w0.heap.size ≤ b) → JA x ops Q so sH (fuel + m.left) (m.lst listed) (l ++ m.sl) (own ++ m.ow) H
def JOA (x : Cx) (ops : Array Oper) (Q : Exit → Act → World → Prop) (so : List Own) (sH : Heaplet) (A : List ASpec) (fuel : Nat) (listed : Array Bool) (i : Nat) (l : Slots) (own : List Own) (H : Heaplet) : Prop :=
  ∀ m : AM, m.map (·.1) = A → (∀ p ∈ m, ∀ b, p.2 = some b → x.w0.heap.size ≤ b) → JO x ops Q so sH (fuel + m.left) (m.lst listed) i (l ++ m.sl) (own ++ m.ow) H

theorem JAA.start (A : List ASpec) {fuel N : Nat} {listed : Array Bool} (hN : fuel + A.length = N) (h : JAA x ops Q so sH A fuel listed l own H) : JA x ops Q so sH N listed l own H := by
  have := h (A.map fun s => (s, none)) (by simp [Function.comp_def]) (fun p hp b e => by obtain ⟨s, -, rfl⟩ := List.mem_map.1 hp; cases e)
  rw [AM.lst_none, AM.sl_none, AM.ow_none, AM.left_none, hN] at this
  simpa using this
theorem SubO.app : ∀ {so own : List Own} (t : List Own), SubO so own → SubO so (own ++ t)
  | [], _, _, _ => trivial
  | s :: r, own, t, h => by
    obtain ⟨⟨i, hi⟩, h2⟩ := h
    refine ⟨⟨i, ?_⟩, SubO.app t h2⟩
    rw [List.getElem?_append_left (List.getElem?_eq_some_iff.1 hi).1]; exact hi
theorem JN.slots {K : Act → World → Prop} {l' : Slots} (h : ∀ i v, lk l' i = some v → lk l i = some v) (hk : JN x K l' own H) : JN x K l own H := fun a w hh =>
  hk a w ⟨hh.size, hh.ds, fun i v e => hh.slots i v (h i v e), hh.mem⟩
/-- a cell is made -/
theorem JOA.make {A : List ASpec} {F : Nat} {listed : Array Bool} (hA : AOk x ops A) (hle : Hle sH H) (hso : SubO so own) (hf : freeIn l A = true) {m : AM} (hm : m.map (·.1) = A) (hb : ∀ p ∈ m, ∀ b, p.2 = some b → x.w0.heap.size ≤ b)
    {k : Nat} (hk : k ∈ undone A m.bs) (ih : ∀ m' : AM, m'.left < m.left → m'.map (·.1) = A → (∀ p ∈ m', ∀ b, p.2 = some b → x.w0.heap.size ≤ b) → JA x ops Q so sH (F + m'.left) (m'.lst listed) (l ++ m'.sl) (own ++ m'.ow) H) :
    ∃ f, F + m.left = f + 1 ∧ JO x ops Q so sH f (m.lst listed) k (l ++ m.sl) (own ++ m.ow) H := by
  rw [← hm] at hk
  obtain ⟨m1, m2, s, rfl, rfl⟩ := AM.split m k hk
  have hsA : s ∈ A := by rw [← hm]; simp
  obtain ⟨ty, pos, aft, ho, hz, hd⟩ := hA.at hsA
  have hl := AM.made_left m1 m2 s 0
  refine ⟨F + AM.left (m1 ++ (s, some 0) :: m2), by omega, ?_⟩
  refine Zn ho trivial rfl (fun K hK => ?_)
  refine JL.alloc hz hd (fun b hbb => ?_)
  refine ZD ?_
  have hleft : AM.left (m1 ++ (s, some b) :: m2) = AM.left (m1 ++ (s, some 0) :: m2) := by
    have := AM.made_left m1 m2 s b; omega
  have hmm : (m1 ++ (s, some b) :: m2).map (·.1) = A := by rw [AM.made_map]; exact hm
  have hJ := ih (m1 ++ (s, some b) :: m2) (by omega) hmm (fun p hp b' e => by
    rcases List.mem_append.1 hp with h | h
    · exact hb p (by simp [h]) b' e
    · rcases List.mem_cons.1 h with rfl | h
      · simp at e; subst e; exact hbb
      · exact hb p (by simp [h]) b' e)
  rw [hleft, AM.made_lst, ← AM.lst_set] at hJ
  have hnd : ((m1 ++ (s, none) :: m2).map (fun p => p.1.d)).Nodup := by
    have := freeIn.nodup hf; rw [← hm, List.map_map] at this; exact this
  have hln := freeIn.lk hf hsA
  have hsub : ∀ i v, lk (l ++ AM.sl (m1 ++ (s, some b) :: m2)) i = some v → lk ((s.d, .pointer (some ⟨b, 0, none⟩)) :: (l ++ AM.sl (m1 ++ (s, none) :: m2))) i = some v := fun i v e => by
    rw [lk_app] at e
    simp only [lk]
    cases hli : lk l i with
    | some u =>
      rw [hli] at e; simp at e; subst e
      have : Nat.beq s.d i = false := by
        cases hbq : Nat.beq s.d i with
        | false => rfl
        | true => have := Nat.eq_of_beq_eq_true hbq; rw [← this, hln] at hli; cases hli
      rw [this]; exact lk_appL hli
    | none =>
      rw [hli] at e
      rcases AM.made_lk m1 m2 s b i v hnd e with ⟨rfl, rfl⟩ | ⟨hne, h⟩
      · simp
      · have : Nat.beq s.d i = false := by
          cases hbq : Nat.beq s.d i with
          | false => rfl
          | true => exact absurd (Nat.eq_of_beq_eq_true hbq).symm hne
        rw [this, lk_app, hli]; exact h
  have hperm : ([(b, Obj.cells s.z.cells s.T (0, 0))] :: (own ++ AM.ow (m1 ++ (s, none) :: m2))).flatten.Perm (own ++ AM.ow (m1 ++ (s, some b) :: m2)).flatten := by
    refine List.Perm.flatten ?_
    refine List.Perm.trans ?_ ((AM.made_ow m1 m2 s b).symm.append_left own)
    exact List.perm_middle.symm
  refine JN.slots hsub (JN.perm hperm (hK _ _ _ ?_ hJ))
  exact ZM hle (hso.app _)

/-- some of the others may come up, too -/
theorem JAA.many {A : List ASpec} (R : List Nat) {fuel : Nat} {listed : Array Bool} (hA : AOk x ops A) (hle : Hle sH H) (hso : SubO so own) (hf : freeIn l A = true)
    (hr : (allB A.length).all (fun bs => !(Region.ready .any ops (lstB A bs listed)).isEmpty && (Region.ready .any ops (lstB A bs listed)).all (fun k => R.contains k || (undone A bs).contains k)) = true)
    (h : ∀ i ∈ R, JOA x ops Q so sH A fuel listed i l own H) : JAA x ops Q so sH A (fuel + 1) listed l own H := by
  intro m
  obtain ⟨n, hn⟩ : ∃ n, n = m.left := ⟨_, rfl⟩
  induction n using Nat.strongRecOn generalizing m with
  | _ n ih =>
    intro hm hb a w hh
    have hmem : m.bs ∈ allB A.length := by have := allB_mem m.bs; rwa [show m.bs.length = A.length by rw [← hm]; simp [AM.bs]] at this
    have h1 := List.all_eq_true.1 hr _ hmem
    simp only [Bool.and_eq_true] at h1
    have hlst : m.lst listed = lstB A m.bs listed := by rw [AM.lst_eq, hm]
    rw [← hlst] at h1
    rw [show fuel + 1 + m.left = (fuel + m.left) + 1 by omega]
    refine ⟨fun h0 => ?_, fun k hk => ?_⟩
    · rw [h0] at h1; simp at h1
    · have hk2 := List.all_eq_true.1 h1.2 k hk
      simp only [Bool.or_eq_true, List.contains_iff_mem] at hk2
      rcases hk2 with hk2 | hk2
      · exact h k hk2 m hm hb a w hh
      · obtain ⟨f, hf1, hJ⟩ := JOA.make (F := fuel + 1) (listed := listed) (Q := Q) hA hle hso hf hm hb hk2 (fun m' hlt hm' hb' => ih m'.left (by omega) m' rfl hm' hb')
        rw [show fuel + m.left = f by omega]
        exact hJ a w hh
/-- nothing else may come up, as long as one of them is not made -/
def AllA : List ASpec → Nat → (AM → Prop) → Prop
  | [], _, P => P []
  | s :: r, N, P => ∀ b, N ≤ b → AllA r N (fun m => P ((s, some b) :: m))
theorem AllA.at : ∀ {A : List ASpec} {N : Nat} {P : AM → Prop}, AllA A N P → ∀ m : AM, m.map (·.1) = A → m.left = 0 → (∀ p ∈ m, ∀ b, p.2 = some b → N ≤ b) → P m
  | [], _, _, h, [], _, _, _ => h
  | s :: r, N, P, h, (t, some b) :: m, hm, h0, hb => by
    simp only [List.map_cons, List.cons.injEq] at hm
    obtain ⟨rfl, hm⟩ := hm
    exact AllA.at (h b (hb (t, some b) (by simp) b rfl)) m hm h0 (fun p hp => hb p (by simp [hp]))
  | s :: r, N, P, h, (t, none) :: m, hm, h0, hb => by cases h0
theorem left_undone : ∀ (m : AM), m.left ≠ 0 → m.bs.all id = false
  | [], h => absurd rfl h
  | (_, some _) :: r, h => by have := left_undone r h; simpa [AM.bs] using this
  | (_, none) :: r, h => rfl
theorem JAA.all {A : List ASpec} {fuel : Nat} {listed : Array Bool} (hA : AOk x ops A) (hle : Hle sH H) (hso : SubO so own) (hf : freeIn l A = true)
    (hr : (allB A.length).all (fun bs => bs.all id || (!(Region.ready .any ops (lstB A bs listed)).isEmpty && (Region.ready .any ops (lstB A bs listed)).all (fun k => (undone A bs).contains k))) = true)
    (h : AllA A x.w0.heap.size (fun m => JA x ops Q so sH fuel (m.lst listed) (l ++ m.sl) (own ++ m.ow) H)) : JAA x ops Q so sH A fuel listed l own H := by
  intro m
  obtain ⟨n, hn⟩ : ∃ n, n = m.left := ⟨_, rfl⟩
  induction n using Nat.strongRecOn generalizing m with
  | _ n ih =>
    intro hm hb
    by_cases h0 : m.left = 0
    · rw [h0]; exact h.at m hm h0 hb
    intro a w hh
    have hmem : m.bs ∈ allB A.length := by have := allB_mem m.bs; rwa [show m.bs.length = A.length by rw [← hm]; simp [AM.bs]] at this
    have h1 := List.all_eq_true.1 hr _ hmem
    rw [left_undone m h0] at h1
    simp only [Bool.false_or, Bool.and_eq_true] at h1
    have hlst : m.lst listed = lstB A m.bs listed := by rw [AM.lst_eq, hm]
    rw [← hlst] at h1
    obtain ⟨f, hf0⟩ : ∃ f, fuel + m.left = f + 1 := ⟨fuel + m.left - 1, by omega⟩
    rw [hf0]
    refine ⟨fun h0 => ?_, fun k hk => ?_⟩
    · rw [h0] at h1; simp at h1
    · have hk2 := List.all_eq_true.1 h1.2 k hk
      simp only [List.contains_iff_mem] at hk2
      obtain ⟨f', hf1, hJ⟩ := JOA.make (F := fuel) (listed := listed) (Q := Q) hA hle hso hf hm hb hk2 (fun m' hlt hm' hb' => ih m'.left (by omega) m' rfl hm' hb')
      rw [show f = f' by omega]
      exact hJ a w hh

/-- 'l2' is 'l1', and the tail behind it -/
inductive AppL {α : Type} (t : List α) : List α → List α → Prop
  | nil : AppL t [] t
  | cons {a : α} {l1 l2 : List α} (h : AppL t l1 l2) : AppL t (a :: l1) (a :: l2)
theorem AppL.eq {α : Type} {t l1 l2 : List α} (h : AppL t l1 l2) : l2 = l1 ++ t := by
  induction h with
  | nil => rfl
  | cons _ ih => rw [ih]; rfl
theorem guard_app {t : Slots} {g : Option (Nat × Bool)} (h : guardYes ops l g) : guardYes ops (l ++ t) g := by
  cases g with
  | none => trivial
  | some jb => obtain ⟨j, b⟩ := jb; obtain ⟨k, oj, h1, h2, h3⟩ := h; exact ⟨k, oj, h1, h2, lk_appL h3⟩
theorem JOA.step {A : List ASpec} {fuel i : Nat} {listed listed' : Array Bool} {dst : Option Tmp} {op : Op} {ty : TypeId} {pos : String} {aft : Array Edge} {g : Option (Nat × Bool)}
    (ho : ops[i]? = some ⟨dst, op, ty, pos, aft, g⟩) (hg : guardYes ops l g) (hl : listed.setIfInBounds i true = listed')
    (h : ∀ (tl : Slots) (to : List Own) (K : Act → World → Prop), (∀ {l' own' H' l2 own2}, AppL tl l' l2 → AppL to own' own2 → (∀ a w, Holds x l2 own2 H' a w → Stab so sH w) → JAA x ops Q so sH A fuel listed' l' own' H' → JN x K l2 own2 H') →
      JL x ops (fun e a w => match e with | .normal => K a w | e => Q e a w) [⟨dst, op, ty, pos, aft, none⟩] (l ++ tl) (own ++ to) H) :
    JOA x ops Q so sH A fuel listed i l own H := fun m hm hb => by
  refine Zn ho (guard_app hg) rfl (fun K hK => h m.sl m.ow K (fun {l' own' H' l2 own2} e1 e2 hst hJ => ?_))
  have e1 := e1.eq
  have e2 := e2.eq
  subst e1; subst e2
  refine hK _ _ _ hst ?_
  have := hJ m hm hb
  rw [← hl, ← AM.lst_set] at this
  exact this
theorem Runs.app {op : Op} {ty : TypeId} {v : Value} {t : Slots} (h : Runs x op ty l own H v) : Runs x op ty (l ++ t) own H v := fun ρ w d pos aft g hρ hs => h ρ w d pos aft g (fun o u e => hρ o u (evo_app e)) hs
/-- it may be taken now, whatever was made -/
def TakeA (ops : Array Oper) (A : List ASpec) (listed : Array Bool) (i : Nat) : Bool := (allB A.length).all fun bs => (Region.ready .any ops (lstB A bs listed)).contains i && Region.free .any ops (lstB A bs listed) i
theorem TakeA.take {A : List ASpec} {listed : Array Bool} {i : Nat} (h : TakeA ops A listed i = true) {m : AM} (hm : m.map (·.1) = A) : Take ops (m.lst listed) i (m.lst (listed.setIfInBounds i true)) := by
  have hmem : m.bs ∈ allB A.length := by have := allB_mem m.bs; rwa [show m.bs.length = A.length by rw [← hm]; simp [AM.bs]] at this
  have h1 := List.all_eq_true.1 h _ hmem
  have hlst : m.lst listed = lstB A m.bs listed := by rw [AM.lst_eq, hm]
  rw [← hlst] at h1
  simp only [Bool.and_eq_true] at h1
  exact ⟨h1.1, h1.2, AM.lst_set _ _ _⟩
theorem JAA.val {A : List ASpec} {fuel i d : Nat} {listed listed' : Array Bool} {op : Op} {ty : TypeId} {pos : String} {aft : Array Edge} {g : Option (Nat × Bool)} {v : Value} (hreg : Reg ops) (hc : Calm Q)
    (ho : ops[i]? = some ⟨some d, op, ty, pos, aft, g⟩) (ht : TakeA ops A listed i = true) (hl : listed.setIfInBounds i true = listed') (hg : guardYes ops l g) (hle : Hle sH H) (hso : SubO so own) (hr : Runs x op ty l so sH v) (hd : Nat.blt d x.n = true)
    (h : JAA x ops Q so sH A fuel listed' ((d, v) :: l) own H) : JAA x ops Q so sH A (fuel + 1) listed l own H := fun m hm hb => by
  rw [show fuel + 1 + m.left = (fuel + m.left) + 1 by omega]
  subst hl
  exact JA.val hreg hc ho (TakeA.take ht hm) (guard_app hg) (ZM hle (hso.app _)) hr.app hd (h m hm hb)
theorem JAA.gSplit {A : List ASpec} {fuel : Nat} {listed : Array Bool} {t : Nat} {b : Bool} (hb : lk l t = some (.bool b)) (ht : b = true → JAA x ops Q so sH A fuel listed ((t, .bool true) :: l) own H)
    (hf : b = false → JAA x ops Q so sH A fuel listed ((t, .bool false) :: l) own H) : JAA x ops Q so sH A fuel listed l own H := fun m hm hb' =>
  JA.gSplit (lk_appL hb) (fun e => ht e m hm hb') (fun e => hf e m hm hb')
theorem JAA.one {A : List ASpec} {fuel i : Nat} {listed : Array Bool} (hA : AOk x ops A) (hle : Hle sH H) (hso : SubO so own) (hf : freeIn l A = true)
    (hr : (allB A.length).all (fun bs => !(Region.ready .any ops (lstB A bs listed)).isEmpty && (Region.ready .any ops (lstB A bs listed)).all (fun k => [i].contains k || (undone A bs).contains k)) = true)
    (h : JOA x ops Q so sH A fuel listed i l own H) : JAA x ops Q so sH A (fuel + 1) listed l own H := JAA.many [i] hA hle hso hf hr (fun k hk => by simp at hk; subst hk; exact h)
theorem JAA.two {A : List ASpec} {fuel i j : Nat} {listed : Array Bool} (hA : AOk x ops A) (hle : Hle sH H) (hso : SubO so own) (hf : freeIn l A = true)
    (hr : (allB A.length).all (fun bs => !(Region.ready .any ops (lstB A bs listed)).isEmpty && (Region.ready .any ops (lstB A bs listed)).all (fun k => [i, j].contains k || (undone A bs).contains k)) = true)
    (h : JOA x ops Q so sH A fuel listed i l own H) (h' : JOA x ops Q so sH A fuel listed j l own H) : JAA x ops Q so sH A (fuel + 1) listed l own H := JAA.many [i, j] hA hle hso hf hr (fun k hk => by
  simp only [List.mem_cons, List.not_mem_nil, or_false] at hk
  rcases hk with rfl | rfl
  · exact h
  · exact h')
end Go.Ow

/-
  What is proved here: a range over a function whose assignments make cells; over OwZH.
-/
namespace Go.Ow
open Go.RowKit
set_option linter.unusedVariables false
set_option linter.unusedSimpArgs false
variable {x : Cx} {ops : Array Oper} {Q : Exit → Act → World → Prop} {rest : List Oper} {l : Slots} {own : List Own} {H HF : Heaplet}
variable {ty : TypeId} {d : Nat} {pos : String} {aft : Array Edge}

end Go.Ow

/-
  What is proved here: a region whose order Go leaves open, again: what is known of it is said once; a segment that is turned later may be read by what comes ahead of that.
-/
namespace Go.Ow
open Go.RowKit
set_option linter.unusedVariables false
set_option linter.unusedSimpArgs false

section orders
variable {F : Fence} {n : Nat} {P : Program} {md : Region.Mode} {ops : Array Oper} {Q : Exit → Act → World → Prop} {S : Array Bool → World → Prop}
/-- whatever order: behind each operation S holds, of what is done so far -/
def wpAT (F : Fence) (n : Nat) (P : Program) (md : Region.Mode) (ops : Array Oper) (Q : Exit → Act → World → Prop) (S : Array Bool → World → Prop) : Nat → Array Bool → Act → World → Prop
  | 0, listed, a, w => Region.ready md ops listed = [] ∧ Q .normal a w
  | fuel + 1, listed, a, w => (Region.ready md ops listed = [] → Q .normal a w) ∧
    ∀ i ∈ Region.ready md ops listed, wpOpIn F n P ops Q i (fun a' w' => S (listed.setIfInBounds i true) w' ∧ wpAT F n P md ops Q S fuel (listed.setIfInBounds i true) a' w') a w
theorem wpAT_sound : ∀ (fuel : Nat) (listed : Array Bool) (a : Act) (w : World), wpAT F n P md ops Q S fuel listed a w → wpAnyIn F n P md ops Q fuel listed a w
  | 0, _, _, _, h => h
  | fuel + 1, listed, a, w, h => ⟨h.1, fun i hi => wpOpIn_mono (fun a' w' h' => wpAT_sound fuel _ a' w' h'.2) (h.2 i hi)⟩
/-- D hangs on i: none of it comes up while i is not done -/
def hangs (md : Region.Mode) (ops : Array Oper) (i : Nat) (D : List Nat) (listed : Array Bool) : Bool :=
  D.all fun d => !listed.getD d true && (match ops[d]? with | none => false | some o => o.after.any fun e => Region.binds md e && (e.on == i || D.contains e.on))
theorem wpAT_first (hF : ∀ f, F.fn f) {i : Nat} {oi : Oper} {v : Value} (hi : ops[i]? = some oi) (hsel : ∀ (j : Nat) (o : Oper) cs b, ops[j]? = some o → o.op ≠ .select cs b)
    (hdef : ∀ (j : Nat) (o : Oper), ops[j]? = some o → noDefer o.op = true) (hQ : ∀ c a w, Q (.panic c) (a.put oi.dst v) w → Q (.panic c) a w) (hmono : ∀ L j w, S L w → S (L.setIfInBounds j true) w)
    (hskip : ∀ L w, S (L.setIfInBounds i true) w → S L w) {D : List Nat} {T : World → Prop} (hT : ∀ L w, (∀ d ∈ D, L.getD d true = false) → S L w → T w) :
    ∀ (fuel : Nat) (listed : Array Bool) (a : Act) (w : World),
      (∀ j oj, ops[j]? = some oj → j ≠ i → listed.getD j true = false → (∀ e ∈ oj.after, Region.binds md e = true → e.on ≠ i) → oi.apart ops oj = true) →
      hangs md ops i D listed = true →
      i ∈ Region.ready md ops listed → YieldsS P ops T oi v a → S listed w →
      wpAT F n P md ops Q S fuel (listed.setIfInBounds i true) (a.put oi.dst v) w → wpAT F n P md ops Q S (fuel + 1) listed a w := by
  have hDs : ∀ {listed : Array Bool}, hangs md ops i D listed = true → ∀ d ∈ D, listed.getD d true = false := fun h d hd => by
    have := List.all_eq_true.1 h d hd
    rw [Bool.and_eq_true] at this
    simpa using this.1
  intro fuel
  induction fuel with
  | zero =>
    intro listed a w _ hD hr hy hS H
    refine ⟨fun h => (by rw [h] at hr; cases hr), fun j hj => ?_⟩
    by_cases hji : j = i
    · subst hji; exact hy.op hF hi (hdef _ _ hi) (hT _ _ (hDs hD) hS) ⟨hmono _ _ _ hS, H⟩
    · have := ready_mono hj hji
      rw [H.1] at this
      cases this
  | succ fuel ih =>
    intro listed a w hfree hD hr hy hS H
    refine ⟨fun h => (by rw [h] at hr; cases hr), fun j hj => ?_⟩
    by_cases hji : j = i
    · subst hji; exact hy.op hF hi (hdef _ _ hi) (hT _ _ (hDs hD) hS) ⟨hmono _ _ _ hS, H⟩
    · have h1 := H.2 j (ready_mono hj hji)
      obtain ⟨hjun, oj, hoj, hall⟩ := mem_ready.1 hj
      have h0 := (mem_ready.1 hr).1
      have hnot : ∀ e ∈ oj.after, Region.binds md e = true → e.on ≠ i := fun e he hb heq => by
        have h1 := hall e he hb
        rw [heq] at h1
        rcases Nat.lt_or_ge i listed.size with h' | h'
        · simp [h'] at h0 h1; rw [h0] at h1; cases h1
        · simp [Array.getElem?_eq_none h'] at h1
      have hjD : j ∉ D := fun hjD => by
        have := List.all_eq_true.1 hD j hjD
        rw [Bool.and_eq_true, hoj] at this
        obtain ⟨e, he, hb⟩ := Array.any_eq_true'.1 this.2
        rw [Bool.and_eq_true, Bool.or_eq_true] at hb
        rcases hb.2 with h | h
        · exact hnot e he hb.1 (by simpa using h)
        · have h2 := hDs hD e.on (by simpa using h)
          have h3 := hall e he hb.1
          rcases Nat.lt_or_ge e.on listed.size with h' | h'
          · simp [h'] at h2 h3; rw [h2] at h3; cases h3
          · simp [Array.getElem?_eq_none h'] at h3
      have hD' : hangs md ops i D (listed.setIfInBounds j true) = true := List.all_eq_true.2 fun d hd => by
        have := List.all_eq_true.1 hD d hd
        rw [getD_set_ne true (fun e => hjD (by rw [e]; exact hd))]; exact this
      have h2 := wpOpIn_putS (S := T) hF hoj (hfree j oj hoj hji hjun hnot) (fun cs b => hsel i oi cs b hi) (fun cs b => hsel j oj cs b hoj) (hdef j oj hoj) hQ hy h1
      have hfree' : ∀ k ok, ops[k]? = some ok → k ≠ i → (listed.setIfInBounds j true).getD k true = false →
          (∀ e ∈ ok.after, Region.binds md e = true → e.on ≠ i) → oi.apart ops ok = true := fun k ok hk hki hun hno => by
        refine hfree k ok hk hki ?_ hno
        by_cases hjk : j = k
        · subst hjk; exact hjun
        · rw [getD_set_ne true hjk] at hun; exact hun
      refine wpOpIn_mono (fun a' w' h3 => ?_) h2
      have hS' : S (listed.setIfInBounds j true) w' := hskip _ _ (by rw [Array.setIfInBounds_comm _ _ hji]; exact h3.2.1)
      refine ⟨hS', ih (listed.setIfInBounds j true) a' w' hfree' hD' (ready_mono hr (Ne.symm hji)) h3.1 hS' ?_⟩
      rw [Array.setIfInBounds_comm _ _ hji]
      exact h3.2.2
end orders

/-! ### The same from a state -/
variable {x : Cx} {ops : Array Oper} {K : Act → World → Prop} {l : Slots} {own : List Own} {H : Heaplet}

/-- the segments, each with what turns it -/
abbrev Segs := List (Own × List Nat)
def SB (so : Segs) (sH : Heaplet) (L : Array Bool) (w : World) : Prop := Agrees sH w ∧ ∀ x ∈ so, (∃ t ∈ x.2, L.getD t true = true) ∨ ∀ p ∈ x.1, w.heap[p.1]? = some p.2
theorem SB.mono {so : Segs} {sH : Heaplet} {L : Array Bool} {w : World} (j : Nat) (h : SB so sH L w) : SB so sH (L.setIfInBounds j true) w := by
  refine ⟨h.1, fun x hx => (h.2 x hx).imp (fun ⟨t, ht, e⟩ => ⟨t, ht, ?_⟩) id⟩
  by_cases c : j = t
  · subst c
    rcases Nat.lt_or_ge j L.size with h' | h'
    · simp [h']
    · simp [Array.getElem?_eq_none h']
  · rw [getD_set_ne true c]; exact e
def noTurn (so : Segs) (i : Nat) : Bool := so.all fun x => !x.2.contains i
theorem SB.skip {so : Segs} {sH : Heaplet} {i : Nat} (hn : noTurn so i = true) {L : Array Bool} {w : World} (h : SB so sH (L.setIfInBounds i true) w) : SB so sH L w := by
  refine ⟨h.1, fun x hx => (h.2 x hx).imp (fun ⟨t, ht, e⟩ => ⟨t, ht, ?_⟩) id⟩
  have := List.all_eq_true.1 hn x hx
  have hne : i ≠ t := fun c => by subst c; simp at this; exact this ht
  rw [getD_set_ne true hne] at e; exact e
/-- the segments that stand as long as none of D is done -/
def segsOf (D : List Nat) : Segs → List Own
  | [] => []
  | x :: q => cond (x.2.all fun t => D.contains t) (x.1 :: segsOf D q) (segsOf D q)
theorem SB.stab {so : Segs} {sH : Heaplet} {D : List Nat} {L : Array Bool} {w : World} (hD : ∀ d ∈ D, L.getD d true = false) (h : SB so sH L w) : Stab (segsOf D so) sH w := by
  refine ⟨h.1, ?_⟩
  have h2 := h.2
  clear h
  induction so with
  | nil => intro p hp; simp [segsOf] at hp
  | cons y q ih =>
    have ihq := ih (fun x hx => h2 x (List.mem_cons_of_mem _ hx))
    intro p hp
    unfold segsOf at hp
    cases e : (y.2.all fun t => D.contains t) with
    | false => rw [e, cond_false] at hp; exact ihq p hp
    | true =>
      rw [e, cond_true, List.flatten_cons, List.mem_append] at hp
      rcases hp with hp | hp
      · rcases h2 y (List.mem_cons_self ..) with ⟨t, ht, e2⟩ | h3
        · have := List.all_eq_true.1 e t ht
          rw [hD t (by simpa using this)] at e2; cases e2
        · exact h3 p hp
      · exact ihq p hp
/-- what is kept now -/
def Kept' : Segs → Array Bool → List Own → Prop
  | [], _, _ => True
  | x :: q, L, own => ((x.2.any fun t => L.getD t true) = true ∨ ∃ i : Nat, own[i]? = some x.1) ∧ Kept' q L own
theorem Kept'.sb {so : Segs} {sH : Heaplet} {L : Array Bool} (hle : Hle sH H) (hk : Kept' so L own) {a : Act} {w : World} (hh : Holds x l own H a w) : SB so sH L w := by
  refine ⟨hh.mem.agr.le hle, ?_⟩
  induction so with
  | nil => intro y hy; cases hy
  | cons z q ih =>
    intro y hy
    rcases List.mem_cons.1 hy with rfl | hy
    · rcases hk.1 with h | ⟨i, hi⟩
      · obtain ⟨t, ht, e⟩ := List.any_eq_true.1 h; exact .inl ⟨t, ht, e⟩
      · exact .inr fun p hp => hh.mem.ok.here p (List.mem_flatten.2 ⟨_, List.mem_of_getElem? hi, hp⟩)
    · exact ih hk.2 y hy
theorem Kept'.mono {so : Segs} {L : Array Bool} (j : Nat) (hk : Kept' so L own) : Kept' so (L.setIfInBounds j true) own := by
  induction so with
  | nil => trivial
  | cons z q ih =>
    refine ⟨hk.1.imp (fun h => ?_) id, ih hk.2⟩
    obtain ⟨t, ht, e⟩ := List.any_eq_true.1 h
    refine List.any_eq_true.2 ⟨t, ht, ?_⟩
    by_cases c : j = t
    · subst c
      rcases Nat.lt_or_ge j L.size with h' | h'
      · simp [h']
      · simp [Array.getElem?_eq_none h']
    · rw [getD_set_ne true c]; exact e

theorem kept0 {so : Segs} {L : Array Bool} (ps : List Nat) (h : ps.map (fun i => own[i]?) = so.map fun x => some x.1) : Kept' so L own := by
  induction so generalizing ps with
  | nil => trivial
  | cons z q ih =>
    cases ps with
    | nil => cases h
    | cons p ps =>
      simp only [List.map_cons, List.cons.injEq] at h
      exact ⟨.inr ⟨p, h.1⟩, ih ps h.2⟩
def picked (own : List Own) : List Bool → List Nat → List (Option Own)
  | b :: bs, p :: ps => cond b none own[p]? :: picked own bs ps
  | _, _ => []
def wanted' : List Bool → Segs → List (Option Own)
  | b :: bs, x :: q => cond b none (some x.1) :: wanted' bs q
  | _, _ => []
theorem kept1 {so : Segs} {L : Array Bool} (bs : List Bool) (ps : List Nat) (h1 : so.map (fun x => x.2.any fun t => L.getD t true) = bs) (h : picked own bs ps = wanted' bs so) : Kept' so L own := by
  induction so generalizing ps bs with
  | nil => trivial
  | cons z q ih =>
    subst h1
    cases ps with
    | nil => cases h
    | cons p ps =>
      simp only [List.map_cons, picked, wanted', List.cons.injEq] at h
      refine ⟨?_, ih _ ps rfl h.2⟩
      cases e : (z.2.any fun t => L.getD t true) with
      | true => exact .inl rfl
      | false =>
        have h2 := h.1
        rw [e] at h2
        exact .inr ⟨p, h2⟩
def JB (x : Cx) (ops : Array Oper) (K : Act → World → Prop) (so : Segs) (sH : Heaplet) (fuel : Nat) (listed : Array Bool) (l : Slots) (own : List Own) (H : Heaplet) : Prop :=
  Reg ops → Hle sH H → Kept' so listed own → ∀ a w, Holds x l own H a w → wpAT (Fw x.r) 0 x.P .any ops (onlyN K) (SB so sH) fuel listed a w
def JOB (x : Cx) (ops : Array Oper) (K : Act → World → Prop) (so : Segs) (sH : Heaplet) (fuel : Nat) (listed : Array Bool) (i : Nat) (l : Slots) (own : List Own) (H : Heaplet) : Prop :=
  Reg ops → Hle sH H → Kept' so listed own → ∀ a w, Holds x l own H a w →
    wpOpIn (Fw x.r) 0 x.P ops (onlyN K) i (fun a' w' => SB so sH (listed.setIfInBounds i true) w' ∧ wpAT (Fw x.r) 0 x.P .any ops (onlyN K) (SB so sH) fuel (listed.setIfInBounds i true) a' w') a w
theorem JC.drawB {Q : Exit → Act → World → Prop} {so : Segs} (N : Nat) {id : Nat} (hN : ops.size = N) (hm : x.P.follows .mixedOrders = true) (hreg : Reg ops) (hk : Kept' so (Array.replicate N false) own)
    (h : JB x ops (Q .normal) so H N (Array.replicate N false) l own H) : JC x (.region id ops true) Q l own H := fun a w hh => by
  subst hN
  refine wpIn_mono (Q := onlyN (Q .normal)) (wpIn_region_any hm (wpAT_sound _ _ _ _ (h hreg (Hle.refl _) hk a w.drew ⟨hh.size, hh.ds, hh.slots, hh.mem.drew⟩))) ?_
  intro e a w hq
  cases e with
  | normal => exact hq
  | exit id => exact hq.elim
  | goto t => exact hq.elim
  | ret => exact hq.elim
  | panic c => exact hq.elim
  | outgrown => exact hq.elim
section
variable {so : Segs} {sH : Heaplet} {fuel i d : Nat} {listed listed' : Array Bool} {op : Op} {ty : TypeId} {pos : String} {aft : Array Edge} {g : Option (Nat × Bool)} {v : Value}
theorem JB.val (D : List Nat) (ho : ops[i]? = some ⟨some d, op, ty, pos, aft, g⟩) (hr : Runs x op ty l (segsOf D so) sH v)
    (h : JB x ops K so sH fuel listed' ((d, v) :: l) own H)
    (ht : Take ops listed i listed' := by exact ⟨by kernel_rfl, by kernel_rfl, rfl⟩) (hg : guardYes ops l g := by first | exact trivial | exact ⟨_, _, rfl, rfl, rfl⟩)
    (hD : hangs .any ops i D listed = true := by kernel_rfl) (hn : noTurn so i = true := by rfl) (hd : Nat.blt d x.n = true := by rfl) :
    JB x ops K so sH (fuel + 1) listed l own H := fun hreg hle hk a w hh => by
  have hl := ht.nxt
  subst hl
  exact wpAT_first (fun _ => trivial) ho (Region.noSelect_spec hreg.sel) hreg.noDefer (fun c a' w' h' => h') (fun _ j _ h => h.mono j) (fun _ _ h => h.skip hn) (D := D) (T := Stab (segsOf D so) sH) (fun _ _ hD h => h.stab hD)
    fuel listed a w (Region.free_spec ho ht.free) hD (by simpa using ht.rdy)
    (.inl ⟨wanted_yes hh hg, fun w' hw' => hr a.eval w' (some d) pos aft g (fun o u e => Z8 hh e) hw'⟩) (hk.sb hle hh) (h hreg hle (hk.mono i) _ _ (hh.put hd v))
theorem JB.doneN (hr : Region.ready .any ops listed = []) (h : JN x K l own H) : JB x ops K so sH fuel listed l own H := fun _ _ _ a w hh => by
  cases fuel with
  | zero => exact ⟨hr, h a w hh⟩
  | succ fuel => exact ⟨fun _ => h a w hh, by rw [hr]; simp⟩
theorem JB.one (hr : Region.ready .any ops listed = [i]) (h1 : JOB x ops K so sH fuel listed i l own H) : JB x ops K so sH (fuel + 1) listed l own H := fun hreg hle hk a w hh => by
  refine ⟨fun h0 => (by rw [hr] at h0; cases h0), fun k hk' => ?_⟩
  rw [hr] at hk'; simp at hk'; subst hk'; exact h1 hreg hle hk a w hh
theorem JB.two {j : Nat} (hr : Region.ready .any ops listed = [i, j]) (h1 : JOB x ops K so sH fuel listed i l own H) (h2 : JOB x ops K so sH fuel listed j l own H) :
    JB x ops K so sH (fuel + 1) listed l own H := fun hreg hle hk a w hh => by
  refine ⟨fun h0 => (by rw [hr] at h0; cases h0), fun k hk' => ?_⟩
  rw [hr] at hk'; simp at hk'; rcases hk' with rfl | rfl
  · exact h1 hreg hle hk a w hh
  · exact h2 hreg hle hk a w hh
theorem JOB.step {dst : Option Tmp} (ho : ops[i]? = some ⟨dst, op, ty, pos, aft, g⟩) (hg : guardYes ops l g) (hl : listed.setIfInBounds i true = listed')
    (h : ∀ K' : Act → World → Prop, (∀ l' own' H', Hle sH H' → Kept' so listed' own' → JB x ops K so sH fuel listed' l' own' H' → JN x K' l' own' H') →
      JL x ops (fun e a w => match e with | .normal => K' a w | e => onlyN K e a w) [⟨dst, op, ty, pos, aft, none⟩] l own H) :
    JOB x ops K so sH fuel listed i l own H := fun hreg hle hk a w hh => by
  subst hl
  have := h (fun a' w' => SB so sH (listed.setIfInBounds i true) w' ∧ wpAT (Fw x.r) 0 x.P .any ops (onlyN K) (SB so sH) fuel (listed.setIfInBounds i true) a' w')
    (fun l' own' H' hle' hk' hJ a' w' hh' => ⟨hk'.sb hle' hh', hJ hreg hle' hk' a' w' hh'⟩) a w hh
  simp only [wpLs, Z9, if_true] at this
  unfold wpOpIn
  simp only [ho]
  rw [if_pos (wanted_yes hh hg)]
  refine ⟨fun _ _ => trivial, ?_⟩
  have h2 := this.2
  have es : ∀ (ρ : Operand → Value), Oper.semAt (Fw x.r).round ρ ⟨dst, op, ty, pos, aft, g⟩ = Oper.semAt (Fw x.r).round ρ ⟨dst, op, ty, pos, aft, none⟩ := fun ρ => by
    unfold Oper.semAt; cases (Fw x.r).round <;> cases op <;> rfl
  rw [es]
  generalize (Oper.semAt (Fw x.r).round a.eval ⟨dst, op, ty, pos, aft, none⟩).run x.P w = r at *
  cases r with
  | ok y w' =>
    cases y <;> simp only [Oper.uponIn] at h2 ⊢ <;> first | exact h2 | exact ⟨h2.1, CallsIn.mono h2.2 (fun e w'' he => by cases e <;> exact he)⟩ | exact ⟨h2.1, RoundIn.mono h2.2 (fun e w'' he => by cases e <;> exact he)⟩
  | halt y w' => cases y <;> simp only [Oper.uponIn] at h2 ⊢ <;> exact h2
theorem JB.gSplit {t : Nat} {b : Bool} (hb : lk l t = some (.bool b)) (ht : b = true → JB x ops K so sH fuel listed ((t, .bool true) :: l) own H)
    (hf : b = false → JB x ops K so sH fuel listed ((t, .bool false) :: l) own H) : JB x ops K so sH fuel listed l own H := fun hreg hle hk a w hh => by
  cases b with
  | true => exact ht rfl hreg hle hk a w (hh.set hb rfl)
  | false => exact hf rfl hreg hle hk a w (hh.set hb rfl)
end
end Go.Ow

/- plain functions: what the code computes. -/
namespace Go.Ow
set_option linter.unusedVariables false
set_option linter.unusedSimpArgs false

def dev_cut (p_1 : List Int) : Option (List (List UInt8)) := if (∀ n ∈ p_1, 0 ≤ n) ∧ (p_1.map Int.toNat).sum ≤ LIM ∧ p_1.length ≤ LIM then some (p_1.map fun n => List.replicate n.toNat 0) else none

def dev_place (p_1 : Int) : Option Bool :=
  some (decide ((u64i p_1) < (256 : UInt64)))

def dev_Check_l2 (p_1 : Disk) (s_18 : Bool × Nat) : Option ((Bool × Nat) ⊕ Bool) :=
  cond (decide (((s_18.2 : Nat) : Int) < (p_1.Waits.length : Int))) (idx p_1.Waits ((s_18.2 : Nat) : Int) fun y_22 => cond s_18.1 (Option.bind (dev_place y_22.At) fun x_35 => cond x_35 (some (.inl (decide ((y_22.Data.length : Int) = 256), s_18.2 + 1))) (some (.inl (false, s_18.2 + 1)))) (some (.inl (false, s_18.2 + 1)))) (some (.inr s_18.1))

def dev_Check_l1 (p_1 : Disk) (s_12 : Bool × Nat) : Option ((Bool × Nat) ⊕ Bool) :=
  cond (decide (((s_12.2 : Nat) : Int) < (p_1.Blocks.length : Int))) (idx p_1.Blocks ((s_12.2 : Nat) : Int) fun y_16 => cond s_12.1 (some (.inl (decide ((y_16.length : Int) = 256), s_12.2 + 1))) (some (.inl (false, s_12.2 + 1)))) (some (.inr s_12.1))

def dev_Check (p_1 : Disk) : Option Int :=
  Option.bind (cond (decide ((p_1.Blocks.length : Int) = 256)) (some (decide ((p_1.Waits.length : Int) ≤ 4096))) (some false)) (fun t_5 => Option.bind (loop (dev_Check_l1 p_1) (t_5, 0)) (fun t_9 => Option.bind (loop (dev_Check_l2 p_1) (t_9, 0)) (fun t_15 => cond t_15 (some 0) (some 8))))

def slices_Max_byte_l1 (p_1 : List UInt8) (s_16 : UInt8 × Nat) : Option ((UInt8 × Nat) ⊕ UInt8) :=
  cond (decide (((s_16.2 : Nat) : Int) < (p_1.length : Int))) (idx p_1 ((s_16.2 : Nat) : Int) fun y_20 => some (.inl (maxB s_16.1 y_20, s_16.2 + 1))) (some (.inr s_16.1))

def slices_Max_byte (p_1 : List UInt8) : Option UInt8 :=
  cond (decide ((p_1.length : Int) < 1)) (none) (idx p_1 0 fun y_4 => Option.bind (loop (slices_Max_byte_l1 p_1) (y_4, 1)) (fun t_13 => some t_13))

def unicode_utf8_RuneCount (p_0 : List UInt8) : Option Int := none

def bytes_Index (p_0 : List UInt8) (p_1 : List UInt8) : Option Int := none

def bytes_Count_l1 (p_3 : List UInt8) (s_22 : List UInt8 × Int) : Option ((List UInt8 × Int) ⊕ Int) :=
  Option.bind (bytes_Index s_22.1 p_3) fun x_26 => cond (decide (x_26 = (-1))) (some (.inr s_22.2)) (slc s_22.1 (w64 (x_26 + (p_3.length : Int))) (s_22.1.length : Int) fun m_30 => some (.inl (m_30, w64 (s_22.2 + 1))))

def bytes_Count (p_1 : List UInt8) (p_3 : List UInt8) : Option Int :=
  cond (decide ((p_3.length : Int) = 0)) (Option.bind (unicode_utf8_RuneCount p_1) fun x_6 => some (w64 (x_6 + 1))) (cond (decide ((p_3.length : Int) = 1)) (idx p_3 0 fun y_10 => some ((cntB p_1 y_10 : Nat) : Int)) (Option.bind (loop (bytes_Count_l1 p_3) (p_1, 0)) (fun t_19 => some t_19)))

def space_Check (p_1 : List UInt8) : Option Int :=
  cond (!decide ((p_1.length : Int) = 256)) (some 8) (Option.bind (slices_Max_byte p_1) fun x_4 => cond (decide ((2 : UInt8) < x_4)) (some 8) (slc p_1 0 12 fun m_8 => Option.bind (bytes_Count m_8 ([(1 : UInt8)])) fun x_16 => cond (!decide (x_16 = 12)) (some 8) (some 0)))

def store_Check (p_1 : Store) : Option Int :=
  Option.bind (dev_Check (Disk.mk p_1.Disk.Blocks p_1.Disk.Waits)) fun x_6 => cond (!decide (x_6 = 0)) (some 8) (Option.bind (space_Check p_1.Space) fun x_10 => cond (!decide (x_10 = 0)) (some 8) (cond (decide (p_1.Epoch < (1 : UInt32))) (some 8) (cond (decide ((65535 : UInt32) < p_1.Epoch)) (some 8) (cond (decide ((65535 : UInt32) < p_1.Count)) (some 8) (some 0)))))

def store_asked_l1 (p_7 : List (List UInt8)) (s_19 : Int × Nat) : Option ((Int × Nat) ⊕ (Unit ⊕ Unit)) :=
  cond (decide (((s_19.2 : Nat) : Int) < (p_7.length : Int))) (idx p_7 ((s_19.2 : Nat) : Int) fun y_23 => cond (!decide ((y_23.length : Int) = s_19.1)) (some (.inr (.inr ()))) (some (.inl (256, s_19.2 + 1)))) (some (.inr (.inl ())))

def store_asked (p_1 : Store) (p_5 : UInt32) (p_6 : Int) (p_7 : List (List UInt8)) : Option Int :=
  Option.bind (store_Check p_1) fun x_10 => cond (!decide (x_10 = 0)) (some x_10) (cond (decide (p_5 < (1 : UInt32))) (some 2) (cond (decide ((16777215 : UInt32) < p_5)) (some 2) (Option.bind (loop (store_asked_l1 p_7) (p_6, 0)) (fun t_16 => Sum.elim (fun t_16a => some 0) (fun t_16b => some 3) t_16))))

def code_sized (p_1 : Int) : Option Bool :=
  Option.bind (cond (decide (0 < p_1)) (some (decide (p_1 ≤ 4))) (some false)) (fun t_2 => some t_2)

def code_Put_l1 (p_2 : Int) (s_13 : Int × List UInt8) : Option ((Int × List UInt8) ⊕ (List UInt8)) :=
  cond (decide ((s_13.2.length : Int) < p_2)) (app s_13.2 ([u8i s_13.1]) fun q_19 => some (.inl (w64 (s_13.1.tdiv 256), q_19))) (some (.inr s_13.2))

def code_Put (p_1 : Int) (p_2 : Int) : Option (List UInt8 × Int) :=
  Option.bind (code_sized p_2) fun x_3 => cond (!x_3) (some (([] : List UInt8), 2)) (cond (decide (p_1 < 0)) (some (([] : List UInt8), 2)) (chk (0 ≤ (w64 (8 * p_2))) <| cond (decide ((sli 1 (w64 (8 * p_2))) ≤ p_1)) (some (([] : List UInt8), 2)) (Option.bind (loop (code_Put_l1 p_2) (p_1, ([] : List UInt8))) (fun t_10 => some (t_10, 0)))))

def cipher_pieces (p_1 : List UInt8) (p_3 : UInt32) : Option (List UInt8 × List UInt8) :=
  Option.bind (code_Put (p_3.toNat : Int) 4) fun x_5 => some (p_1, x_5.1)

def slices_Grow_byte (p_1 : Int) : Option (List UInt8) :=
  cond (decide (p_1 < 0)) (none) (Option.bind (cond (decide (0 < (w64 (p_1 - 0)))) (mks (w64 (p_1 - 0)) (0 : UInt8) fun q_9 => slc q_9 0 0 fun m_13 => some m_13) (some ([] : List UInt8))) (fun t_3 => some t_3))

def slices_Concat_byte_l2 (p_1 : List (List UInt8)) (s_16 : List UInt8 × Nat) : Option ((List UInt8 × Nat) ⊕ (List UInt8)) :=
  cond (decide (((s_16.2 : Nat) : Int) < (p_1.length : Int))) (idx p_1 ((s_16.2 : Nat) : Int) fun y_21 => app s_16.1 y_21 fun q_32 => some (.inl (q_32, s_16.2 + 1))) (some (.inr s_16.1))

def slices_Concat_byte_l1 (p_1 : List (List UInt8)) (s_6 : Int × Nat) : Option ((Int × Nat) ⊕ Int) :=
  cond (decide (((s_6.2 : Nat) : Int) < (p_1.length : Int))) (idx p_1 ((s_6.2 : Nat) : Int) fun y_10 => cond (decide ((w64 (s_6.1 + (y_10.length : Int))) < 0)) (none) (some (.inl (w64 (s_6.1 + (y_10.length : Int)), s_6.2 + 1)))) (some (.inr s_6.1))

def slices_Concat_byte (p_1 : List (List UInt8)) : Option (List UInt8) :=
  Option.bind (loop (slices_Concat_byte_l1 p_1) (0, 0)) (fun t_3 => Option.bind (slices_Grow_byte t_3) fun x_9 => Option.bind (loop (slices_Concat_byte_l2 p_1) (x_9, 0)) (fun t_13 => some t_13))

def slices_Clone_byte (p_1 : List UInt8) : Option (List UInt8) := app [] p_1 fun q => some q

def slices_Clip_byte (p_1 : List UInt8) : Option (List UInt8) :=
  slc p_1 0 (p_1.length : Int) fun m_3 => some m_3

def slices_Chunk_byte (p_1 : List UInt8) (p_2 : Int) : Option Unit := if 1 ≤ p_2 ∧ p_2 ≤ 1099511627776 ∧ p_1.length ≤ LIM then some () else none

def slices_Backward_byte (p_1 : List UInt8) : Option Unit := some ()

def code_Get_r1 (y_28 : Nat × UInt8) (s_27 : Int) : Option (Int ⊕ Unit) :=
  some (.inl (w64 ((w64 (256 * s_27)) + (y_28.2.toNat : Int))))

def code_Get (p_1 : List UInt8) (p_3 : Int) (p_4 : Int) : Option (Int × Int) :=
  Option.bind (code_sized p_4) fun x_5 => Option.bind (cond (!x_5) (some true) (cond (decide (p_3 < 0)) (some true) (some (decide ((p_1.length : Int) < p_3))))) (fun t_8 => cond t_8 (some (0, 2)) (cond (decide ((p_1.length : Int) < (w64 (p_3 + p_4)))) (some (0, 8)) (slc p_1 p_3 (w64 (p_3 + p_4)) fun m_16 => Option.bind (slices_Backward_byte m_16) fun x_20 => Option.bind (forL code_Get_r1 (bwd m_16 m_16.length) 0) (fun t_24 => Sum.elim (fun s_27 => some (s_27, 0)) (fun _ => none) t_24))))

def mix_number (p_1 : List UInt8) : Option UInt32 :=
  Option.bind (code_Get p_1 0 4) fun x_3 => some (u32i x_3.1)

def math_bits_RotateLeft32 (p_1 : UInt32) (p_2 : Int) : Option UInt32 :=
  some ((sl32 p_1 ((((u64i p_2) &&& (31 : UInt64)).toNat : Int)).toNat) ||| (sr32 p_1 ((((32 : UInt64) - ((u64i p_2) &&& (31 : UInt64))).toNat : Int)).toNat))

def mix_words_turned_1 (p_1 : Int) (p_2 : Int) (p_4 : A4 UInt32) : Option (A4 UInt32) :=
  Option.bind (math_bits_RotateLeft32 (p_4.e3 ^^^ (p_4.e0 + p_4.e1)) p_1) fun x_5 => Option.bind (math_bits_RotateLeft32 (p_4.e1 ^^^ (p_4.e2 + x_5)) p_2) fun x_8 => some (A4.mk (p_4.e0 + p_4.e1) x_8 (p_4.e2 + x_5) x_5)

def mix_words_turned (p_1 : A4 UInt32) : Option (A4 UInt32) :=
  Option.bind (mix_words_turned_1 15 11 p_1) fun x_4 => Option.bind (mix_words_turned_1 9 6 x_4) fun x_7 => some x_7

def mix_words_often_l1 (p_2 : Int) (s_8 : UInt32 × UInt32 × UInt32 × UInt32 × Int) : Option ((UInt32 × UInt32 × UInt32 × UInt32 × Int) ⊕ (UInt32 × UInt32 × UInt32 × UInt32)) :=
  cond (decide (s_8.2.2.2.2 < p_2)) (Option.bind (mix_words_turned (A4.mk s_8.1 s_8.2.1 s_8.2.2.1 s_8.2.2.2.1)) fun x_12 => some (.inl (x_12.e0, x_12.e1, x_12.e2, x_12.e3, w64 (s_8.2.2.2.2 + 1)))) (some (.inr (s_8.1, s_8.2.1, s_8.2.2.1, s_8.2.2.2.1)))

def mix_words_often (p_1 : A4 UInt32) (p_2 : Int) : Option (A4 UInt32) :=
  Option.bind (loop (mix_words_often_l1 p_2) (p_1.e0, p_1.e1, p_1.e2, p_1.e3, 0)) (fun t_5 => some (A4.mk t_5.1 t_5.2.1 t_5.2.2.1 t_5.2.2.2))

def mix_four_r2 (y_36 : List UInt8) (s_35 : UInt32 × UInt32 × UInt32 × UInt32) : Option ((UInt32 × UInt32 × UInt32 × UInt32) ⊕ Unit) :=
  Option.bind (slc y_36 0 4 fun m_45 => Option.bind (mix_number m_45) fun x_49 => some (s_35.1 ^^^ x_49)) (fun t_42 => slc y_36 4 (y_36.length : Int) fun m_56 => Option.bind (mix_number m_56) fun x_60 => Option.bind (mix_words_often (A4.mk t_42 s_35.2.1 (s_35.2.2.1 ^^^ x_60) s_35.2.2.2) 4) fun x_63 => some (.inl (x_63.e0, x_63.e1, x_63.e2, x_63.e3)))

def mix_four_l1 (s_22 : List UInt8) : Option ((List UInt8) ⊕ (List UInt8)) :=
  cond (!decide (((s_22.length : Int).tmod 8) = 0)) (app s_22 ([(0 : UInt8)]) fun q_28 => some (.inl q_28)) (some (.inr s_22))

def mix_four (p_1 : List UInt8) : Option (A4 UInt32) :=
  Option.bind (slices_Clone_byte p_1) fun x_5 => Option.bind (slices_Clip_byte x_5) fun x_10 => app x_10 ([(1 : UInt8)]) fun q_15 => Option.bind (loop mix_four_l1 q_15) (fun t_19 => Option.bind (slices_Chunk_byte t_19 8) fun x_28 => Option.bind (forL mix_four_r2 (chunks (8 : Int).toNat t_19.length t_19) ((1 : UInt32), (2 : UInt32), (3 : UInt32), (4 : UInt32))) (fun t_32 => Sum.elim (fun s_35 => Option.bind (mix_words_often (A4.mk s_35.1 (s_35.2.1 ^^^ (u32i (p_1.length : Int))) s_35.2.2.1 s_35.2.2.2) 8) fun x_42 => some x_42) (fun _ => none) t_32))

def mix_Key_l1 (x_3 : A4 UInt32) (s_9 : List UInt8 × Nat) : Option ((List UInt8 × Nat) ⊕ (List UInt8)) :=
  cond (decide (((s_9.2 : Nat) : Int) < 4)) (idx x_3.l ((s_9.2 : Nat) : Int) fun y_14 => Option.bind (code_Put (y_14.toNat : Int) 4) fun x_16 => app s_9.1 x_16.1 fun q_20 => some (.inl (q_20, s_9.2 + 1))) (some (.inr s_9.1))

def mix_Key (p_1 : List UInt8) : Option (List UInt8) :=
  Option.bind (mix_four p_1) fun x_3 => Option.bind (loop (mix_Key_l1 x_3) (([] : List UInt8), 0)) (fun t_6 => some t_6)

def cipher_pieces_1_l1 {σ τ : Type} (p_1 : (List UInt8) → σ → Option (σ ⊕ τ)) (p_4 : List UInt8) (p_7 : List UInt8) (s_12 : σ × Int) : Option ((σ × Int) ⊕ τ) :=
  Option.bind (code_Put s_12.2 4) fun x_18 => Option.bind (slices_Concat_byte ([p_4, p_7, x_18.1])) fun x_27 => Option.bind (mix_Key x_27) fun x_35 => Option.bind (p_1 x_35 s_12.1) fun out_41 => Sum.elim (fun s_43 => some (.inl (s_43, w64 (s_12.2 + 1)))) (fun t_44 => some (.inr t_44)) out_41

def cipher_pieces_1 {σ τ : Type} (p_1 : (List UInt8) → σ → Option (σ ⊕ τ)) (p_2 : σ) (p_4 : List UInt8) (p_7 : List UInt8) : Option (σ ⊕ τ) :=
  Option.bind (loop (cipher_pieces_1_l1 p_1 p_4 p_7) (p_2, 0)) (fun t_9 => some (.inr (t_9)))

def cipher_Stream_r1 (p_4 : Int) (y_25 : List UInt8) (s_24 : List UInt8) : Option ((List UInt8) ⊕ (List UInt8)) :=
  cond (decide (p_4 ≤ (s_24.length : Int))) (some (.inr s_24)) (app s_24 y_25 fun q_37 => some (.inl q_37))

def cipher_Stream (p_1 : List UInt8) (p_3 : UInt32) (p_4 : Int) : Option (List UInt8 × Int) :=
  cond (!decide ((p_1.length : Int) = 16)) (some (([] : List UInt8), 2)) (cond (decide (p_4 < 0)) (some (([] : List UInt8), 2)) (cond (decide (4096 < p_4)) (some (([] : List UInt8), 2)) (Option.bind (cipher_pieces p_1 p_3) fun x_10 => Option.bind (Option.bind (cipher_pieces_1 (cipher_Stream_r1 p_4) ([] : List UInt8) x_10.1 x_10.2) (fun t_21 => Sum.elim (fun s_24 => some s_24) (fun t_21e0 => some t_21e0) t_21)) (fun t_17 => slc t_17 0 p_4 fun m_45 => Option.bind (slices_Clone_byte m_45) fun x_49 => some (x_49, 0)))))

def cipher_Turn_l1 (p_4 : List UInt8) (s_15 : List UInt8 × Nat) : Option ((List UInt8 × Nat) ⊕ (List UInt8)) :=
  cond (decide (((s_15.2 : Nat) : Int) < (p_4.length : Int))) (idx p_4 ((s_15.2 : Nat) : Int) fun y_20 => idx s_15.1 ((s_15.2 : Nat) : Int) fun y_29 => chk (0 ≤ ((s_15.2 : Nat) : Int) ∧ ((s_15.2 : Nat) : Int).toNat < s_15.1.length) <| setI s_15.1 ((s_15.2 : Nat) : Int) (y_29 ^^^ y_20) fun m_44 => some (.inl (m_44, s_15.2 + 1))) (some (.inr s_15.1))

def cipher_Turn (p_1 : List UInt8) (p_3 : UInt32) (p_4 : List UInt8) : Option (List UInt8 × Int) :=
  cond (!decide ((p_1.length : Int) = 16)) (some (([] : List UInt8), 2)) (cond (decide (4096 < (p_4.length : Int))) (some (([] : List UInt8), 3)) (Option.bind (cipher_Stream p_1 p_3 (p_4.length : Int)) fun x_8 => Option.bind (loop (cipher_Turn_l1 p_4) (x_8.1, 0)) (fun t_12 => some (t_12, x_8.2))))

def seal_turned (p_1 : List UInt8) (p_3 : UInt32) (p_4 : List UInt8) : Option (List UInt8 × Int) :=
  Option.bind (cond (decide ((p_1.length : Int) = 16)) (cond (decide (256 < (p_4.length : Int))) (some (.inr ())) (some (.inl ()))) (some (.inl ()))) (fun t_6 => Sum.elim (fun t_6a => Option.bind (cipher_Turn p_1 p_3 p_4) fun x_11 => some (x_11.1, x_11.2)) (fun t_6b => some (([] : List UInt8), 3)) t_6)

def mac_inner (p_1 : List (List UInt8)) : Option (List UInt8) :=
  Option.bind (slices_Concat_byte p_1) fun x_3 => Option.bind (mix_Key x_3) fun x_10 => some x_10

def mix_Sum (p_1 : List UInt8) : Option UInt32 :=
  Option.bind (mix_four p_1) fun x_3 => some x_3.e0

def mac_Tag (p_1 : List UInt8) (p_3 : List UInt8) : Option (UInt32 × Int) :=
  cond (!decide ((p_1.length : Int) = 16)) (some ((0 : UInt32), 2)) (Option.bind (mac_inner ([p_1, [(1 : UInt8)], p_3])) fun x_13 => Option.bind (slices_Concat_byte ([p_1, [(2 : UInt8)], x_13])) fun x_24 => Option.bind (mix_Sum x_24) fun x_32 => some (x_32, 0))

def seal_tagged (p_1 : List UInt8) (p_3 : UInt32) (p_4 : List UInt8) : Option (UInt32 × Int) :=
  Option.bind (code_Put (p_3.toNat : Int) 4) fun x_6 => cond (!decide (x_6.2 = 0)) (some ((0 : UInt32), x_6.2)) (Option.bind (slices_Concat_byte ([x_6.1, p_4])) fun x_16 => Option.bind (mac_Tag p_1 x_16) fun x_24 => some (x_24.1, x_24.2))

def seal_Seal (p_1 : List UInt8) (p_3 : UInt32) (p_4 : List UInt8) : Option (List UInt8 × UInt32 × Int) :=
  Option.bind (seal_turned p_1 p_3 p_4) fun x_6 => cond (!decide (x_6.2 = 0)) (some (([] : List UInt8), (0 : UInt32), x_6.2)) (Option.bind (seal_tagged p_1 p_3 x_6.1) fun x_14 => some (x_6.1, x_14.1, x_14.2))

def space_free (p_1 : List UInt8) : Option (Int × List UInt8) :=
  some ((-1), p_1)

def space_free_1_l1 (p_4 : List UInt8) (s_9 : Int) : Option (Int ⊕ (Int ⊕ (Int × Int))) :=
  cond (decide (s_9 < (p_4.length : Int))) (idx p_4 s_9 fun y_13 => cond (decide (y_13 = (0 : UInt8))) (some (.inr (.inr (s_9, s_9)))) (some (.inl (w64 (s_9 + 1))))) (some (.inr (.inl s_9)))

def space_free_1 (p_2 : Int) (p_4 : List UInt8) : Option (Int × Int × List UInt8) :=
  Option.bind (loop (space_free_1_l1 p_4) (w64 (p_2 + 1))) (fun t_6 => Sum.elim (fun t_6a => some ((-1), t_6a, p_4)) (fun t_6b => some (t_6b.2, t_6b.1, p_4)) t_6)

def bytes_Clone (p_1 : List UInt8) : Option (List UInt8) := app [] p_1 fun q => some q

def space_Take (p_1 : List UInt8) : Option (List UInt8 × Int × Int) :=
  Option.bind (space_Check p_1) fun x_3 => cond (!decide (x_3 = 0)) (some (([] : List UInt8), 0, x_3)) (Option.bind (space_free p_1) fun x_7 => Option.bind (space_free_1 x_7.1 x_7.2) fun x_13 => cond (decide (x_13.1 < 0)) (some (([] : List UInt8), 0, 9)) (Option.bind (bytes_Clone p_1) fun x_18 => chk (0 ≤ x_13.1 ∧ x_13.1.toNat < x_18.length) <| setI x_18 x_13.1 (1 : UInt8) fun m_26 => some (m_26, x_13.1, 0)))

def dev_Write_1 (p_2 : Disk) : Option (Disk × Disk) :=
  some (p_2, p_2)

def dev_guarded (p_1 : Disk) (p_4 : Bool) (p_6 : Disk) : Option (Disk × Int × Disk) :=
  Option.bind (dev_Check p_1) fun x_11 => cond (!decide (x_11 = 0)) (some (Disk.mk ([] : List (List UInt8)) ([] : List Write), x_11, p_6)) (cond (!p_4) (some (Disk.mk ([] : List (List UInt8)) ([] : List Write), 2, p_6)) (Option.bind (dev_Write_1 p_6) fun x_16 => some (x_16.1, 0, x_16.2)))

def slices_Clip_Write (p_1 : List Write) : Option (List Write) :=
  slc p_1 0 (p_1.length : Int) fun m_3 => some m_3

def dev_Twin_l3 (p_1 : Disk) (s_30 : List Write × Nat) : Option ((List Write × Nat) ⊕ (List Write)) :=
  cond (decide (((s_30.2 : Nat) : Int) < (p_1.Waits.length : Int))) (idx p_1.Waits ((s_30.2 : Nat) : Int) fun y_36 => Option.bind (bytes_Clone y_36.Data) fun x_48 => app s_30.1 ([Write.mk y_36.At x_48]) fun q_54 => some (.inl (q_54, s_30.2 + 1))) (some (.inr s_30.1))

def dev_Twin_l2 (p_1 : Disk) (s_22 : List (List UInt8) × Nat) : Option ((List (List UInt8) × Nat) ⊕ (List (List UInt8))) :=
  cond (decide (((s_22.2 : Nat) : Int) < (p_1.Blocks.length : Int))) (idx p_1.Blocks ((s_22.2 : Nat) : Int) fun y_27 => idx s_22.1 ((s_22.2 : Nat) : Int) fun y_38 => chk (y_27.length = y_38.length) <| setI s_22.1 ((s_22.2 : Nat) : Int) y_27 fun m_51 => some (.inl (m_51, s_22.2 + 1))) (some (.inr s_22.1))

def dev_Twin_l1 (p_1 : Disk) (s_9 : List Int × Nat) : Option ((List Int × Nat) ⊕ (List Int)) :=
  cond (decide (((s_9.2 : Nat) : Int) < (p_1.Blocks.length : Int))) (idx p_1.Blocks ((s_9.2 : Nat) : Int) fun y_14 => app s_9.1 ([(y_14.length : Int)]) fun q_26 => some (.inl (q_26, s_9.2 + 1))) (some (.inr s_9.1))

def dev_Twin (p_1 : Disk) : Option Disk :=
  Option.bind (loop (dev_Twin_l1 p_1) (([] : List Int), 0)) (fun t_6 => Option.bind (dev_cut t_6) fun x_15 => Option.bind (loop (dev_Twin_l2 p_1) (x_15, 0)) (fun t_19 => Option.bind (loop (dev_Twin_l3 p_1) (([] : List Write), 0)) (fun t_27 => some (Disk.mk t_19 t_27))))

def dev_Write (p_1 : Disk) (p_4 : Int) (p_5 : List UInt8) : Option (Disk × Int) :=
  Option.bind (Option.bind (dev_place p_4) fun x_12 => Option.bind (dev_guarded p_1 x_12 p_1) fun x_15 => some (x_15.2.2.Blocks, x_15.2.2.Waits, x_15.2.1)) (fun t_9 => cond (!decide (t_9.2.2 = 0)) (some (Disk.mk ([] : List (List UInt8)) ([] : List Write), t_9.2.2)) (cond (!decide ((p_5.length : Int) = 256)) (some (Disk.mk ([] : List (List UInt8)) ([] : List Write), 3)) (cond (decide ((t_9.2.1.length : Int) = 4096)) (some (Disk.mk ([] : List (List UInt8)) ([] : List Write), 9)) (Option.bind (Option.bind (slices_Clip_Write t_9.2.1) fun x_31 => app x_31 ([Write.mk p_4 p_5]) fun q_36 => Option.bind (dev_Twin (Disk.mk t_9.1 q_36)) fun x_41 => some (x_41.Blocks, x_41.Waits)) (fun t_28 => some (Disk.mk t_28.1 t_28.2, 0))))))

def store_put (p_1 : Store) (p_5 : Ptr) (p_6 : List UInt8) : Option (Store × Ptr × Int) :=
  Option.bind (space_Take p_1.Space) fun x_12 => cond (!decide (x_12.2.2 = 0)) (some (Store.mk (Disk.mk ([] : List (List UInt8)) ([] : List Write)) ([] : List UInt8) (0 : UInt32) (0 : UInt32), Ptr.mk 0 (0 : UInt32) (0 : UInt32) (0 : UInt32) (0 : UInt32), x_12.2.2)) (Option.bind (dev_Write (Disk.mk p_1.Disk.Blocks p_1.Disk.Waits) x_12.2.1 p_6) fun x_17 => cond (!decide (x_17.2 = 0)) (some (Store.mk (Disk.mk ([] : List (List UInt8)) ([] : List Write)) ([] : List UInt8) (0 : UInt32) (0 : UInt32), Ptr.mk 0 (0 : UInt32) (0 : UInt32) (0 : UInt32) (0 : UInt32), x_17.2)) (Option.bind (mix_Sum p_6) fun x_23 => some (Store.mk (Disk.mk x_17.1.Blocks x_17.1.Waits) x_12.1 p_1.Epoch p_1.Count, Ptr.mk x_12.2.1 p_5.Birth p_5.Iv p_5.Tag x_23, 0)))

def store_Seal (p_1 : Store) (p_5 : UInt32) (p_6 : List UInt8) (p_8 : List UInt8) : Option (Store × Ptr × Int) :=
  Option.bind (store_asked p_1 p_5 16 ([p_6, p_8])) fun x_17 => cond (!decide (x_17 = 0)) (some (Store.mk (Disk.mk ([] : List (List UInt8)) ([] : List Write)) ([] : List UInt8) (0 : UInt32) (0 : UInt32), Ptr.mk 0 (0 : UInt32) (0 : UInt32) (0 : UInt32) (0 : UInt32), x_17)) (cond (decide (p_1.Count = (65535 : UInt32))) (some (Store.mk (Disk.mk ([] : List (List UInt8)) ([] : List Write)) ([] : List UInt8) (0 : UInt32) (0 : UInt32), Ptr.mk 0 (0 : UInt32) (0 : UInt32) (0 : UInt32) (0 : UInt32), 132)) (Option.bind (seal_Seal p_6 ((sl32 p_1.Epoch (((16 : UInt64).toNat : Int)).toNat) ||| (p_1.Count + (1 : UInt32))) p_8) fun x_21 => cond (!decide (x_21.2.2 = 0)) (some (Store.mk (Disk.mk ([] : List (List UInt8)) ([] : List Write)) ([] : List UInt8) (0 : UInt32) (0 : UInt32), Ptr.mk 0 (0 : UInt32) (0 : UInt32) (0 : UInt32) (0 : UInt32), x_21.2.2)) (Option.bind (store_put (Store.mk (Disk.mk p_1.Disk.Blocks p_1.Disk.Waits) p_1.Space p_1.Epoch (p_1.Count + (1 : UInt32))) (Ptr.mk 0 p_5 ((sl32 p_1.Epoch (((16 : UInt64).toNat : Int)).toNat) ||| (p_1.Count + (1 : UInt32))) x_21.2.1 (0 : UInt32)) x_21.1) fun x_27 => some (x_27.1, x_27.2.1, x_27.2.2))))

def ref09_Great_l2 (p_1 : Disk) (s_22 : Int × Nat) : Option ((Int × Nat) ⊕ Int) :=
  cond (decide (((s_22.2 : Nat) : Int) < (p_1.Waits.length : Int))) (cond (decide (s_22.1 < 2000000)) (idx p_1.Waits ((s_22.2 : Nat) : Int) fun y_27 => some (.inl (w64 (s_22.1 + (y_27.Data.length : Int)), s_22.2 + 1))) (some (.inr s_22.1))) (some (.inr s_22.1))

def ref09_Great_l1 (p_1 : Disk) (s_16 : Int × Nat) : Option ((Int × Nat) ⊕ Int) :=
  cond (decide (((s_16.2 : Nat) : Int) < (p_1.Blocks.length : Int))) (cond (decide (s_16.1 < 2000000)) (idx p_1.Blocks ((s_16.2 : Nat) : Int) fun y_21 => some (.inl (w64 (s_16.1 + (y_21.length : Int)), s_16.2 + 1))) (some (.inr s_16.1))) (some (.inr s_16.1))

def ref09_Great (p_1 : Disk) : Option Bool :=
  Option.bind (cond (decide (500 < (p_1.Blocks.length : Int))) (some (.inr ())) (cond (decide (500 < (p_1.Waits.length : Int))) (cond (decide ((p_1.Waits.length : Int) < 4096)) (some (.inr ())) (cond (decide (4106 < (p_1.Waits.length : Int))) (some (.inr ())) (some (.inl ())))) (cond (decide (4106 < (p_1.Waits.length : Int))) (some (.inr ())) (some (.inl ()))))) (fun t_5 => Sum.elim (fun t_5a => Option.bind (loop (ref09_Great_l1 p_1) (0, 0)) (fun t_13 => Option.bind (loop (ref09_Great_l2 p_1) (t_13, 0)) (fun t_19 => some (decide (2000000 ≤ t_19))))) (fun t_5b => some true) t_5)

def ref13_Great (p_1 : Store) : Option Bool :=
  Option.bind (Option.bind (ref09_Great (Disk.mk p_1.Disk.Blocks p_1.Disk.Waits)) fun x_9 => cond x_9 (some true) (some (decide (10000 < (p_1.Space.length : Int))))) (fun t_6 => some t_6)

def store_Raw (p_1 : Store) (p_5 : UInt32) (p_6 : UInt32) (p_7 : UInt32) (p_8 : List UInt8) : Option (Store × Ptr × Int) :=
  Option.bind (store_asked p_1 p_5 256 ([p_8])) fun x_17 => cond (!decide (x_17 = 0)) (some (Store.mk (Disk.mk ([] : List (List UInt8)) ([] : List Write)) ([] : List UInt8) (0 : UInt32) (0 : UInt32), Ptr.mk 0 (0 : UInt32) (0 : UInt32) (0 : UInt32) (0 : UInt32), x_17)) (Option.bind (store_put p_1 (Ptr.mk 0 p_5 p_6 p_7 (0 : UInt32)) p_8) fun x_20 => some (x_20.1, x_20.2.1, x_20.2.2))

def store_Lay (p_1 : Store) (p_5 : UInt32) (p_6 : List UInt8) : Option (Store × Ptr × Int) :=
  Option.bind (store_Raw p_1 p_5 (0 : UInt32) (0 : UInt32) p_6) fun x_11 => some (x_11.1, x_11.2.1, x_11.2.2)

end Go.Ow

/- that new memory's bytes do not matter to bytes.Repeat. -/
namespace Go.Ow
set_option linter.unusedVariables false
set_option linter.unusedSimpArgs false

theorem run_go {σ τ : Type} {body : σ → Option (σ ⊕ τ)} {n : Nat} {s s' : σ} (h : body s = some (.inl s')) : run body (n + 1) s = run body n s' := by
  show Option.bind (body s) _ = _
  rw [h]; rfl
end Go.Ow

/- plain functions: what the code computes. -/
namespace Go.Ow
set_option linter.unusedVariables false
set_option linter.unusedSimpArgs false

end Go.Ow

/- plain functions: what the code computes. -/
namespace Go.Ow
set_option linter.unusedVariables false
set_option linter.unusedSimpArgs false

end Go.Ow

/- plain functions: what the code computes. -/
namespace Go.Ow
set_option linter.unusedVariables false
set_option linter.unusedSimpArgs false

def ref09_Twin_l2 (p_1 : Disk) (s_44 : List WriteO × Nat) : Option ((List WriteO × Nat) ⊕ (List WriteO)) :=
  cond (decide (((s_44.2 : Nat) : Int) < (p_1.Waits.length : Int))) (idx p_1.Waits ((s_44.2 : Nat) : Int) fun y_50 => idx s_44.1 ((s_44.2 : Nat) : Int) fun y_61 => setI s_44.1 ((s_44.2 : Nat) : Int) (WriteO.mk y_50.At y_61.Data) fun m_74 => idx p_1.Waits ((s_44.2 : Nat) : Int) fun y_78 => idx m_74 ((s_44.2 : Nat) : Int) fun y_89 => chkN y_89.Data <| app ([] : List UInt8) y_78.Data fun q_104 => idx m_74 ((s_44.2 : Nat) : Int) fun y_108 => setI m_74 ((s_44.2 : Nat) : Int) (WriteO.mk y_108.At (some q_104)) fun m_122 => some (.inl (m_122, s_44.2 + 1))) (some (.inr s_44.1))

def ref09_Twin_l1 (p_1 : Disk) (s_34 : List (Option (List UInt8)) × Nat) : Option ((List (Option (List UInt8)) × Nat) ⊕ (List (Option (List UInt8)))) :=
  cond (decide (((s_34.2 : Nat) : Int) < (p_1.Blocks.length : Int))) (idx p_1.Blocks ((s_34.2 : Nat) : Int) fun y_40 => idx s_34.1 ((s_34.2 : Nat) : Int) fun y_51 => chkN y_51 <| app ([] : List UInt8) y_40 fun q_66 => chk (0 ≤ ((s_34.2 : Nat) : Int) ∧ ((s_34.2 : Nat) : Int).toNat < s_34.1.length) <| setI s_34.1 ((s_34.2 : Nat) : Int) (some q_66) fun m_75 => some (.inl (m_75, s_34.2 + 1))) (some (.inr s_34.1))

def ref09_Twin (p_1 : Disk) : Option Disk :=
  Option.bind (mks (p_1.Blocks.length : Int) (none : Option (List UInt8)) fun x_11 => mks (p_1.Waits.length : Int) (WriteO.mk 0 (none : Option (List UInt8))) fun x_15 => some (x_11, x_15)) (fun t_6 => Option.bind (loop (ref09_Twin_l1 p_1) (t_6.1, 0)) (fun t_31 => Option.bind (loop (ref09_Twin_l2 p_1) (t_6.2, 0)) (fun t_41 => some (Disk.mk ((t_31).map (fun y => y.getD [])) ((t_41).map WriteO.w)))))

def ref13_Twin (p_1 : Store) : Option Store :=
  Option.bind (ref09_Twin (Disk.mk p_1.Disk.Blocks p_1.Disk.Waits)) fun x_7 => app ([] : List UInt8) p_1.Space fun q_13 => some (Store.mk (Disk.mk x_7.Blocks x_7.Waits) q_13 p_1.Epoch p_1.Count)

def ref09_place (p_1 : Int) : Option Bool :=
  Option.bind (cond (decide (0 ≤ p_1)) (some (decide (p_1 < 256))) (some false)) (fun t_2 => some t_2)

def ref09_May_l2 (p_1 : Disk) (s_14 : Int × Nat) : Option ((Int × Nat) ⊕ Int) :=
  cond (decide (((s_14.2 : Nat) : Int) < (p_1.Waits.length : Int))) (cond (decide (((s_14.2 : Nat) : Int) ≤ 4096)) (idx p_1.Waits ((s_14.2 : Nat) : Int) fun y_19 => cond (!decide ((y_19.Data.length : Int) = 256)) (some (.inl (w64 (s_14.1 + 1), s_14.2 + 1))) (idx p_1.Waits ((s_14.2 : Nat) : Int) fun y_31 => Option.bind (ref09_place y_31.At) fun x_42 => cond (!x_42) (some (.inl (w64 (s_14.1 + 1), s_14.2 + 1))) (some (.inl (s_14.1, s_14.2 + 1))))) (some (.inr s_14.1))) (some (.inr s_14.1))

def ref09_May_l1 (p_1 : Disk) (s_8 : Int × Nat) : Option ((Int × Nat) ⊕ Int) :=
  cond (decide (((s_8.2 : Nat) : Int) < (p_1.Blocks.length : Int))) (cond (decide (((s_8.2 : Nat) : Int) ≤ 256)) (idx p_1.Blocks ((s_8.2 : Nat) : Int) fun y_13 => cond (!decide ((y_13.length : Int) = 256)) (some (.inl (w64 (s_8.1 + 1), s_8.2 + 1))) (some (.inl (s_8.1, s_8.2 + 1)))) (some (.inr s_8.1))) (some (.inr s_8.1))

def ref09_May (p_1 : Disk) : Option Bool :=
  Option.bind (loop (ref09_May_l1 p_1) (0, 0)) (fun t_5 => Option.bind (loop (ref09_May_l2 p_1) (t_5, 0)) (fun t_11 => Option.bind (cond (decide (t_11 = 0)) (cond (decide ((p_1.Blocks.length : Int) = 256)) (some (decide ((p_1.Waits.length : Int) ≤ 4096))) (some false)) (some false)) (fun t_17 => some t_17)))

def ref12_May_l1 (p_1 : List UInt8) (s_7 : Nat) : Option (Nat ⊕ (Unit ⊕ Unit)) :=
  cond (decide (((s_7 : Nat) : Int) < 256)) (idx p_1 ((s_7 : Nat) : Int) fun y_11 => cond (decide ((2 : UInt8) < y_11)) (some (.inr (.inr ()))) (cond (decide (((s_7 : Nat) : Int) < 12)) (idx p_1 ((s_7 : Nat) : Int) fun y_22 => cond (!decide (y_22 = (1 : UInt8))) (some (.inr (.inr ()))) (some (.inl (s_7 + 1)))) (some (.inl (s_7 + 1))))) (some (.inr (.inl ())))

def ref12_May (p_1 : List UInt8) : Option Bool :=
  cond (!decide ((p_1.length : Int) = 256)) (some false) (Option.bind (loop (ref12_May_l1 p_1) 0) (fun t_4 => Sum.elim (fun t_4a => some true) (fun t_4b => some false) t_4))

def ref13_May (p_1 : Store) : Option Bool :=
  Option.bind (Option.bind (ref09_May (Disk.mk p_1.Disk.Blocks p_1.Disk.Waits)) fun x_9 => cond x_9 (Option.bind (ref12_May p_1.Space) fun x_13 => cond x_13 (cond (decide ((1 : UInt32) ≤ p_1.Epoch)) (cond (decide (p_1.Epoch ≤ (65535 : UInt32))) (some (decide (p_1.Count ≤ (65535 : UInt32)))) (some false)) (some false)) (some false)) (some false)) (fun t_6 => some t_6)

def ref02_byteAt (p_1 : List UInt8) (p_3 : Int) : Option UInt32 :=
  cond (decide (p_3 < (p_1.length : Int))) (idx p_1 p_3 fun y_5 => some y_5.toUInt32) (cond (decide (p_3 = (p_1.length : Int))) (some (1 : UInt32)) (some (0 : UInt32)))

def ref02_word (p_1 : List UInt8) (p_3 : Int) : Option UInt32 :=
  Option.bind (ref02_byteAt p_1 p_3) fun x_4 => Option.bind (ref02_byteAt p_1 (w64 (p_3 + 1))) fun x_7 => Option.bind (ref02_byteAt p_1 (w64 (p_3 + 2))) fun x_10 => Option.bind (ref02_byteAt p_1 (w64 (p_3 + 3))) fun x_13 => some (((x_4 + ((256 : UInt32) * x_7)) + ((65536 : UInt32) * x_10)) + ((16777216 : UInt32) * x_13))

def ref02_plus (p_1 : UInt32) (p_2 : UInt32) : Option UInt32 :=
  some (u32i ((w64 ((p_1.toNat : Int) + (p_2.toNat : Int))).tmod 4294967296))

def ref02_left_l1 (p_2 : Int) (s_6 : Int × Int) : Option ((Int × Int) ⊕ Int) :=
  cond (decide (s_6.2 < p_2)) (some (.inl (w64 (((w64 (s_6.1 * 2)).tmod 4294967296) + (w64 ((w64 (s_6.1 * 2)).tdiv 4294967296))), w64 (s_6.2 + 1)))) (some (.inr s_6.1))

def ref02_left (p_1 : UInt32) (p_2 : Int) : Option UInt32 :=
  Option.bind (loop (ref02_left_l1 p_2) ((p_1.toNat : Int), 0)) (fun t_3 => some (u32i t_3))

def ref02_Turn (p_1 : A4 UInt32) : Option (A4 UInt32) :=
  Option.bind (ref02_plus p_1.e0 p_1.e1) fun x_4 => Option.bind (ref02_left (p_1.e3 ^^^ x_4) 15) fun x_7 => Option.bind (ref02_plus p_1.e2 x_7) fun x_10 => Option.bind (ref02_left (p_1.e1 ^^^ x_10) 11) fun x_13 => Option.bind (ref02_plus x_4 x_13) fun x_16 => Option.bind (ref02_left (x_7 ^^^ x_16) 9) fun x_19 => Option.bind (ref02_plus x_10 x_19) fun x_22 => Option.bind (ref02_left (x_13 ^^^ x_22) 6) fun x_25 => some (A4.mk x_16 x_25 x_22 x_19)

def ref02_Four_l1 (p_1 : List UInt8) (s_8 : UInt32 × UInt32 × UInt32 × UInt32 × Int) : Option ((UInt32 × UInt32 × UInt32 × UInt32 × Int) ⊕ (UInt32 × UInt32 × UInt32 × UInt32)) :=
  cond (decide (s_8.2.2.2.2 ≤ (p_1.length : Int))) (Option.bind (Option.bind (ref02_word p_1 s_8.2.2.2.2) fun x_15 => some (s_8.1 ^^^ x_15)) (fun t_12 => Option.bind (Option.bind (ref02_word p_1 (w64 (s_8.2.2.2.2 + 4))) fun x_24 => some (s_8.2.2.1 ^^^ x_24)) (fun t_21 => Option.bind (ref02_Turn (A4.mk t_12 s_8.2.1 t_21 s_8.2.2.2.1)) fun x_30 => Option.bind (ref02_Turn x_30) fun x_33 => Option.bind (ref02_Turn x_33) fun x_36 => Option.bind (ref02_Turn x_36) fun x_39 => some (.inl (x_39.e0, x_39.e1, x_39.e2, x_39.e3, w64 (s_8.2.2.2.2 + 8)))))) (some (.inr (s_8.1, s_8.2.1, s_8.2.2.1, s_8.2.2.2.1)))

def ref02_Four (p_1 : List UInt8) : Option (A4 UInt32) :=
  Option.bind (loop (ref02_Four_l1 p_1) ((1 : UInt32), (2 : UInt32), (3 : UInt32), (4 : UInt32), 0)) (fun t_5 => Option.bind (ref02_Turn (A4.mk t_5.1 (t_5.2.1 ^^^ (u32i (p_1.length : Int))) t_5.2.2.1 t_5.2.2.2)) fun x_11 => Option.bind (ref02_Turn x_11) fun x_14 => Option.bind (ref02_Turn x_14) fun x_17 => Option.bind (ref02_Turn x_17) fun x_20 => Option.bind (ref02_Turn x_20) fun x_23 => Option.bind (ref02_Turn x_23) fun x_26 => Option.bind (ref02_Turn x_26) fun x_29 => Option.bind (ref02_Turn x_29) fun x_32 => some x_32)

def ref02_Sum (p_1 : List UInt8) : Option UInt32 :=
  Option.bind (ref02_Four p_1) fun x_3 => some x_3.e0

def ref09_Same_l2 (p_1 : Disk) (p_4 : Disk) (s_20 : Int × Nat) : Option ((Int × Nat) ⊕ Int) :=
  cond (decide (((s_20.2 : Nat) : Int) < (p_1.Waits.length : Int))) (idx p_1.Waits ((s_20.2 : Nat) : Int) fun y_24 => idx p_4.Waits ((s_20.2 : Nat) : Int) fun y_36 => cond (!decide (y_24.At = y_36.At)) (some (.inl (w64 (s_20.1 + 1), s_20.2 + 1))) (cond (!decide (y_24.Data = y_36.Data)) (some (.inl (w64 (s_20.1 + 1), s_20.2 + 1))) (some (.inl (s_20.1, s_20.2 + 1))))) (some (.inr s_20.1))

def ref09_Same_l1 (p_1 : Disk) (p_4 : Disk) (s_14 : Int × Nat) : Option ((Int × Nat) ⊕ Int) :=
  cond (decide (((s_14.2 : Nat) : Int) < (p_1.Blocks.length : Int))) (idx p_1.Blocks ((s_14.2 : Nat) : Int) fun y_18 => idx p_4.Blocks ((s_14.2 : Nat) : Int) fun y_29 => cond (!decide (y_18 = y_29)) (some (.inl (w64 (s_14.1 + 1), s_14.2 + 1))) (some (.inl (s_14.1, s_14.2 + 1)))) (some (.inr s_14.1))

def ref09_Same (p_1 : Disk) (p_4 : Disk) : Option Bool :=
  cond (!decide ((p_1.Blocks.length : Int) = (p_4.Blocks.length : Int))) (some false) (cond (!decide ((p_1.Waits.length : Int) = (p_4.Waits.length : Int))) (some false) (Option.bind (loop (ref09_Same_l1 p_1 p_4) (0, 0)) (fun t_11 => Option.bind (loop (ref09_Same_l2 p_1 p_4) (t_11, 0)) (fun t_17 => some (decide (t_17 = 0))))))

def ref13_Same (p_1 : Store) (p_5 : Store) : Option Bool :=
  Option.bind (Option.bind (ref09_Same (Disk.mk p_1.Disk.Blocks p_1.Disk.Waits) (Disk.mk p_5.Disk.Blocks p_5.Disk.Waits)) fun x_14 => cond x_14 (cond (decide (p_1.Space = p_5.Space)) (cond (decide (p_1.Epoch = p_5.Epoch)) (some (decide (p_1.Count = p_5.Count))) (some false)) (some false)) (some false)) (fun t_11 => some t_11)

end Go.Ow

/- plain functions: what the code computes. -/
namespace Go.Ow
set_option linter.unusedVariables false
set_option linter.unusedSimpArgs false

def ref12_All_l1 (p_1 : List UInt8) (s_6 : List Int × Nat) : Option ((List Int × Nat) ⊕ (List Int)) :=
  cond (decide (((s_6.2 : Nat) : Int) < 256)) (idx p_1 ((s_6.2 : Nat) : Int) fun y_11 => cond (decide (y_11 = (0 : UInt8))) (app s_6.1 ([((s_6.2 : Nat) : Int)]) fun q_22 => some (.inl (q_22, s_6.2 + 1))) (some (.inl (s_6.1, s_6.2 + 1)))) (some (.inr s_6.1))

def ref12_All (p_1 : List UInt8) : Option (List Int) :=
  Option.bind (loop (ref12_All_l1 p_1) (([] : List Int), 0)) (fun t_3 => some t_3)

def ref12_With (p_1 : List UInt8) (p_3 : Int) (p_4 : UInt8) : Option (List UInt8) :=
  app ([] : List UInt8) p_1 fun q_6 => chk (0 ≤ p_3 ∧ p_3.toNat < q_6.length) <| setI q_6 p_3 p_4 fun m_14 => some m_14

def ref09_With (p_1 : Disk) (p_4 : Int) (p_5 : List UInt8) : Option Disk :=
  Option.bind (ref09_Twin p_1) fun x_9 => app ([] : List UInt8) p_5 fun q_16 => app x_9.Waits ([Write.mk p_4 q_16]) fun q_22 => some (Disk.mk x_9.Blocks q_22)

def ref13_Put (p_1 : Store) (p_5 : UInt32) (p_6 : UInt32) (p_7 : UInt32) (p_8 : List UInt8) : Option (Store × Ptr × Bool) :=
  Option.bind (ref12_All p_1.Space) fun x_13 => cond (decide ((x_13.length : Int) = 0)) (some (Store.mk (Disk.mk ([] : List (List UInt8)) ([] : List Write)) ([] : List UInt8) (0 : UInt32) (0 : UInt32), Ptr.mk 0 (0 : UInt32) (0 : UInt32) (0 : UInt32) (0 : UInt32), false)) (cond (decide (4096 ≤ (p_1.Disk.Waits.length : Int))) (some (Store.mk (Disk.mk ([] : List (List UInt8)) ([] : List Write)) ([] : List UInt8) (0 : UInt32) (0 : UInt32), Ptr.mk 0 (0 : UInt32) (0 : UInt32) (0 : UInt32) (0 : UInt32), false)) (idx x_13 0 fun y_19 => Option.bind (ref12_With p_1.Space y_19 (1 : UInt8)) fun x_30 => idx x_13 0 fun y_34 => Option.bind (ref09_With (Disk.mk p_1.Disk.Blocks p_1.Disk.Waits) y_34 p_8) fun x_45 => idx x_13 0 fun y_50 => Option.bind (ref02_Sum p_8) fun x_61 => some (Store.mk (Disk.mk x_45.Blocks x_45.Waits) x_30 p_1.Epoch p_1.Count, Ptr.mk y_50 p_5 p_6 p_7 x_61, true)))

def ref13_Raw (p_1 : Store) (p_5 : UInt32) (p_6 : UInt32) (p_7 : UInt32) (p_8 : List UInt8) : Option (Store × Ptr × Int) :=
  Option.bind (ref13_May p_1) fun x_13 => cond (!x_13) (some (Store.mk (Disk.mk ([] : List (List UInt8)) ([] : List Write)) ([] : List UInt8) (0 : UInt32) (0 : UInt32), Ptr.mk 0 (0 : UInt32) (0 : UInt32) (0 : UInt32) (0 : UInt32), 8)) (cond (decide (p_5 < (1 : UInt32))) (some (Store.mk (Disk.mk ([] : List (List UInt8)) ([] : List Write)) ([] : List UInt8) (0 : UInt32) (0 : UInt32), Ptr.mk 0 (0 : UInt32) (0 : UInt32) (0 : UInt32) (0 : UInt32), 2)) (cond (decide ((16777215 : UInt32) < p_5)) (some (Store.mk (Disk.mk ([] : List (List UInt8)) ([] : List Write)) ([] : List UInt8) (0 : UInt32) (0 : UInt32), Ptr.mk 0 (0 : UInt32) (0 : UInt32) (0 : UInt32) (0 : UInt32), 2)) (cond (!decide ((p_8.length : Int) = 256)) (some (Store.mk (Disk.mk ([] : List (List UInt8)) ([] : List Write)) ([] : List UInt8) (0 : UInt32) (0 : UInt32), Ptr.mk 0 (0 : UInt32) (0 : UInt32) (0 : UInt32) (0 : UInt32), 3)) (Option.bind (ref13_Put p_1 p_5 p_6 p_7 p_8) fun x_20 => cond (!x_20.2.2) (some (Store.mk (Disk.mk ([] : List (List UInt8)) ([] : List Write)) ([] : List UInt8) (0 : UInt32) (0 : UInt32), Ptr.mk 0 (0 : UInt32) (0 : UInt32) (0 : UInt32) (0 : UInt32), 9)) (some (x_20.1, x_20.2.1, 0))))))

def ref13_Lay (p_1 : Store) (p_5 : UInt32) (p_6 : List UInt8) : Option (Store × Ptr × Int) :=
  Option.bind (ref13_Raw p_1 p_5 (0 : UInt32) (0 : UInt32) p_6) fun x_11 => some (x_11.1, x_11.2.1, x_11.2.2)

def ref06_asked (p_1 : List UInt8) (p_3 : List UInt8) : Option Int :=
  cond (!decide ((p_1.length : Int) = 16)) (some 2) (cond (decide (256 < (p_3.length : Int))) (some 3) (some 0))

def ref01_Room_b (rec_0 : Int → Option Int) (p_1 : Int) : Option Int :=
  cond (decide (p_1 = 0)) (some 1) (Option.bind (rec_0 (w64 (p_1 - 1))) fun x_3 => some (w64 (256 * x_3)))

def ref01_Room_n : Nat → Int → Option Int
  | 0, _ => none
  | n + 1, p_1 => ref01_Room_b (ref01_Room_n n) p_1

def ref01_Room (p_1 : Int) : Option Int := ref01_Room_n FUEL p_1

def ref01_Bytes_l1 (p_1 : Int) (p_2 : Int) (s_10 : List UInt8 × Int) : Option ((List UInt8 × Int) ⊕ (List UInt8)) :=
  cond (decide (s_10.2 < p_2)) (Option.bind (ref01_Room s_10.2) fun x_15 => chk (x_15 ≠ 0) <| chk (0 ≤ s_10.2 ∧ s_10.2.toNat < s_10.1.length) <| setI s_10.1 s_10.2 (u8i ((w64 (p_1.tdiv x_15)).tmod 256)) fun m_23 => some (.inl (m_23, w64 (s_10.2 + 1)))) (some (.inr s_10.1))

def ref01_Bytes (p_1 : Int) (p_2 : Int) : Option (List UInt8) :=
  mks p_2 (0 : UInt8) fun x_5 => Option.bind (loop (ref01_Bytes_l1 p_1 p_2) (x_5, 0)) (fun t_7 => some t_7)

def ref02_Key_l1 (s_10 : List UInt8 × Nat) (s_20 : UInt32 × Int) : Option ((UInt32 × Int) ⊕ UInt32) :=
  cond (decide (s_20.2 < (((s_10.2 : Nat) : Int).tmod 4))) (some (.inl (s_20.1 / (256 : UInt32), w64 (s_20.2 + 1)))) (some (.inr s_20.1))

def ref02_Key_l2 (x_3 : A4 UInt32) (s_10 : List UInt8 × Nat) : Option ((List UInt8 × Nat) ⊕ (List UInt8)) :=
  cond (decide (((s_10.2 : Nat) : Int) < 16)) (idx x_3.l (w64 (((s_10.2 : Nat) : Int).tdiv 4)) fun y_15 => Option.bind (loop (ref02_Key_l1 s_10) (y_15, 0)) (fun t_17 => app s_10.1 ([(t_17 % (256 : UInt32)).toUInt8]) fun q_24 => some (.inl (q_24, s_10.2 + 1)))) (some (.inr s_10.1))

def ref02_Key (p_1 : List UInt8) : Option (List UInt8) :=
  Option.bind (ref02_Four p_1) fun x_3 => Option.bind (loop (ref02_Key_l2 x_3) (([] : List UInt8), 0)) (fun t_7 => some t_7)

def ref05_Bytes_l1 (p_1 : List UInt8) (p_3 : UInt32) (p_4 : Int) (s_8 : List UInt8 × Int) : Option ((List UInt8 × Int) ⊕ (List UInt8)) :=
  cond (decide ((w64 (16 * s_8.2)) < p_4)) (app ([] : List UInt8) p_1 fun q_14 => Option.bind (ref01_Bytes (p_3.toNat : Int) 4) fun x_18 => app q_14 x_18 fun q_22 => Option.bind (ref01_Bytes s_8.2 4) fun x_26 => app q_22 x_26 fun q_30 => Option.bind (ref02_Key q_30) fun x_37 => app s_8.1 x_37 fun q_42 => some (.inl (q_42, w64 (s_8.2 + 1)))) (some (.inr s_8.1))

def ref05_Bytes (p_1 : List UInt8) (p_3 : UInt32) (p_4 : Int) : Option (List UInt8) :=
  Option.bind (loop (ref05_Bytes_l1 p_1 p_3 p_4) (([] : List UInt8), 0)) (fun t_5 => slc t_5 0 p_4 fun m_14 => some m_14)

def ref05_Turned_l1 (p_4 : List UInt8) (x_6 : List UInt8) (s_13 : List UInt8 × Nat) : Option ((List UInt8 × Nat) ⊕ (List UInt8)) :=
  cond (decide (((s_13.2 : Nat) : Int) < (p_4.length : Int))) (idx p_4 ((s_13.2 : Nat) : Int) fun y_18 => idx x_6 ((s_13.2 : Nat) : Int) fun y_27 => app s_13.1 ([y_18 ^^^ y_27]) fun q_37 => some (.inl (q_37, s_13.2 + 1))) (some (.inr s_13.1))

def ref05_Turned (p_1 : List UInt8) (p_3 : UInt32) (p_4 : List UInt8) : Option (List UInt8) :=
  Option.bind (ref05_Bytes p_1 p_3 (p_4.length : Int)) fun x_6 => Option.bind (loop (ref05_Turned_l1 p_4 x_6) (([] : List UInt8), 0)) (fun t_10 => some t_10)

def ref03_Inner (p_1 : List UInt8) (p_3 : List UInt8) : Option (List UInt8) :=
  app ([] : List UInt8) p_1 fun q_6 => app q_6 ([(1 : UInt8)]) fun q_11 => app q_11 p_3 fun q_15 => Option.bind (ref02_Key q_15) fun x_22 => some x_22

def ref03_Of (p_1 : List UInt8) (p_3 : List UInt8) : Option UInt32 :=
  app ([] : List UInt8) p_1 fun q_6 => app q_6 ([(2 : UInt8)]) fun q_11 => Option.bind (ref03_Inner p_1 p_3) fun x_15 => app q_11 x_15 fun q_19 => Option.bind (ref02_Sum q_19) fun x_26 => some x_26

def ref06_Tag (p_1 : List UInt8) (p_3 : UInt32) (p_4 : List UInt8) : Option UInt32 :=
  Option.bind (ref01_Bytes (p_3.toNat : Int) 4) fun x_6 => app x_6 p_4 fun q_10 => Option.bind (ref03_Of p_1 q_10) fun x_17 => some x_17

def ref06_Seal (p_1 : List UInt8) (p_3 : UInt32) (p_4 : List UInt8) : Option (List UInt8 × UInt32 × Int) :=
  Option.bind (ref06_asked p_1 p_4) fun x_6 => cond (!decide (x_6 = 0)) (some (([] : List UInt8), (0 : UInt32), x_6)) (Option.bind (ref05_Turned p_1 p_3 p_4) fun x_10 => Option.bind (ref06_Tag p_1 p_3 x_10) fun x_17 => some (x_10, x_17, 0))

def ref13_Sealed (p_1 : Store) (p_5 : UInt32) (p_6 : List UInt8) (p_8 : List UInt8) : Option (Store × Ptr × Int) :=
  cond (decide ((65535 : UInt32) ≤ p_1.Count)) (some (Store.mk (Disk.mk ([] : List (List UInt8)) ([] : List Write)) ([] : List UInt8) (0 : UInt32) (0 : UInt32), Ptr.mk 0 (0 : UInt32) (0 : UInt32) (0 : UInt32) (0 : UInt32), 132)) (Option.bind (ref06_Seal p_6 ((p_1.Epoch * (65536 : UInt32)) + (p_1.Count + (1 : UInt32))) p_8) fun x_14 => Option.bind (ref13_Put (Store.mk (Disk.mk p_1.Disk.Blocks p_1.Disk.Waits) p_1.Space p_1.Epoch (p_1.Count + (1 : UInt32))) p_5 ((p_1.Epoch * (65536 : UInt32)) + (p_1.Count + (1 : UInt32))) x_14.2.1 x_14.1) fun x_19 => cond (!x_19.2.2) (some (Store.mk (Disk.mk ([] : List (List UInt8)) ([] : List Write)) ([] : List UInt8) (0 : UInt32) (0 : UInt32), Ptr.mk 0 (0 : UInt32) (0 : UInt32) (0 : UInt32) (0 : UInt32), 9)) (some (x_19.1, x_19.2.1, 0)))

def ref13_Seal (p_1 : Store) (p_5 : UInt32) (p_6 : List UInt8) (p_8 : List UInt8) : Option (Store × Ptr × Int) :=
  Option.bind (ref13_May p_1) fun x_13 => cond (!x_13) (some (Store.mk (Disk.mk ([] : List (List UInt8)) ([] : List Write)) ([] : List UInt8) (0 : UInt32) (0 : UInt32), Ptr.mk 0 (0 : UInt32) (0 : UInt32) (0 : UInt32) (0 : UInt32), 8)) (cond (decide (p_5 < (1 : UInt32))) (some (Store.mk (Disk.mk ([] : List (List UInt8)) ([] : List Write)) ([] : List UInt8) (0 : UInt32) (0 : UInt32), Ptr.mk 0 (0 : UInt32) (0 : UInt32) (0 : UInt32) (0 : UInt32), 2)) (cond (decide ((16777215 : UInt32) < p_5)) (some (Store.mk (Disk.mk ([] : List (List UInt8)) ([] : List Write)) ([] : List UInt8) (0 : UInt32) (0 : UInt32), Ptr.mk 0 (0 : UInt32) (0 : UInt32) (0 : UInt32) (0 : UInt32), 2)) (cond (!decide ((p_6.length : Int) = 16)) (some (Store.mk (Disk.mk ([] : List (List UInt8)) ([] : List Write)) ([] : List UInt8) (0 : UInt32) (0 : UInt32), Ptr.mk 0 (0 : UInt32) (0 : UInt32) (0 : UInt32) (0 : UInt32), 3)) (cond (!decide ((p_8.length : Int) = 256)) (some (Store.mk (Disk.mk ([] : List (List UInt8)) ([] : List Write)) ([] : List UInt8) (0 : UInt32) (0 : UInt32), Ptr.mk 0 (0 : UInt32) (0 : UInt32) (0 : UInt32) (0 : UInt32), 3)) (Option.bind (ref13_Sealed p_1 p_5 p_6 p_8) fun x_21 => some (x_21.1, x_21.2.1, x_21.2.2))))))

def law13_spoil_l3 (p_1 : Store) (s_29 : Nat) : Option (Nat ⊕ Unit) :=
  cond (decide (((s_29 : Nat) : Int) < (p_1.Space.length : Int))) (idx p_1.Space ((s_29 : Nat) : Int) fun y_35 => idx p_1.Space ((s_29 : Nat) : Int) fun y_49 => some (.inl (s_29 + 1))) (some (.inr ()))

def law13_spoil_l2 (p_1 : Store) (s_19 : Nat) : Option (Nat ⊕ Unit) :=
  cond (decide (((s_19 : Nat) : Int) < (p_1.Disk.Waits.length : Int))) (idx p_1.Disk.Waits ((s_19 : Nat) : Int) fun y_25 => cond (decide (0 < (y_25.Data.length : Int))) (idx p_1.Disk.Waits ((s_19 : Nat) : Int) fun y_42 => idx p_1.Disk.Waits ((s_19 : Nat) : Int) fun y_53 => idx y_53.Data 0 fun y_74 => idx y_42.Data 0 fun y_88 => some (.inl (s_19 + 1))) (some (.inl (s_19 + 1)))) (some (.inr ()))

def law13_spoil_l1 (p_1 : Store) (s_9 : Nat) : Option (Nat ⊕ Unit) :=
  cond (decide (((s_9 : Nat) : Int) < (p_1.Disk.Blocks.length : Int))) (idx p_1.Disk.Blocks ((s_9 : Nat) : Int) fun y_15 => cond (decide (0 < (y_15.length : Int))) (idx p_1.Disk.Blocks ((s_9 : Nat) : Int) fun y_32 => idx p_1.Disk.Blocks ((s_9 : Nat) : Int) fun y_43 => idx y_43 0 fun y_64 => idx y_32 0 fun y_78 => some (.inl (s_9 + 1))) (some (.inl (s_9 + 1)))) (some (.inr ()))

def law13_spoil (p_1 : Store) : Option Unit :=
  Option.bind (loop (law13_spoil_l1 p_1) 0) (fun t_6 => Option.bind (loop (law13_spoil_l2 p_1) 0) (fun t_16 => Option.bind (loop (law13_spoil_l3 p_1) 0) (fun t_26 => some ())))

def law13_StoreWrites (p_1 : Store) (p_5 : UInt32) (p_6 : List UInt8) (p_8 : List UInt8) (p_10 : UInt32) (p_11 : UInt32) : Option Bool :=
  Option.bind (ref13_Great p_1) fun x_13 => cond x_13 (some true) (cond (decide (10000 < (p_6.length : Int))) (some true) (cond (decide (10000 < (p_8.length : Int))) (some true) (Option.bind (ref13_Twin p_1) fun x_19 => app ([] : List UInt8) p_8 fun q_27 => app ([] : List UInt8) p_6 fun q_32 => Option.bind (store_Lay x_19 p_5 q_27) fun x_53 => Option.bind (ref13_Lay p_1 p_5 p_8) fun x_61 => Option.bind (store_Seal x_19 p_5 q_32 q_27) fun x_69 => Option.bind (ref13_Seal p_1 p_5 p_6 p_8) fun x_77 => Option.bind (store_Raw x_19 p_5 p_10 p_11 q_27) fun x_85 => Option.bind (ref13_Raw p_1 p_5 p_10 p_11 p_8) fun x_93 => Option.bind (ref13_Same x_53.1 x_61.1) fun x_104 => cond (!x_104) (some false) (cond (!(decide (x_53.2.1.At = x_61.2.1.At) && (decide (x_53.2.1.Birth = x_61.2.1.Birth) && (decide (x_53.2.1.Iv = x_61.2.1.Iv) && (decide (x_53.2.1.Tag = x_61.2.1.Tag) && (decide (x_53.2.1.Sum = x_61.2.1.Sum) && true)))))) (some false) (cond (!decide (x_53.2.2 = x_61.2.2)) (some false) (Option.bind (ref13_Same x_69.1 x_77.1) fun x_112 => cond (!x_112) (some false) (cond (!(decide (x_69.2.1.At = x_77.2.1.At) && (decide (x_69.2.1.Birth = x_77.2.1.Birth) && (decide (x_69.2.1.Iv = x_77.2.1.Iv) && (decide (x_69.2.1.Tag = x_77.2.1.Tag) && (decide (x_69.2.1.Sum = x_77.2.1.Sum) && true)))))) (some false) (cond (!decide (x_69.2.2 = x_77.2.2)) (some false) (Option.bind (ref13_Same x_85.1 x_93.1) fun x_120 => cond (!x_120) (some false) (cond (!(decide (x_85.2.1.At = x_93.2.1.At) && (decide (x_85.2.1.Birth = x_93.2.1.Birth) && (decide (x_85.2.1.Iv = x_93.2.1.Iv) && (decide (x_85.2.1.Tag = x_93.2.1.Tag) && (decide (x_85.2.1.Sum = x_93.2.1.Sum) && true)))))) (some false) (cond (!decide (x_85.2.2 = x_93.2.2)) (some false) (Option.bind (law13_spoil x_53.1) fun x_141 => Option.bind (law13_spoil x_69.1) fun x_145 => Option.bind (law13_spoil x_85.1) fun x_149 => Option.bind (Option.bind (ref13_Same x_19 p_1) fun x_156 => cond x_156 (cond (decide (q_27 = p_8)) (some (decide (q_32 = p_6))) (some false)) (some false)) (fun t_153 => some t_153)))))))))))))
end Go.Ow

/-
  What is proved here: loops over the elements of a list, told by recursion over the list: plain lists alone.
-/
namespace Go.Ow
set_option linter.unusedVariables false
set_option linter.unusedSimpArgs false
variable {α σ ρ τ : Type}

/-- how a loop that goes on behind the element ends -/
def goesOn (st : ρ → σ) : ρ ⊕ τ → Option (σ ⊕ τ)
  | .inl r => some (.inl (st r))
  | .inr t => some (.inr t)
def ends (fin : ρ → τ) : ρ ⊕ τ → Option τ
  | .inl r => some (fin r)
  | .inr t => some t
/-- a loop over the elements of a list: what is carried is told by a recursion over the list -/
theorem loop_each (l : List α) (st : Nat → ρ → σ) {body : σ → Option (σ ⊕ τ)} (f : α → ρ → Option (ρ ⊕ τ)) (fin : ρ → τ) (I : Nat → ρ → Prop)
    (step : ∀ i (h : i < l.length) r, I i r → body (st i r) = Option.bind (f l[i] r) (goesOn (st (i + 1)))) (inv : ∀ i (h : i < l.length) r r', I i r → f l[i] r = some (.inl r') → I (i + 1) r')
    (stop : ∀ r, I l.length r → body (st l.length r) = some (.inr (fin r))) (hl : l.length < FUEL) {r0 : ρ} (h0 : I 0 r0) :
    loop body (st 0 r0) = Option.bind (forL f l r0) (ends fin) := by
  have key : ∀ (k i : Nat) (r : ρ) (n : Nat), i + k = l.length → k < n → I i r → run body n (st i r) = Option.bind (forL f (l.drop i) r) (ends fin) := by
    intro k
    induction k with
    | zero =>
      intro i r n hi hn hI
      obtain rfl : i = l.length := by omega
      obtain ⟨n, rfl⟩ : ∃ m, n = m + 1 := ⟨n - 1, by omega⟩
      show Option.bind (body (st l.length r)) _ = _
      rw [stop r hI, List.drop_length]; rfl
    | succ k ih =>
      intro i r n hi hn hI
      have hlt : i < l.length := by omega
      obtain ⟨n, rfl⟩ : ∃ m, n = m + 1 := ⟨n - 1, by omega⟩
      show Option.bind (body (st i r)) _ = _
      rw [step i hlt r hI, List.drop_eq_getElem_cons hlt]
      show _ = Option.bind (Option.bind (f l[i] r) _) _
      cases hf : f l[i] r with
      | none => rfl
      | some o =>
        cases o with
        | inl r' => exact ih (i + 1) r' n (by omega) (by omega) (inv i hlt r r' hI hf)
        | inr t => rfl
  have := key l.length 0 r0 FUEL (by omega) hl h0
  simpa [loop] using this
/-- the same, where nothing is known of what is carried -/
theorem loop_each' (l : List α) (st : Nat → ρ → σ) {body : σ → Option (σ ⊕ τ)} (f : α → ρ → Option (ρ ⊕ τ)) (fin : ρ → τ)
    (step : ∀ i (h : i < l.length) r, body (st i r) = Option.bind (f l[i] r) (goesOn (st (i + 1)))) (stop : ∀ r, body (st l.length r) = some (.inr (fin r))) (hl : l.length < FUEL) (r0 : ρ) :
    loop body (st 0 r0) = Option.bind (forL f l r0) (ends fin) :=
  loop_each l st f fin (fun _ _ => True) (fun i h r _ => step i h r) (fun _ _ _ _ _ _ => trivial) (fun r _ => stop r) hl trivial
theorem forL_map (g : ρ → α → ρ) : ∀ (l : List α) (r : ρ), forL (fun y r => some (.inl (g r y) : ρ ⊕ τ)) l r = some (.inl (l.foldl g r))
  | [], r => rfl
  | y :: l, r => by rw [forL_cons (s' := g r y) rfl, forL_map g l]; rfl
theorem lt_fuel {n m : Nat} (h : n ≤ m) (hm : Nat.blt m FUEL = true) : n < FUEL := Nat.lt_of_le_of_lt h (by simpa using hm)
theorem cI {n m : Nat} {β : Type} {a b : β} : (bif decide ((n : Int) < (m : Int)) then a else b) = if n < m then a else b := by
  by_cases h : n < m
  · rw [if_pos h, decide_eq_true (by omega)]; rfl
  · rw [if_neg h, decide_eq_false (by omega)]; rfl
end Go.Ow

/-
  What is proved here: the disk in plain words: what may be, a twin, a write, what is seen.
-/
namespace Go.Ow
set_option linter.unusedVariables false
set_option linter.unusedSimpArgs false

def okW (w : Write) : Bool := decide (0 ≤ w.At ∧ w.At < 256) && decide (w.Data.length = 256)
def OKD (d : Disk) : Prop := d.Blocks.length = 256 ∧ d.Waits.length ≤ 4096 ∧ (∀ b ∈ d.Blocks, b.length = 256) ∧ ∀ w ∈ d.Waits, okW w = true
instance (d : Disk) : Decidable (OKD d) := by unfold OKD; infer_instance
/-- no disk is larger than the machine's numbers -/
structure Sized (d : Disk) : Prop where
  blocks : d.Blocks.length ≤ 9223372036854775807
  waits : d.Waits.length ≤ 9223372036854775807
  at' : ∀ w ∈ d.Waits, InI64 w.At

theorem dev_place_eq {n : Int} (h : InI64 n) : dev_place n = some (decide (0 ≤ n ∧ n < 256)) := by
  unfold dev_place u64i
  congr 1
  apply decide_eq_decide.2
  rw [UInt64.lt_iff_toNat_lt, UInt64.toNat_ofNat']
  obtain ⟨h1, h2⟩ := h
  show _ % 18446744073709551616 < (256 : UInt64).toNat ↔ _
  rw [show (256 : UInt64).toNat = 256 from rfl]
  omega
theorem small_lt {n : Nat} (h : n ≤ 9223372036854775807) : n < FUEL := Nat.lt_of_le_of_lt h (by decide)

theorem check_l1 (d : Disk) (ok : Bool) (h : d.Blocks.length ≤ 9223372036854775807) : loop (dev_Check_l1 d) (ok, 0) = some (ok && d.Blocks.all fun b => decide (b.length = 256)) := by
  rw [loop_each' d.Blocks (fun i (r : Bool) => (r, i)) (fun b r => some (.inl (r && decide (b.length = 256)))) (fun r => r) (fun i hi r => ?_) (fun r => ?_) (small_lt h) ok, forL_map]
  · show some _ = some _
    congr 1
    generalize d.Blocks = l
    induction l generalizing ok with
    | nil => simp
    | cons b l ih => simp only [List.foldl_cons, ih, List.all_cons, Bool.and_assoc]
  · unfold dev_Check_l1
    rw [cI, if_pos hi, Zs _ hi]
    cases r
    · rfl
    · simp only [cond_true, Option.bind_some, goesOn, Bool.true_and]
      rw [show decide ((d.Blocks[i].length : Int) = 256) = decide (d.Blocks[i].length = 256) from decide_eq_decide.2 (by omega)]
  · unfold dev_Check_l1
    rw [cI, if_neg (by omega)]
theorem check_l2 (d : Disk) (ok : Bool) (h : Sized d) : loop (dev_Check_l2 d) (ok, 0) = some (ok && d.Waits.all okW) := by
  rw [loop_each' d.Waits (fun i (r : Bool) => (r, i)) (fun w r => some (.inl (r && (okW w)))) (fun r => r) (fun i hi r => ?_) (fun r => ?_) (small_lt h.waits) ok, forL_map]
  · show some _ = some _
    congr 1
    generalize d.Waits = l
    induction l generalizing ok with
    | nil => simp
    | cons b l ih => simp only [List.foldl_cons, ih, List.all_cons, Bool.and_assoc]
  · unfold dev_Check_l2
    rw [cI, if_pos hi, Zs _ hi]
    cases r
    · rfl
    · simp only [cond_true, Option.bind_some, goesOn, Bool.true_and]
      rw [dev_place_eq (h.at' _ (List.getElem_mem hi))]
      unfold okW
      by_cases c : 0 ≤ d.Waits[i].At ∧ d.Waits[i].At < 256
      · rw [decide_eq_true c]
        simp only [Option.bind_some, cond_true, Bool.true_and]
        rw [show decide ((d.Waits[i].Data.length : Int) = 256) = decide (d.Waits[i].Data.length = 256) from decide_eq_decide.2 (by omega)]
      · rw [decide_eq_false c]
        rfl
  · unfold dev_Check_l2
    rw [cI, if_neg (by omega)]
theorem dev_Check_eq {d : Disk} (h : Sized d) : dev_Check d = some (if OKD d then 0 else 8) := by
  unfold dev_Check
  rw [show (bif decide ((d.Blocks.length : Int) = 256) then some (decide ((d.Waits.length : Int) ≤ 4096)) else some false) = some (decide (d.Blocks.length = 256) && decide (d.Waits.length ≤ 4096)) from by
    by_cases c : d.Blocks.length = 256
    · rw [decide_eq_true (show (d.Blocks.length : Int) = 256 by omega), decide_eq_true c]
      simp only [cond_true, Bool.true_and]
      congr 1
      simp only [decide_eq_decide]; omega
    · rw [decide_eq_false (show ¬ (d.Blocks.length : Int) = 256 by omega), decide_eq_false c]; rfl]
  simp only [Option.bind_some]
  rw [check_l1 d _ h.blocks]
  simp only [Option.bind_some]
  rw [check_l2 d _ h]
  simp only [Option.bind_some]
  by_cases c : OKD d
  · rw [if_pos c]
    obtain ⟨c1, c2, c3, c4⟩ := c
    rw [show (decide (d.Blocks.length = 256) && decide (d.Waits.length ≤ 4096) && (d.Blocks.all fun b => decide (b.length = 256)) && d.Waits.all okW) = true from by
      simp only [Bool.and_eq_true, decide_eq_true_eq, List.all_eq_true]; exact ⟨⟨⟨c1, c2⟩, c3⟩, c4⟩]
    rfl
  · rw [if_neg c]
    rw [show (decide (d.Blocks.length = 256) && decide (d.Waits.length ≤ 4096) && (d.Blocks.all fun b => decide (b.length = 256)) && d.Waits.all okW) = false from by
      rw [Bool.eq_false_iff]; intro e
      simp only [Bool.and_eq_true, decide_eq_true_eq, List.all_eq_true] at e
      exact c ⟨e.1.1.1, e.1.1.2, e.1.2, e.2⟩]
    rfl

/-! ### A twin -/
structure Mid (d : Disk) : Prop where
  blocks : d.Blocks.length ≤ 1000
  waits : d.Waits.length ≤ 5000
  eb : ∀ b ∈ d.Blocks, b.length ≤ 1000
  ew : ∀ w ∈ d.Waits, w.Data.length ≤ 1000
theorem OKD.mid {d : Disk} (h : OKD d) : Mid d := ⟨by rw [h.1]; omega, by have := h.2.1; omega, fun b hb => by rw [h.2.2.1 b hb]; omega, fun w hw => by
  have := h.2.2.2 w hw
  simp only [okW, Bool.and_eq_true, decide_eq_true_eq] at this
  omega⟩
theorem OKD.sized {d : Disk} (h : OKD d) : Sized d := ⟨by rw [h.1]; omega, by have := h.2.1; omega, fun w hw => by
  have := h.2.2.2 w hw
  simp only [okW, Bool.and_eq_true, decide_eq_true_eq] at this
  exact ⟨by omega, by omega⟩⟩
theorem sum_le_mul {l : List Nat} {k : Nat} (h : ∀ x ∈ l, x ≤ k) : l.sum ≤ l.length * k := by
  induction l with
  | nil => simp
  | cons x l ih =>
    have := h x (by simp); have := ih (fun y hy => h y (by simp [hy]))
    simp only [List.sum_cons, List.length_cons, Nat.add_mul, Nat.one_mul]; omega
theorem twin_l1 (d : Disk) (h : d.Blocks.length ≤ 1000) : loop (dev_Twin_l1 d) (([] : List Int), 0) = some (d.Blocks.map fun b => (b.length : Int)) := by
  rw [loop_each d.Blocks (fun i (r : List Int) => (r, i)) (fun b r => some (.inl (r ++ [(b.length : Int)]))) (fun r => r) (fun i r => r.length = i) (fun i hi r hr => ?_) (fun i hi r r' hr e => ?_) (fun r _ => ?_) (small_lt (by omega)) rfl, forL_map]
  · show some _ = some _
    congr 1
    suffices H : ∀ (l : List (List UInt8)) (a : List Int), l.foldl (fun r b => r ++ [(b.length : Int)]) a = a ++ l.map fun b => (b.length : Int) by simpa using H d.Blocks []
    intro l
    induction l with
    | nil => simp
    | cons b l ih => intro a; simp [ih]
  · unfold dev_Twin_l1
    rw [cI, if_pos hi, Zs _ hi, app_eq (by simp only [List.length_cons, List.length_nil, LIM]; omega)]
    rfl
  · simp only [Option.some.injEq, Sum.inl.injEq] at e; subst e; simp [hr]
  · unfold dev_Twin_l1
    rw [cI, if_neg (by omega)]
theorem dev_cut_eq (bs : List (List UInt8)) (h : bs.length ≤ 1000) (hb : ∀ b ∈ bs, b.length ≤ 1000) : dev_cut (bs.map fun b => (b.length : Int)) = some (bs.map fun b => List.replicate b.length 0) := by
  unfold dev_cut
  have e1 : (bs.map fun b => (b.length : Int)).map Int.toNat = bs.map List.length := by rw [List.map_map]; rfl
  have e2 := sum_le_mul (l := bs.map List.length) (k := 1000) (fun x hx => by obtain ⟨b, h1, rfl⟩ := List.mem_map.1 hx; exact hb b h1)
  rw [List.length_map] at e2
  rw [if_pos ⟨fun n hn => by obtain ⟨b, _, rfl⟩ := List.mem_map.1 hn; omega, by rw [e1]; simp only [LIM]; omega, by simp only [List.length_map, LIM]; omega⟩, List.map_map]
  rfl
theorem twin_l2 (d : Disk) (h : d.Blocks.length ≤ 1000) : loop (dev_Twin_l2 d) (d.Blocks.map (fun b => List.replicate b.length (0 : UInt8)), 0) = some d.Blocks := by
  obtain ⟨t, h1, h2⟩ := loop_rule (body := dev_Twin_l2 d) (fun s => s.2 ≤ d.Blocks.length ∧ s.1 = d.Blocks.take s.2 ++ (d.Blocks.drop s.2).map (fun b => List.replicate b.length (0 : UInt8))) (fun s => d.Blocks.length - s.2) (fun t => t = d.Blocks) (by
    rintro ⟨r, i⟩ ⟨hi, hr⟩
    simp only at hi hr
    subst hr
    unfold dev_Twin_l2
    dsimp only
    rw [cI]
    rcases Nat.lt_or_ge i d.Blocks.length with hlt | hge
    · left
      have hl : (d.Blocks.take i ++ (d.Blocks.drop i).map (fun b => List.replicate b.length (0 : UInt8))).length = d.Blocks.length := by simp; omega
      have hg : (d.Blocks.take i ++ (d.Blocks.drop i).map (fun b => List.replicate b.length (0 : UInt8)))[i]'(by omega) = List.replicate d.Blocks[i].length 0 := by
        rw [List.getElem_append_right (by simp; omega)]
        simp [Nat.min_eq_left (Nat.le_of_lt hlt)]
      rw [if_pos hlt, Zs _ hlt, Zs _ (by omega), chk_eq (by rw [hg]; simp), setI_eq (by omega) (by simpa using (by omega : i < (d.Blocks.take i ++ (d.Blocks.drop i).map (fun b => List.replicate b.length (0 : UInt8))).length))]
      refine ⟨_, rfl, ⟨hlt, ?_⟩, by simp only; omega⟩
      simp only [Int.toNat_natCast]
      rw [List.set_append_right _ _ (by simp only [List.length_take]; omega), List.drop_eq_getElem_cons hlt]
      simp only [List.map_cons, List.length_take, Nat.min_eq_left (Nat.le_of_lt hlt), Nat.sub_self, List.set_cons_zero]
      rw [List.take_add_one, List.getElem?_eq_getElem hlt]
      simp only [Option.toList_some, List.append_assoc, List.singleton_append]
    · right
      rw [if_neg (by omega)]
      refine ⟨_, rfl, ?_⟩
      rw [List.take_of_length_le hge, List.drop_of_length_le hge]; simp) (s := (d.Blocks.map (fun b => List.replicate b.length (0 : UInt8)), 0)) ⟨Nat.zero_le _, by simp⟩ (small_lt (by simp only; omega))
  rw [h1, h2]
theorem bytes_Clone_eq {l : List UInt8} (h : l.length ≤ 1000) : bytes_Clone l = some l := by
  unfold bytes_Clone; rw [app_eq (by simp only [List.length_nil, LIM]; omega)]; rfl
theorem twin_l3 (d : Disk) (h : d.Waits.length ≤ 5000) (hw : ∀ w ∈ d.Waits, w.Data.length ≤ 1000) : loop (dev_Twin_l3 d) (([] : List Write), 0) = some d.Waits := by
  rw [loop_each d.Waits (fun i (r : List Write) => (r, i)) (fun b r => some (.inl (r ++ [b]))) (fun r => r) (fun i r => r.length = i) (fun i hi r hr => ?_) (fun i hi r r' hr e => ?_) (fun r _ => ?_) (small_lt (by omega)) rfl, forL_map]
  · show some _ = some _
    congr 1
    suffices H : ∀ (l : List Write) (a : List Write), l.foldl (fun r b => r ++ [b]) a = a ++ l by simpa using H d.Waits []
    intro l
    induction l with
    | nil => simp
    | cons b l ih => intro a; simp [ih]
  · unfold dev_Twin_l3
    rw [cI, if_pos hi, Zs _ hi, bytes_Clone_eq (hw _ (List.getElem_mem hi))]
    simp only [Option.bind_some]
    rw [app_eq (by simp only [List.length_cons, List.length_nil, LIM]; omega)]
    rfl
  · simp only [Option.some.injEq, Sum.inl.injEq] at e; subst e; simp [hr]
  · unfold dev_Twin_l3
    rw [cI, if_neg (by omega)]
theorem dev_Twin_eq {d : Disk} (h : Mid d) : dev_Twin d = some d := by
  unfold dev_Twin
  rw [twin_l1 d h.blocks]
  simp only [Option.bind_some]
  rw [dev_cut_eq _ h.blocks h.eb]
  simp only [Option.bind_some]
  rw [twin_l2 d h.blocks]
  simp only [Option.bind_some]
  rw [twin_l3 d h.waits h.ew]
  rfl
end Go.Ow

/-
  What is proved here: what is written, what is seen, what a crash leaves: the disk in plain words.
-/
namespace Go.Ow
set_option linter.unusedVariables false
set_option linter.unusedSimpArgs false

def noD : Disk := ⟨[], []⟩
theorem inI64_of {n : Int} (h : 0 ≤ n ∧ n < 256) : InI64 n := ⟨by omega, by omega⟩
theorem slices_Clip_Write_eq (l : List Write) : slices_Clip_Write l = some l := by
  unfold slices_Clip_Write
  rw [slc_eq (by omega) (by omega) (by omega)]
  simp [cut]
theorem guarded_eq {d : Disk} (h : Sized d) (is : Bool) (e : Disk) : dev_guarded d is e = some (if OKD d then (if is = true then (e, 0, e) else (noD, 2, e)) else (noD, 8, e)) := by
  unfold dev_guarded
  rw [dev_Check_eq h]
  simp only [Option.bind_some]
  by_cases c : OKD d
  · rw [if_pos c, if_pos c]
    cases is <;> rfl
  · rw [if_neg c, if_neg c]; rfl
def writeD (d : Disk) (at' : Int) (b : List UInt8) : Disk × Int :=
  if OKD d then (if 0 ≤ at' ∧ at' < 256 then (if b.length = 256 then (if d.Waits.length = 4096 then (noD, 9) else (⟨d.Blocks, d.Waits ++ [⟨at', b⟩]⟩, 0)) else (noD, 3)) else (noD, 2)) else (noD, 8)
theorem dev_Write_eq {d : Disk} (h : Sized d) {at' : Int} (ha : InI64 at') (b : List UInt8) : dev_Write d at' b = some (writeD d at' b) := by
  unfold dev_Write writeD
  rw [dev_place_eq ha]
  simp only [Option.bind_some]
  rw [guarded_eq h]
  simp only [Option.bind_some]
  by_cases c : OKD d
  · rw [if_pos c, if_pos c]
    by_cases c1 : 0 ≤ at' ∧ at' < 256
    · rw [decide_eq_true c1, if_pos rfl, if_pos c1]
      by_cases c2 : b.length = 256
      · rw [if_pos c2]
        dsimp only
        rw [show decide ((b.length : Int) = 256) = true from decide_eq_true (by omega)]
        by_cases c3 : d.Waits.length = 4096
        · rw [if_pos c3]
          rw [show decide ((d.Waits.length : Int) = 4096) = true from decide_eq_true (by omega)]
          rfl
        · rw [if_neg c3]
          rw [show decide ((d.Waits.length : Int) = 4096) = false from decide_eq_false (by omega), slices_Clip_Write_eq]
          have hm := c.mid
          have hw := c.2.1
          simp only [decide_true, Bool.not_true, cond_false, Option.bind_some]
          rw [app_eq (by simp only [List.length_cons, List.length_nil, LIM]; omega), dev_Twin_eq (d := Disk.mk d.Blocks (d.Waits ++ [Write.mk at' b])) ⟨hm.blocks, by simp only [List.length_append, List.length_cons, List.length_nil]; omega, hm.eb, fun w hw' => by
            rcases List.mem_append.1 hw' with h' | h'
            · exact hm.ew w h'
            · simp at h'; subst h'; simp only; omega⟩]
          rfl
      · rw [if_neg c2]
        dsimp only
        rw [show decide ((b.length : Int) = 256) = false from decide_eq_false (by omega)]
        rfl
    · rw [decide_eq_false c1, if_neg (by simp), if_neg c1]
      rfl
  · rw [if_neg c, if_neg c]; rfl
theorem OKD.write {d : Disk} (h : OKD d) {at' : Int} {b : List UInt8} (ha : 0 ≤ at' ∧ at' < 256) (hb : b.length = 256) (hw : d.Waits.length ≠ 4096) : OKD ⟨d.Blocks, d.Waits ++ [⟨at', b⟩]⟩ := by
  obtain ⟨h1, h2, h3, h4⟩ := h
  refine ⟨h1, by simp only [List.length_append, List.length_cons, List.length_nil]; omega, h3, fun w hw' => ?_⟩
  rcases List.mem_append.1 hw' with h' | h'
  · exact h4 w h'
  · simp at h'; subst h'; simp [okW, ha, hb]

/-! ### What is left of the writes -/
def layW (B : List (List UInt8)) (ws : List Write) : List (List UInt8) := ws.foldl (fun B w => B.set w.At.toNat w.Data) B
def KeysOk (M : List (Int × Write)) : Prop := (M.map (·.1)).Nodup ∧ ∀ p ∈ M, 0 ≤ p.1
theorem mem_putM {M : List (Int × Write)} {k : Int} {y : Write} {p : Int × Write} (h : p ∈ putM M k y) : p ∈ M ∨ p = (k, y) := by
  induction M with
  | nil => simp [putM] at h; exact .inr h
  | cons q r ih =>
    simp only [putM] at h
    split at h
    · rcases List.mem_cons.1 h with h' | h'
      · exact .inr h'
      · exact .inl (by simp [h'])
    · rcases List.mem_cons.1 h with h' | h'
      · exact .inl (by simp [h'])
      · exact (ih h').imp (fun z => by simp [z]) id
theorem keys_putM {M : List (Int × Write)} {k : Int} {y : Write} (h : (M.map (·.1)).Nodup) : ((putM M k y).map (·.1)).Nodup := by
  induction M with
  | nil => simp [putM]
  | cons q r ih =>
    simp only [List.map_cons, List.nodup_cons] at h
    simp only [putM]
    split
    · rename_i e
      simp only [List.map_cons, List.nodup_cons]; rw [← e]; exact h
    · rename_i e
      simp only [List.map_cons, List.nodup_cons]
      refine ⟨fun hm => ?_, ih h.2⟩
      obtain ⟨p, hp, hpe⟩ := List.mem_map.1 hm
      rcases mem_putM hp with h' | h'
      · exact h.1 (List.mem_map.2 ⟨p, h', hpe⟩)
      · subst h'; exact e hpe.symm
theorem KeysOk.put {M : List (Int × Write)} {k : Int} {y : Write} (h : KeysOk M) (hk : 0 ≤ k) : KeysOk (putM M k y) :=
  ⟨keys_putM h.1, fun p hp => (mem_putM hp).elim (h.2 p) (fun e => by subst e; exact hk)⟩
theorem layW_length (B : List (List UInt8)) (ws : List Write) : (layW B ws).length = B.length := by
  unfold layW
  induction ws generalizing B with
  | nil => rfl
  | cons w ws ih => simp only [List.foldl_cons, ih, List.length_set]
/-- the blocks as the writes leave them -/
def seenB (d : Disk) : List (List UInt8) := layW d.Blocks d.Waits
theorem seenB_length {d : Disk} (h : OKD d) : (seenB d).length = 256 := by unfold seenB; rw [layW_length]; exact h.1
end Go.Ow

/-
  What is proved here: numbers as bytes and back; a sum is always told; pointers as bytes: in plain words.
-/
namespace Go.Ow
set_option linter.unusedVariables false
set_option linter.unusedSimpArgs false

/-- a number's bytes, the lowest first -/
def leB (n : Nat) : Nat → List UInt8
  | 0 => []
  | k + 1 => UInt8.ofNat n :: leB (n / 256) k
theorem Zr (n k : Nat) : (leB n k).length = k := by
  induction k generalizing n with
  | zero => rfl
  | succ k ih => simp [leB, ih]
def numB : List UInt8 → Nat
  | [] => 0
  | b :: r => b.toNat + 256 * numB r
theorem numB_leB {n k : Nat} (h : n < 256 ^ k) : numB (leB n k) = n := by
  induction k generalizing n with
  | zero => simp at h; subst h; rfl
  | succ k ih =>
    simp only [leB, numB]
    rw [ih (by rw [Nat.pow_succ] at h; omega), UInt8.toNat_ofNat']
    omega
theorem u8i_nat (n : Nat) : u8i (n : Int) = UInt8.ofNat n := by
  unfold u8i
  apply UInt8.toNat_inj.1
  rw [UInt8.toNat_ofNat', UInt8.toNat_ofNat']
  omega
theorem sized_eq (k : Int) : code_sized k = some (decide (0 < k ∧ k ≤ 4)) := by
  unfold code_sized
  by_cases h : 0 < k
  · rw [decide_eq_true h]
    simp only [cond_true, Option.bind_some]
    congr 1; simp only [decide_eq_decide]; omega
  · rw [decide_eq_false h]
    simp only [cond_false, Option.bind_some]
    congr 1; rw [decide_eq_false (fun e => h e.1)]
theorem put_loop {n k : Nat} (hk : k ≤ 4) (hn : n < 4294967296) : loop (code_Put_l1 (k : Int)) ((n : Int), ([] : List UInt8)) = some (leB n k) := by
  obtain ⟨t, h1, h2⟩ := loop_rule (body := code_Put_l1 (k : Int)) (fun s => ∃ m : Nat, s.1 = (m : Int) ∧ m < 4294967296 ∧ s.2.length ≤ k ∧ s.2 ++ leB m (k - s.2.length) = leB n k) (fun s => k - s.2.length) (fun t => t = leB n k) (by
    rintro ⟨a, b⟩ ⟨m, h1, h0, h2, h3⟩
    simp only at h1 h2 h3
    subst h1
    unfold code_Put_l1
    dsimp only
    rw [cI]
    rcases Nat.lt_or_ge b.length k with c | c
    · left
      rw [if_pos c, app_eq (by simp only [List.length_cons, List.length_nil, LIM]; omega)]
      refine ⟨_, rfl, ⟨m / 256, ?_, by omega, by simp; omega, ?_⟩, by simp; omega⟩
      · simp only
        rw [Int.tdiv_eq_ediv_of_nonneg (by omega), YE (by omega) (by omega)]; omega
      · simp only
        rw [← h3, show k - b.length = (k - (b ++ [u8i (m : Int)]).length) + 1 by simp; omega]
        simp only [leB, u8i_nat, List.append_assoc, List.singleton_append]
    · right
      rw [if_neg (by omega)]
      refine ⟨_, rfl, ?_⟩
      rw [show k - b.length = 0 by omega] at h3
      simpa [leB] using h3) (s := ((n : Int), ([] : List UInt8))) ⟨n, rfl, hn, by simp, by simp⟩ (Nat.lt_of_le_of_lt (Nat.sub_le _ _) (small_lt (by omega)))
  rw [h1, h2]
theorem pow256 {k : Nat} (h1 : 1 ≤ k) (h4 : k ≤ 4) : sli 1 (w64 (8 * (k : Int))) = ((256 ^ k : Nat) : Int) ∧ 256 ^ k ≤ 4294967296 := by
  have : k = 1 ∨ k = 2 ∨ k = 3 ∨ k = 4 := by omega
  rcases this with rfl | rfl | rfl | rfl <;> decide
theorem code_Put_eq {n k : Nat} (h1 : 1 ≤ k) (h4 : k ≤ 4) (hn : n < 256 ^ k) : code_Put (n : Int) (k : Int) = some (leB n k, 0) := by
  unfold code_Put
  rw [sized_eq]
  simp only [Option.bind_some]
  obtain ⟨h5, h6⟩ := pow256 h1 h4
  rw [decide_eq_true (show 0 < (k : Int) ∧ (k : Int) ≤ 4 by omega), decide_eq_false (show ¬ (n : Int) < 0 by omega), chk_eq (by rw [YE (by omega) (by omega)]; omega), h5,
    decide_eq_false (show ¬ ((256 ^ k : Nat) : Int) ≤ (n : Int) by omega)]
  simp only [Bool.not_true, cond_false]
  rw [put_loop h4 (by omega)]
  rfl

theorem numB_snoc (p : List UInt8) (c : UInt8) : numB (p ++ [c]) = numB p + 256 ^ p.length * c.toNat := by
  induction p with
  | nil => simp [numB]
  | cons b p ih => simp only [List.cons_append, numB, ih, List.length_cons, Nat.pow_succ]; rw [Nat.mul_add, ← Nat.mul_assoc, Nat.mul_comm 256 (256 ^ p.length)]; omega
theorem bwd_length' (m : List UInt8) (k : Nat) : (bwd m k).length = k := by induction k with | zero => rfl | succ k ih => simp [bwd, ih]
theorem bwd_fold (m : List UInt8) : ∀ (k a : Nat), k ≤ m.length → (bwd m k).foldl (fun n y => 256 * n + y.2.toNat) a = numB (m.take k) + 256 ^ k * a := by
  intro k
  induction k with
  | zero => intro a _; simp [bwd, numB]
  | succ k ih =>
    intro a hk
    simp only [bwd, List.foldl_cons]
    rw [ih _ (by omega), List.take_succ_eq_append_getElem (by omega), numB_snoc, List.length_take, Nat.min_eq_left (by omega), List.getD_eq_getElem?_getD, List.getElem?_eq_getElem (by omega), Option.getD_some, Nat.pow_succ, Nat.mul_add, ← Nat.mul_assoc]
    omega
theorem get_loop : ∀ (l : List (Nat × UInt8)) (a j : Nat), a < 256 ^ j → j + l.length ≤ 4 → forL code_Get_r1 l (a : Int) = some (.inl ((l.foldl (fun n y => 256 * n + y.2.toNat) a : Nat) : Int))
  | [], a, j, _, _ => rfl
  | y :: l, a, j, ha, hj => by
    have hy := y.2.toNat_lt
    have hp : (256 : Nat) ^ (j + 1) ≤ 256 ^ 4 := Nat.pow_le_pow_right (by omega) (by simp at hj; omega)
    have h2 : 256 * a + y.2.toNat < 256 ^ (j + 1) := by rw [Nat.pow_succ]; omega
    rw [forL_cons (s' := ((256 * a + y.2.toNat : Nat) : Int)) (by
      have e4 : (256 : Nat) ^ 4 = 4294967296 := by decide
      rw [e4] at hp
      generalize (256 : Nat) ^ (j + 1) = N at hp h2
      show some (Sum.inl (w64 ((w64 (256 * (a : Int))) + (y.2.toNat : Int)))) = _
      rw [YE (n := 256 * (a : Int)) (by omega) (by omega), YE (by omega) (by omega)]
      rw [show (256 * (a : Int) + (y.2.toNat : Int)) = ((256 * a + y.2.toNat : Nat) : Int) by omega]), get_loop l _ (j + 1) h2 (by simp at hj; omega)]
    rfl
theorem cut_len {l : List UInt8} {a b : Nat} (h1 : a ≤ b) (h2 : b ≤ l.length) : (cut l (a : Int) (b : Int)).length = b - a := by
  unfold cut; simp only [List.length_take, List.length_drop]; omega
theorem get_core {b : List UInt8} {at' k : Nat} (h4 : k ≤ 4) (hl : at' + k ≤ b.length) :
    (slc b (at' : Int) ((at' + k : Nat) : Int) fun m_16 => Option.bind (slices_Backward_byte m_16) fun x_20 => Option.bind (forL code_Get_r1 (bwd m_16 m_16.length) 0) (fun t_24 => Sum.elim (fun s_27 => some (s_27, (0 : Int))) (fun _ => none) t_24)) = some ((numB ((b.drop at').take k) : Int), 0) := by
  rw [slc_eq (by omega) (by omega) (by omega)]
  have hm : (cut b (at' : Int) ((at' + k : Nat) : Int)).length = k := by rw [cut_len (by omega) (by omega)]; omega
  have he : cut b (at' : Int) ((at' + k : Nat) : Int) = (b.drop at').take k := by unfold cut; rw [Int.toNat_natCast, Int.toNat_natCast, Nat.add_sub_cancel_left]
  rw [he] at hm ⊢
  have := get_loop (bwd ((b.drop at').take k) ((b.drop at').take k).length) 0 0 (by decide) (by rw [bwd_length', hm]; omega)
  unfold slices_Backward_byte
  rw [Option.bind_some]
  rw [show ((0 : Nat) : Int) = 0 from rfl] at this
  rw [this, bwd_fold _ _ _ (Nat.le_refl _), List.take_length, Nat.mul_zero, Nat.add_zero]
  rfl
theorem get_cond {b : List UInt8} {a q k : Int} {K : Option (Int × Int)} (hk : 0 < k ∧ k ≤ 4) (h0 : 0 ≤ a) (h1 : a ≤ b.length) (h2 : q ≤ b.length) :
    (Option.bind (code_sized k) fun x_5 => Option.bind (cond (!x_5) (some true) (cond (decide (a < 0)) (some true) (some (decide ((b.length : Int) < a))))) (fun t_8 => cond t_8 (some (0, 2)) (cond (decide ((b.length : Int) < q)) (some (0, 8)) K))) = K := by
  rw [sized_eq, Option.bind_some, decide_eq_true hk, decide_eq_false (show ¬ a < 0 by omega), decide_eq_false (show ¬ (b.length : Int) < a by omega), decide_eq_false (show ¬ (b.length : Int) < q by omega)]
  rfl
theorem code_Get_eq {b : List UInt8} {at' k : Nat} (h1 : 1 ≤ k) (h4 : k ≤ 4) (hl : at' + k ≤ b.length) (hb : b.length ≤ 1000000) : code_Get b (at' : Int) (k : Int) = some ((numB ((b.drop at').take k) : Int), 0) := by
  unfold code_Get
  have hw : w64 ((at' : Int) + (k : Int)) = ((at' + k : Nat) : Int) := by rw [YE (by omega) (by omega)]; omega
  rw [hw]
  exact (get_cond ⟨by omega, by omega⟩ (by omega) (by omega) (by omega)).trans (get_core h4 hl)

/-! ### A sum is always told -/
theorem rot_tot (a : UInt32) (n : Int) : ∃ r, math_bits_RotateLeft32 a n = some r := ⟨_, rfl⟩
theorem turned1_tot (a b : Int) (x : A4 UInt32) : ∃ r, mix_words_turned_1 a b x = some r := by
  unfold mix_words_turned_1
  obtain ⟨r, h⟩ := rot_tot (x.e3 ^^^ (x.e0 + x.e1)) a
  rw [h]
  simp only [Option.bind_some]
  obtain ⟨r', h'⟩ := rot_tot (x.e1 ^^^ (x.e2 + r)) b
  rw [h']
  exact ⟨_, rfl⟩
theorem turned_tot (x : A4 UInt32) : ∃ r, mix_words_turned x = some r := by
  unfold mix_words_turned
  obtain ⟨r, h⟩ := turned1_tot 15 11 x
  rw [h]
  simp only [Option.bind_some]
  obtain ⟨r', h'⟩ := turned1_tot 9 6 r
  rw [h']
  exact ⟨_, rfl⟩
theorem often_tot (x : A4 UInt32) (n : Int) (hn : n ≤ 100) : ∃ r, mix_words_often x n = some r := by
  unfold mix_words_often
  obtain ⟨t, h1, -⟩ := loop_rule (body := mix_words_often_l1 n) (fun s => 0 ≤ s.2.2.2.2 ∧ s.2.2.2.2 ≤ 100) (fun s => 100 - s.2.2.2.2.toNat) (fun _ => True) (by
    rintro ⟨a, b, c, d, i⟩ ⟨hi, hi'⟩
    simp only at hi hi'
    unfold mix_words_often_l1
    dsimp only
    by_cases h : i < n
    · left
      rw [decide_eq_true h]
      obtain ⟨r, hr⟩ := turned_tot (A4.mk a b c d)
      simp only [cond_true]
      rw [hr]
      refine ⟨_, rfl, ?_, ?_⟩
      · simp only; rw [YE (by omega) (by omega)]; omega
      · simp only; rw [YE (by omega) (by omega)]; omega
    · right
      rw [decide_eq_false h]
      exact ⟨_, rfl, trivial⟩) (s := (x.e0, x.e1, x.e2, x.e3, 0)) ⟨by simp, by simp⟩ (Nat.lt_of_le_of_lt (Nat.sub_le _ _) (small_lt (by omega)))
  rw [h1]
  exact ⟨_, rfl⟩
theorem number_tot {b : List UInt8} (h : b.length = 4) : ∃ r, mix_number b = some r := by
  unfold mix_number
  rw [show (0 : Int) = ((0 : Nat) : Int) from rfl, show (4 : Int) = ((4 : Nat) : Int) from rfl, code_Get_eq (by omega) (by omega) (by omega) (by omega)]
  exact ⟨_, rfl⟩
theorem forL_tot {α σ τ : Type} {body : α → σ → Option (σ ⊕ τ)} : ∀ {l : List α} {s : σ}, (∀ y ∈ l, ∀ s, ∃ s', body y s = some (.inl s')) → ∃ s', forL body l s = some (.inl s')
  | [], s, _ => ⟨s, rfl⟩
  | y :: l, s, h => by
    obtain ⟨s', h1⟩ := h y (by simp) s
    rw [forL_cons h1]
    exact forL_tot (fun y hy => h y (by simp [hy]))
theorem chunks_len {n : Nat} (hn : 0 < n) : ∀ (f : Nat) (l : List UInt8), l.length ≤ f → l.length % n = 0 → ∀ y ∈ chunks n f l, y.length = n
  | 0, l, h, _, y, hy => by simp [chunks] at hy
  | f + 1, l, h, hm, y, hy => by
    by_cases c : l = []
    · subst c; simp [chunks] at hy
    · rw [chunks_step c] at hy
      have hpos := List.length_pos_iff.2 c
      have hge : n ≤ l.length := by
        rcases Nat.lt_or_ge l.length n with h' | h'
        · rw [Nat.mod_eq_of_lt h'] at hm; omega
        · exact h'
      rcases List.mem_cons.1 hy with rfl | hy
      · simp only [List.length_take]; omega
      · refine chunks_len hn f _ (by simp only [List.length_drop]; omega) ?_ y hy
        rw [List.length_drop, ← Nat.mod_eq_sub_mod hge]; exact hm
def pad8 (n : Nat) : Nat := (8 - n % 8) % 8
theorem pad8_step {n : Nat} (h : n % 8 ≠ 0) : pad8 (n + 1) + 1 = pad8 n := by
  unfold pad8
  have : n % 8 = 1 ∨ n % 8 = 2 ∨ n % 8 = 3 ∨ n % 8 = 4 ∨ n % 8 = 5 ∨ n % 8 = 6 ∨ n % 8 = 7 := by omega
  rcases this with h | h | h | h | h | h | h <;> rw [Nat.add_mod, h]
theorem pad8_le (n : Nat) : pad8 n ≤ 8 := by unfold pad8; omega
theorem four_l1 {l : List UInt8} (h : l.length ≤ 100000) : ∃ t, loop mix_four_l1 l = some t ∧ t.length % 8 = 0 ∧ t.length ≤ 100016 := by
  obtain ⟨t, h1, h2⟩ := loop_rule (body := mix_four_l1) (fun s => s.length + pad8 s.length ≤ 100008) (fun s => pad8 s.length) (fun t => t.length % 8 = 0 ∧ t.length ≤ 100016) (by
    intro s hs
    unfold mix_four_l1
    rw [Int.tmod_eq_emod_of_nonneg (by omega)]
    by_cases c : s.length % 8 = 0
    · right
      rw [decide_eq_true (show (s.length : Int) % 8 = 0 by omega)]
      exact ⟨_, rfl, c, by omega⟩
    · left
      have := pad8_step c
      rw [decide_eq_false (show ¬ (s.length : Int) % 8 = 0 by omega)]
      simp only [Bool.not_false, cond_true]
      rw [app_eq (by simp only [List.length_cons, List.length_nil, LIM]; omega)]
      exact ⟨_, rfl, by simp only [List.length_append, List.length_cons, List.length_nil, Nat.zero_add]; omega, by simp only [List.length_append, List.length_cons, List.length_nil, Nat.zero_add]; omega⟩) (s := l) (by have := pad8_le l.length; omega) (Nat.lt_of_le_of_lt (pad8_le _) (small_lt (by omega)))
  exact ⟨t, h1, h2⟩
theorem mix_Sum_tot {b : List UInt8} (h : b.length ≤ 10000) : ∃ r, mix_Sum b = some r := by
  unfold mix_Sum mix_four slices_Clone_byte slices_Clip_byte
  rw [app_eq (by simp only [List.length_nil, LIM]; omega)]
  simp only [Option.bind_some, List.nil_append]
  rw [slc_eq (by omega) (by omega) (by omega)]
  simp only [Option.bind_some]
  have hc : cut b 0 (b.length : Int) = b := by simp [cut]
  rw [hc, app_eq (by simp only [List.length_cons, List.length_nil, LIM]; omega)]
  obtain ⟨t, h1, h2, h3⟩ := four_l1 (l := b ++ [1]) (by simp; omega)
  rw [h1]
  simp only [Option.bind_some]
  unfold slices_Chunk_byte
  rw [if_pos ⟨by omega, by omega, by simp only [LIM]; omega⟩]
  simp only [Option.bind_some]
  obtain ⟨s, hs⟩ := forL_tot (body := mix_four_r2) (l := chunks (8 : Int).toNat t.length t) (s := ((1 : UInt32), (2 : UInt32), (3 : UInt32), (4 : UInt32))) (fun y hy s => by
    have hy8 : y.length = 8 := chunks_len (n := 8) (by omega) t.length t (Nat.le_refl _) h2 y hy
    unfold mix_four_r2
    rw [slc_eq (by omega) (by omega) (by omega)]
    obtain ⟨n1, e1⟩ := number_tot (b := cut y 0 4) (by rw [show (0 : Int) = ((0 : Nat) : Int) from rfl, show (4 : Int) = ((4 : Nat) : Int) from rfl, cut_len (by omega) (by omega)])
    rw [e1]
    simp only [Option.bind_some]
    rw [slc_eq (by omega) (by omega) (by omega)]
    obtain ⟨n2, e2⟩ := number_tot (b := cut y 4 (y.length : Int)) (by rw [show (4 : Int) = ((4 : Nat) : Int) from rfl, cut_len (by omega) (by omega)]; omega)
    rw [e2]
    simp only [Option.bind_some]
    obtain ⟨w, e3⟩ := often_tot (A4.mk (s.1 ^^^ n1) s.2.1 (s.2.2.1 ^^^ n2) s.2.2.2) 4 (by omega)
    rw [e3]
    exact ⟨_, rfl⟩)
  rw [hs]
  simp only [Option.bind_some, Sum.elim_inl]
  obtain ⟨w, e3⟩ := often_tot (A4.mk s.1 (s.2.1 ^^^ (u32i (b.length : Int))) s.2.2.1 s.2.2.2) 8 (by omega)
  rw [e3]
  exact ⟨_, rfl⟩
def sumOf (b : List UInt8) : UInt32 := (mix_Sum b).getD 0
theorem mix_Sum_eq {b : List UInt8} (h : b.length ≤ 10000) : mix_Sum b = some (sumOf b) := by
  obtain ⟨r, hr⟩ := mix_Sum_tot h
  unfold sumOf; rw [hr]; rfl
end Go.Ow

/-
  What is proved here: pointers and labels as bytes, and back: in plain words.
-/
namespace Go.Ow
set_option linter.unusedVariables false
set_option linter.unusedSimpArgs false

theorem run_st {σ τ : Type} {body : σ → Option (σ ⊕ τ)} {n : Nat} {s s' : σ} (h : body s = some (.inl s')) : run body (n + 1) s = run body n s' := by
  show Option.bind (body s) _ = _; rw [h]; rfl
theorem run_en {σ τ : Type} {body : σ → Option (σ ⊕ τ)} {n : Nat} {s : σ} {t : τ} (h : body s = some (.inr t)) : run body (n + 1) s = some t := by
  show Option.bind (body s) _ = _; rw [h]; rfl
def isNone (p : Ptr) : Prop := p.At = 0 ∧ p.Birth = 0 ∧ p.Iv = 0 ∧ p.Tag = 0 ∧ p.Sum = 0
instance (p : Ptr) : Decidable (isNone p) := by unfold isNone; infer_instance
/-- a pointer that is one -/
def okR (p : Ptr) : Prop := 12 ≤ p.At ∧ p.At < 256 ∧ (1 : UInt32) ≤ p.Birth ∧ p.Birth ≤ 16777215
instance (p : Ptr) : Decidable (okR p) := by unfold okR; infer_instance
end Go.Ow

/-
  What is proved here: what stands behind a put or a write; one label stands on a new disk: in plain words.
-/
namespace Go.Ow
set_option linter.unusedVariables false
set_option linter.unusedSimpArgs false

end Go.Ow

/-
  What is proved here: tables of blocks (space), in plain words.
-/
namespace Go.Ow
set_option linter.unusedVariables false
set_option linter.unusedSimpArgs false

def okS (s : List UInt8) : Prop := s.length = 256 ∧ (∀ b ∈ s, b ≤ 2) ∧ ∀ b ∈ s.take 12, b = 1
instance (s : List UInt8) : Decidable (okS s) := by unfold okS; infer_instance

theorem maxB_le {a b c : UInt8} : maxB a b ≤ c ↔ a ≤ c ∧ b ≤ c := by
  unfold maxB
  simp only [UInt8.le_iff_toNat_le, UInt8.lt_iff_toNat_lt]
  split <;> omega
theorem max_loop (s : List UInt8) (h : s.length ≤ 1000) (a : UInt8) : loop (slices_Max_byte_l1 s) (a, 1) = some ((s.drop 1).foldl maxB a) := by
  have := loop_each' (s.drop 1) (fun i r => (r, i + 1)) (body := slices_Max_byte_l1 s) (τ := UInt8) (fun y r => some (.inl (maxB r y))) (fun r => r)
    (fun i hi r => by
      have hi' : i + 1 < s.length := by rw [List.length_drop] at hi; omega
      unfold slices_Max_byte_l1
      rw [cI, if_pos hi', Zs _ hi']
      simp only [List.getElem_drop, Nat.add_comm 1 i]
      rfl)
    (fun r => by
      unfold slices_Max_byte_l1
      rw [cI, if_neg (by rw [List.length_drop]; omega)])
    (Nat.lt_of_le_of_lt (by rw [List.length_drop]; omega) (show 1000 < FUEL by decide)) a
  rw [this, forL_map]; rfl
theorem foldl_max (l : List UInt8) (a c : UInt8) : l.foldl maxB a ≤ c ↔ a ≤ c ∧ ∀ b ∈ l, b ≤ c := by
  induction l generalizing a with
  | nil => simp
  | cons b l ih => rw [List.foldl_cons, ih, maxB_le]; simp [and_assoc]
theorem max_eq {s : List UInt8} (h : s.length ≤ 1000) (h0 : 0 < s.length) : ∃ m, slices_Max_byte s = some m ∧ ∀ c, m ≤ c ↔ ∀ b ∈ s, b ≤ c := by
  refine ⟨(s.drop 1).foldl maxB s[0], ?_, fun c => ?_⟩
  · unfold slices_Max_byte
    rw [decide_eq_false (by omega), cond_false, show (0 : Int) = ((0 : Nat) : Int) from rfl, Zs _ h0, max_loop s h, Option.bind_some]
  · rw [foldl_max]
    cases s with
    | nil => simp at h0
    | cons a l => simp
theorem cnt_all (l : List UInt8) (k : Nat) : l.foldl (fun n x => if x == (1 : UInt8) then n + 1 else n) k ≤ k + l.length ∧ (l.foldl (fun n x => if x == (1 : UInt8) then n + 1 else n) k = k + l.length ↔ ∀ b ∈ l, b = 1) := by
  induction l generalizing k with
  | nil => simp
  | cons b l ih =>
    rw [List.foldl_cons]
    by_cases c : b = 1
    · subst c
      have := ih (k + 1)
      simp only [beq_self_eq_true, if_true, List.length_cons, List.forall_mem_cons, true_and]
      exact ⟨by omega, by rw [← this.2]; omega⟩
    · have := ih k
      rw [if_neg (by simpa using c)]
      simp only [List.length_cons, List.forall_mem_cons]
      exact ⟨by omega, ⟨fun e => by omega, fun e => absurd e.1 c⟩⟩
theorem space_Check_eq (s : List UInt8) : space_Check s = some (if okS s then 0 else 8) := by
  unfold space_Check
  by_cases hl : s.length = 256
  · rw [show (!decide ((s.length : Int) = 256)) = false by rw [decide_eq_true (by omega)]; rfl, cond_false]
    obtain ⟨m, hm, hmc⟩ := max_eq (s := s) (by omega) (by omega)
    rw [hm, Option.bind_some]
    by_cases hb : ∀ b ∈ s, b ≤ 2
    · have := (hmc 2).2 hb
      rw [decide_eq_false (by rw [UInt8.lt_iff_toNat_lt]; rw [UInt8.le_iff_toNat_le] at this; omega), cond_false, slc_eq (by omega) (by omega) (by omega)]
      have hc : cut s 0 12 = s.take 12 := by simp [cut]
      rw [hc]
      unfold bytes_Count
      rw [decide_eq_false (by simp), cond_false, decide_eq_true (by simp), cond_true, show (0 : Int) = ((0 : Nat) : Int) from rfl, Zs _ (by simp), Option.bind_some]
      have hk := cnt_all (s.take 12) 0
      have hlt : (s.take 12).length = 12 := by rw [List.length_take]; omega
      rw [hlt] at hk
      obtain ⟨q, hq⟩ : ∃ q, q = cntB (s.take 12) ([(1 : UInt8)][0]) := ⟨_, rfl⟩
      rw [← hq]
      have hq' : q = (s.take 12).foldl (fun n x => if x == (1 : UInt8) then n + 1 else n) 0 := hq
      by_cases h1 : ∀ b ∈ s.take 12, b = 1
      · have e := hk.2.2 h1
        rw [if_pos ⟨hl, hb, h1⟩, decide_eq_true (by omega)]; rfl
      · have e : ¬ q = 12 := fun e => h1 (hk.2.1 (by omega))
        rw [if_neg (fun h => h1 h.2.2), decide_eq_false (by omega)]; rfl
    · have : ¬ m ≤ 2 := fun h => hb ((hmc 2).1 h)
      rw [decide_eq_true (by rw [UInt8.lt_iff_toNat_lt]; rw [UInt8.le_iff_toNat_le] at this; omega), cond_true, if_neg (fun h => hb h.2.1)]
  · rw [show (!decide ((s.length : Int) = 256)) = true by rw [decide_eq_false (by omega)]; rfl, cond_true, if_neg (fun h => hl h.1)]

/-! ### Free blocks -/
/-- the first nought from place i on -/
def freeFrom (s : List UInt8) (i : Nat) : Option Nat := (List.range' i (s.length - i)).find? fun j => s.getD j 1 == 0
theorem freeFrom_step {s : List UInt8} {i : Nat} (h : i < s.length) : freeFrom s i = if s[i] = 0 then some i else freeFrom s (i + 1) := by
  unfold freeFrom
  rw [show s.length - i = (s.length - (i + 1)) + 1 by omega, List.range'_succ, List.find?_cons]
  have e : s.getD i 1 = s[i] := by rw [List.getD_eq_getElem?_getD, List.getElem?_eq_getElem h]; rfl
  rw [e]
  by_cases c : s[i] = 0
  · rw [if_pos c, c]; rfl
  · rw [if_neg c, beq_eq_false_iff_ne.2 c]
theorem freeFrom_end {s : List UInt8} {i : Nat} (h : s.length ≤ i) : freeFrom s i = none := by
  unfold freeFrom; rw [show s.length - i = 0 by omega]; rfl
theorem freeFrom_some {s : List UInt8} {i j : Nat} (h : freeFrom s i = some j) : i ≤ j ∧ j < s.length ∧ s[j]? = some 0 := by
  unfold freeFrom at h
  have h1 := List.mem_of_find?_eq_some h
  have h2 := List.find?_some h
  rw [List.mem_range'_1] at h1
  have hj : j < s.length := by omega
  refine ⟨h1.1, hj, ?_⟩
  rw [List.getD_eq_getElem?_getD, List.getElem?_eq_getElem hj] at h2
  rw [List.getElem?_eq_getElem hj]
  simpa using h2
theorem free_loop (s : List UInt8) (hs : s.length ≤ 1000) : ∀ (k i n : Nat), i + k = s.length → k < n →
    run (space_free_1_l1 s) n (i : Int) = some (match freeFrom s i with | some j => .inr ((j : Int), (j : Int)) | none => .inl (s.length : Int))
  | 0, i, n, hi, hn => by
    obtain ⟨n, rfl⟩ : ∃ m, n = m + 1 := ⟨n - 1, by omega⟩
    obtain rfl : i = s.length := by omega
    rw [freeFrom_end (Nat.le_refl _)]
    show Option.bind (space_free_1_l1 s _) _ = _
    unfold space_free_1_l1
    rw [decide_eq_false (by omega), cond_false]; rfl
  | k + 1, i, n, hi, hn => by
    obtain ⟨n, rfl⟩ : ∃ m, n = m + 1 := ⟨n - 1, by omega⟩
    have hlt : i < s.length := by omega
    rw [freeFrom_step hlt]
    show Option.bind (space_free_1_l1 s _) _ = _
    unfold space_free_1_l1
    rw [decide_eq_true (by omega), cond_true, Zs _ hlt]
    by_cases c : s[i] = 0
    · rw [decide_eq_true c, cond_true, if_pos c]; rfl
    · rw [decide_eq_false c, cond_false, if_neg c]
      show run (space_free_1_l1 s) n (w64 ((i : Int) + 1)) = _
      rw [YE (by omega) (by omega), show (i : Int) + 1 = ((i + 1 : Nat) : Int) by omega]
      exact free_loop s hs k (i + 1) n (by omega) (by omega)
theorem space_free_1_eq {s : List UInt8} (hs : s.length ≤ 1000) {i : Nat} (hi : i ≤ s.length) :
    space_free_1 ((i : Int) - 1) s = some (match freeFrom s i with | some j => ((j : Int), (j : Int), s) | none => (-1, (s.length : Int), s)) := by
  unfold space_free_1
  rw [show ((i : Int) - 1) + 1 = (i : Int) by omega, YE (by omega) (by omega)]
  have := free_loop s hs (s.length - i) i FUEL (by omega) (Nat.lt_of_le_of_lt (by omega) (show 1000 < FUEL by decide))
  rw [show loop (space_free_1_l1 s) (i : Int) = _ from this, Option.bind_some]
  cases freeFrom s i <;> rfl
def takeS (s : List UInt8) : List UInt8 × Int × Int := if okS s then (match freeFrom s 0 with | some j => (s.set j 1, (j : Int), 0) | none => ([], 0, 9)) else ([], 0, 8)
theorem bClone {l : List UInt8} (h : l.length ≤ 1000000) : bytes_Clone l = some l := by
  unfold bytes_Clone; rw [app_eq (Nat.le_trans (by simpa using h) (by decide))]; rfl
theorem space_Take_eq (s : List UInt8) : space_Take s = some (takeS s) := by
  unfold space_Take takeS
  rw [space_Check_eq, Option.bind_some]
  by_cases ok : okS s
  · rw [if_pos ok, if_pos ok]
    have hl := ok.1
    rw [show (!decide ((0 : Int) = 0)) = false from rfl, cond_false]
    unfold space_free
    rw [Option.bind_some]
    have := space_free_1_eq (s := s) (by omega) (i := 0) (by omega)
    rw [show ((-1 : Int), s).1 = ((0 : Nat) : Int) - 1 from rfl, show ((-1 : Int), s).2 = s from rfl, this, Option.bind_some]
    cases hf : freeFrom s 0 with
    | none => rfl
    | some j =>
      obtain ⟨-, hj, -⟩ := freeFrom_some hf
      simp only []
      rw [decide_eq_false (by omega), cond_false, bClone (by omega), Option.bind_some, chk_eq ⟨by omega, by simpa using hj⟩, setI_eq (by omega) (by simpa using hj), Int.toNat_natCast]
  · rw [if_neg ok, if_neg ok]; rfl
end Go.Ow

/-
  What is proved here: keys, streams of bytes, tags and seals (mix, mac, cipher, seal), in plain words: which values they have is left open.
-/
namespace Go.Ow
set_option linter.unusedVariables false
set_option linter.unusedSimpArgs false

theorem lim_le {n : Nat} (h : n ≤ 1000000) : n ≤ LIM := Nat.le_trans h (by decide)
/-! ### Texts one behind the other -/
theorem grow_eq {n : Nat} (h : n ≤ 1000000) : slices_Grow_byte (n : Int) = some [] := by
  unfold slices_Grow_byte
  rw [decide_eq_false (by omega), cond_false, show (n : Int) - 0 = (n : Int) by omega, YE (by omega) (by omega)]
  by_cases c : 0 < (n : Int)
  · rw [decide_eq_true c, cond_true, mks_eq (lim_le h), slc_eq (by omega) (by omega) (by omega)]
    simp [cut]
  · rw [decide_eq_false c, cond_false]; rfl
theorem concat_eq (p : List (List UInt8)) (h : p.length ≤ 1000) (hs : (p.map List.length).sum ≤ 1000000) : slices_Concat_byte p = some p.flatten := by
  unfold slices_Concat_byte
  have key : ∀ (l : List (List UInt8)) (a : Nat), a + (l.map List.length).sum ≤ 1000000 → forL (fun (y : List UInt8) (r : Int) => bif decide (w64 (r + (y.length : Int)) < 0) then (none : Option (Int ⊕ Int)) else some (.inl (w64 (r + (y.length : Int))))) l (a : Int) = some (.inl ((a + (l.map List.length).sum : Nat) : Int)) := by
    intro l
    induction l with
    | nil => intro a _; simp [forL]
    | cons y l ih =>
      intro a ha
      rw [List.map_cons, List.sum_cons] at ha
      have e : w64 ((a : Int) + (y.length : Int)) = ((a + y.length : Nat) : Int) := by rw [YE (by omega) (by omega)]; omega
      rw [forL_cons (s' := ((a + y.length : Nat) : Int)) (by rw [decide_eq_false (by rw [e]; omega), cond_false, e]), ih _ (by omega), List.map_cons, List.sum_cons, Nat.add_assoc]
  have l1 := loop_each' p (fun i r => (r, i)) (body := slices_Concat_byte_l1 p) (τ := Int) (fun (y : List UInt8) (r : Int) => bif decide (w64 (r + (y.length : Int)) < 0) then none else some (.inl (w64 (r + (y.length : Int))))) (fun r => r)
    (fun i hi r => by
      unfold slices_Concat_byte_l1
      rw [cI, if_pos hi, Zs _ hi]
      by_cases c : w64 (r + (p[i].length : Int)) < 0
      · rw [decide_eq_true c]; rfl
      · rw [decide_eq_false c]; rfl)
    (fun r => by unfold slices_Concat_byte_l1; rw [cI, if_neg (by omega)]) (lt_fuel (m := 1000) h rfl) 0
  have k0 := key p 0 (by omega)
  rw [show ((0 : Nat) : Int) = 0 from rfl] at k0
  have e1 : Option.bind (forL (fun (y : List UInt8) (r : Int) => bif decide (w64 (r + (y.length : Int)) < 0) then (none : Option (Int ⊕ Int)) else some (.inl (w64 (r + (y.length : Int))))) p 0) (ends fun r => r) = some (((0 + (p.map List.length).sum : Nat) : Int)) := by rw [k0]; rfl
  rw [l1, e1, Option.bind_some, grow_eq (by omega), Option.bind_some]
  have key2 : ∀ (l : List (List UInt8)) (a : List UInt8), a.length + (l.map List.length).sum ≤ 1000000 → forL (fun (y : List UInt8) (r : List UInt8) => app r y fun q => (some (.inl q) : Option (List UInt8 ⊕ List UInt8))) l a = some (.inl (a ++ l.flatten)) := by
    intro l
    induction l with
    | nil => intro a _; simp [forL]
    | cons y l ih =>
      intro a ha
      rw [List.map_cons, List.sum_cons] at ha
      rw [forL_cons (s' := a ++ y) (by rw [app_eq (lim_le (by omega))]), ih _ (by rw [List.length_append]; omega), List.flatten_cons, List.append_assoc]
  have l2 := loop_each' p (fun i r => (r, i)) (body := slices_Concat_byte_l2 p) (τ := List UInt8) (fun (y : List UInt8) (r : List UInt8) => app r y fun q => some (.inl q)) (fun r => r)
    (fun i hi r => by
      unfold slices_Concat_byte_l2
      rw [cI, if_pos hi, Zs _ hi]
      unfold app
      by_cases c : r.length + p[i].length ≤ LIM
      · rw [if_pos c, if_pos c]; rfl
      · rw [if_neg c, if_neg c]; rfl)
    (fun r => by unfold slices_Concat_byte_l2; rw [cI, if_neg (by omega)]) (lt_fuel (m := 1000) h rfl) []
  have e2 : Option.bind (forL (fun (y : List UInt8) (r : List UInt8) => app r y fun q => (some (.inl q) : Option (List UInt8 ⊕ List UInt8))) p []) (ends fun r => r) = some ([] ++ p.flatten) := by rw [key2 p [] (by simpa using hs)]; rfl
  rw [l2, e2, Option.bind_some, List.nil_append]

/-! ### Keys -/
theorem mix_Four_tot {b : List UInt8} (h : b.length ≤ 10000) : ∃ r, mix_four b = some r := by
  have := mix_Sum_tot h
  obtain ⟨r, hr⟩ := this
  unfold mix_Sum at hr
  obtain ⟨x, hx, -⟩ := ZJ hr
  exact ⟨x, hx⟩
theorem put4 (a : UInt32) : code_Put (a.toNat : Int) 4 = some (leB a.toNat 4, 0) := by
  have := code_Put_eq (n := a.toNat) (k := 4) (by omega) (by omega) (by have := a.toNat_lt; omega)
  exact this
theorem four_fuel : 5 ≤ FUEL := by decide
theorem mix_Key_tot {b : List UInt8} (h : b.length ≤ 10000) : ∃ r, mix_Key b = some r ∧ r.length = 16 := by
  obtain ⟨x, hx⟩ := mix_Four_tot h
  unfold mix_Key
  rw [hx, Option.bind_some]
  have hl : x.l.length = 4 := rfl
  have step : ∀ (i : Nat) (r : List UInt8) (hi : i < x.l.length), r.length ≤ 100 → mix_Key_l1 x (r, i) = some (.inl (r ++ leB (x.l[i]).toNat 4, i + 1)) := by
    intro i r hi hr
    unfold mix_Key_l1
    rw [decide_eq_true (by omega), cond_true, Zs _ hi, put4, Option.bind_some, app_eq (lim_le (by simp only [Zr]; omega))]
  have e : loop (mix_Key_l1 x) ([], 0) = some ([] ++ leB (x.l[0]).toNat 4 ++ leB (x.l[1]).toNat 4 ++ leB (x.l[2]).toNat 4 ++ leB (x.l[3]).toNat 4) := by
    refine loop_of four_fuel ?_
    rw [run_st (step 0 [] (by omega) (by simp)), run_st (step 1 _ (by omega) (by simp [Zr])), run_st (step 2 _ (by omega) (by simp [Zr])), run_st (step 3 _ (by omega) (by simp [Zr]))]
    refine run_en ?_
    unfold mix_Key_l1
    rfl
  rw [e, Option.bind_some]
  exact ⟨_, rfl, by simp [Zr]⟩
def keyOf (b : List UInt8) : List UInt8 := (mix_Key b).getD []
theorem mix_Key_eq {b : List UInt8} (h : b.length ≤ 10000) : mix_Key b = some (keyOf b) := by
  obtain ⟨r, hr, -⟩ := mix_Key_tot h
  unfold keyOf; rw [hr]; rfl
theorem keyOf_length {b : List UInt8} (h : b.length ≤ 10000) : (keyOf b).length = 16 := by
  obtain ⟨r, hr, hl⟩ := mix_Key_tot h
  unfold keyOf; rw [hr]; exact hl

/-! ### Tags -/
theorem mac_inner_eq {a b c : List UInt8} (h : a.length + b.length + c.length ≤ 10000) : mac_inner [a, b, c] = some (keyOf (a ++ b ++ c)) := by
  unfold mac_inner
  rw [concat_eq _ (by simp) (by simp; omega), Option.bind_some, show [a, b, c].flatten = a ++ b ++ c by simp, mix_Key_eq (by simp; omega)]; rfl
def tagB (key b : List UInt8) : UInt32 := sumOf (key ++ [2] ++ keyOf (key ++ [1] ++ b))
theorem mac_Tag_eq {key b : List UInt8} (hk : key.length = 16) (hb : b.length ≤ 9000) : mac_Tag key b = some (tagB key b, 0) := by
  unfold mac_Tag tagB
  have hl := keyOf_length (b := key ++ [1] ++ b) (by simp; omega)
  rw [show (!decide ((key.length : Int) = 16)) = false by rw [hk]; rfl, cond_false, mac_inner_eq (by simp; omega), Option.bind_some, concat_eq _ (by simp) (by simp only [List.map_cons, List.map_nil, List.sum_cons, List.sum_nil, hl, List.length_cons, List.length_nil]; omega), Option.bind_some]
  rw [show [key, [(2 : UInt8)], keyOf (key ++ [1] ++ b)].flatten = key ++ [2] ++ keyOf (key ++ [1] ++ b) by simp, mix_Sum_eq (by rw [List.length_append, List.length_append, hl]; simp; omega), Option.bind_some]

/-! ### Streams -/
def pieceK (key : List UInt8) (iv : UInt32) (j : Nat) : List UInt8 := keyOf (key ++ leB iv.toNat 4 ++ leB j 4)
theorem pieceK_length {key : List UInt8} {iv : UInt32} {j : Nat} (hk : key.length = 16) : (pieceK key iv j).length = 16 := keyOf_length (by simp [Zr]; omega)
/-- the bytes of the first j pieces -/
def pieces (key : List UInt8) (iv : UInt32) : Nat → List UInt8
  | 0 => []
  | j + 1 => pieces key iv j ++ pieceK key iv j
theorem pieces_length {key : List UInt8} {iv : UInt32} (hk : key.length = 16) : ∀ j, (pieces key iv j).length = 16 * j
  | 0 => rfl
  | j + 1 => by rw [pieces, List.length_append, pieces_length hk j, pieceK_length hk]; omega
theorem pieces_loop {key : List UInt8} {iv : UInt32} (hk : key.length = 16) {n : Nat} (hn : n ≤ 4096) : ∀ (k j f : Nat), j + k = (n + 15) / 16 → k < f →
    run (cipher_pieces_1_l1 (cipher_Stream_r1 (n : Int)) key (leB iv.toNat 4)) f (pieces key iv j, (j : Int)) = some (pieces key iv ((n + 15) / 16))
  | k, j, 0, _, hf => by omega
  | k, j, f + 1, hj, hf => by
    have hpl := pieces_length (iv := iv) hk j
    have hput : code_Put ((j : Nat) : Int) 4 = some (leB j 4, 0) := code_Put_eq (n := j) (k := 4) (by omega) (by omega) (by omega)
    have hcc : slices_Concat_byte [key, leB iv.toNat 4, leB j 4] = some (key ++ leB iv.toNat 4 ++ leB j 4) := by
      rw [concat_eq _ (by simp) (by simp [Zr]; omega)]; simp
    have hkey : mix_Key (key ++ leB iv.toNat 4 ++ leB j 4) = some (pieceK key iv j) := mix_Key_eq (by simp [Zr]; omega)
    show Option.bind (cipher_pieces_1_l1 _ _ _ _) _ = _
    unfold cipher_pieces_1_l1
    rw [hput, Option.bind_some, hcc, Option.bind_some, hkey, Option.bind_some]
    unfold cipher_Stream_r1
    by_cases c : n ≤ 16 * j
    · rw [decide_eq_true (by rw [hpl]; omega), cond_true]
      have : j = (n + 15) / 16 := by omega
      rw [← this]; rfl
    · rw [decide_eq_false (by rw [hpl]; omega), cond_false, app_eq (lim_le (by rw [hpl, pieceK_length hk]; omega))]
      obtain ⟨k, rfl⟩ : ∃ m, k = m + 1 := ⟨k - 1, by omega⟩
      simp only [Option.bind_some, Sum.elim_inl]
      rw [YE (by omega) (by omega)]
      have := pieces_loop (iv := iv) hk hn k (j + 1) f (by omega) (by omega)
      rw [show ((j + 1 : Nat) : Int) = (j : Int) + 1 by omega] at this
      exact this
def streamB (key : List UInt8) (iv : UInt32) (n : Nat) : List UInt8 := (pieces key iv ((n + 15) / 16)).take n
theorem streamB_length {key : List UInt8} {iv : UInt32} {n : Nat} (hk : key.length = 16) : (streamB key iv n).length = n := by
  unfold streamB; rw [List.length_take, pieces_length hk]; omega
theorem cipher_Stream_eq {key : List UInt8} {iv : UInt32} {n : Nat} (hk : key.length = 16) (hn : n ≤ 4096) : cipher_Stream key iv (n : Int) = some (streamB key iv n, 0) := by
  unfold cipher_Stream
  rw [show (!decide ((key.length : Int) = 16)) = false by rw [hk]; rfl, cond_false, decide_eq_false (by omega), cond_false, decide_eq_false (by omega), cond_false]
  unfold cipher_pieces
  rw [put4, Option.bind_some, Option.bind_some]
  unfold cipher_pieces_1
  have := pieces_loop (iv := iv) hk hn ((n + 15) / 16) 0 FUEL (by omega) (Nat.lt_of_le_of_lt (by omega) (show 1000 < FUEL by decide))
  rw [show loop (cipher_pieces_1_l1 (cipher_Stream_r1 (n : Int)) (key, (leB iv.toNat 4, (0 : Int)).1).1 (key, (leB iv.toNat 4, (0 : Int)).1).2) ([], 0) = _ from this]
  simp only [Option.bind_some, Sum.elim_inr]
  rw [slc_eq (by omega) (by omega) (by rw [pieces_length hk]; omega)]
  unfold slices_Clone_byte
  have hl := streamB_length (iv := iv) (n := n) hk
  have hc : cut (pieces key iv ((n + 15) / 16)) 0 (n : Int) = streamB key iv n := by simp [cut, streamB]
  rw [hc, app_eq (lim_le (by simp only [List.length_nil]; omega))]; rfl
/-- bytes turned by a stream, and back -/
def turnB (key : List UInt8) (iv : UInt32) (b : List UInt8) : List UInt8 := List.zipWith (· ^^^ ·) (streamB key iv b.length) b
theorem turnB_length {key : List UInt8} {iv : UInt32} {b : List UInt8} (hk : key.length = 16) : (turnB key iv b).length = b.length := by
  unfold turnB; rw [List.length_zipWith, streamB_length hk, Nat.min_self]
theorem turn_loop {b s : List UInt8} (hs : s.length = b.length) (hb : b.length ≤ 4096) : loop (cipher_Turn_l1 b) (s, 0) = some (List.zipWith (· ^^^ ·) s b) := by
  have key : ∀ (k i n : Nat), i + k = b.length → k < n → run (cipher_Turn_l1 b) n ((List.zipWith (· ^^^ ·) s b).take i ++ s.drop i, i) = some (List.zipWith (· ^^^ ·) s b) := by
    intro k
    induction k with
    | zero =>
      intro i n hi hn
      obtain ⟨n, rfl⟩ : ∃ m, n = m + 1 := ⟨n - 1, by omega⟩
      refine run_en ?_
      unfold cipher_Turn_l1
      rw [cI, if_neg (by omega), List.drop_eq_nil_of_le (by omega), List.append_nil, List.take_of_length_le (by rw [List.length_zipWith]; omega)]
    | succ k ih =>
      intro i n hi hn
      obtain ⟨n, rfl⟩ : ∃ m, n = m + 1 := ⟨n - 1, by omega⟩
      have hlt : i < b.length := by omega
      have hzl : (List.zipWith (· ^^^ ·) s b).length = b.length := by rw [List.length_zipWith]; omega
      have hal : ((List.zipWith (· ^^^ ·) s b).take i ++ s.drop i).length = b.length := by rw [List.length_append, List.length_take, List.length_drop]; omega
      have hat : ((List.zipWith (· ^^^ ·) s b).take i ++ s.drop i)[i]'(by omega) = s[i]'(by omega) := by
        rw [List.getElem_append_right (by rw [List.length_take]; omega)]
        simp only [List.length_take, hzl, Nat.min_eq_left (Nat.le_of_lt hlt), Nat.sub_self, List.getElem_drop, Nat.add_zero]
      rw [run_st (s' := ((List.zipWith (· ^^^ ·) s b).take (i + 1) ++ s.drop (i + 1), i + 1))]
      · exact ih (i + 1) n (by omega) (by omega)
      · unfold cipher_Turn_l1
        dsimp only
        rw [cI, if_pos hlt, Zs _ hlt, Zs _ (by omega), chk_eq ⟨by omega, by simp only [Int.toNat_natCast]; omega⟩, setI_eq (by omega) (by simp only [Int.toNat_natCast]; omega), hat]
        congr 3
        rw [Int.toNat_natCast, List.set_append_right _ _ (by rw [List.length_take]; omega), List.length_take, hzl, Nat.min_eq_left (Nat.le_of_lt hlt), Nat.sub_self, List.drop_eq_getElem_cons (by omega), List.set_cons_zero, List.take_succ_eq_append_getElem (by omega), List.getElem_zipWith, List.append_assoc]
        rfl
  have := key b.length 0 FUEL (by omega) (Nat.lt_of_le_of_lt hb (by decide))
  simpa [loop] using this
theorem cipher_Turn_eq {key : List UInt8} {iv : UInt32} {b : List UInt8} (hk : key.length = 16) (hb : b.length ≤ 4096) : cipher_Turn key iv b = some (turnB key iv b, 0) := by
  unfold cipher_Turn
  rw [show (!decide ((key.length : Int) = 16)) = false by rw [hk]; rfl, cond_false, decide_eq_false (by omega), cond_false, cipher_Stream_eq hk hb, Option.bind_some, turn_loop (streamB_length hk) hb]; rfl
theorem seal_turned_eq {key : List UInt8} {iv : UInt32} {b : List UInt8} (hk : key.length = 16) (hb : b.length ≤ 256) : seal_turned key iv b = some (turnB key iv b, 0) := by
  unfold seal_turned
  rw [decide_eq_true (by omega), cond_true, decide_eq_false (by omega), cond_false, Option.bind_some, cipher_Turn_eq hk (by omega)]; rfl
def sealT (key : List UInt8) (iv : UInt32) (c : List UInt8) : UInt32 := tagB key (leB iv.toNat 4 ++ c)
theorem seal_tagged_eq {key : List UInt8} {iv : UInt32} {b : List UInt8} (hk : key.length = 16) (hb : b.length ≤ 4096) : seal_tagged key iv b = some (sealT key iv b, 0) := by
  unfold seal_tagged sealT
  rw [put4, Option.bind_some]
  rw [show (!decide ((leB iv.toNat 4, (0 : Int)).2 = 0)) = false from rfl, cond_false, concat_eq _ (by simp) (by simp [Zr]; omega), Option.bind_some, show [leB iv.toNat 4, b].flatten = leB iv.toNat 4 ++ b by simp, mac_Tag_eq hk (by simp [Zr]; omega)]; rfl
theorem seal_Seal_eq {key : List UInt8} {iv : UInt32} {b : List UInt8} (hk : key.length = 16) (hb : b.length ≤ 256) : seal_Seal key iv b = some (turnB key iv b, sealT key iv (turnB key iv b), 0) := by
  unfold seal_Seal
  rw [seal_turned_eq hk hb, Option.bind_some]
  rw [show (!decide ((turnB key iv b, (0 : Int)).2 = 0)) = false from rfl, cond_false, seal_tagged_eq hk (by rw [turnB_length hk]; omega)]; rfl
end Go.Ow

/-
  What is proved here: blocks laid, sealed, looked at, opened (store), in plain words.
-/
namespace Go.Ow
set_option linter.unusedVariables false
set_option linter.unusedSimpArgs false

def noS : Store := ⟨⟨[], []⟩, [], 0, 0⟩
def noP : Ptr := ⟨0, 0, 0, 0, 0⟩
def OKSt (s : Store) : Prop := OKD s.Disk ∧ okS s.Space ∧ (1 : UInt32) ≤ s.Epoch ∧ s.Epoch ≤ 65535 ∧ s.Count ≤ 65535
instance (s : Store) : Decidable (OKSt s) := by unfold OKSt; infer_instance
theorem ndec {e : Int} (h : e ≠ 0) : (!decide (e = 0)) = true := by rw [decide_eq_false h]; rfl
theorem zdec : (!decide ((0 : Int) = 0)) = false := rfl
theorem d32lt (a b : UInt32) : decide (a < b) = !decide (b ≤ a) := by
  rw [← decide_not]; apply decide_eq_decide.2; rw [UInt32.lt_iff_toNat_lt, UInt32.le_iff_toNat_le]; omega
theorem store_Check_eq {s : Store} (h : Sized s.Disk) : store_Check s = some (if OKSt s then 0 else 8) := by
  unfold store_Check
  rw [dev_Check_eq h, Option.bind_some]
  by_cases c1 : OKD s.Disk
  · rw [if_pos c1, zdec, cond_false, space_Check_eq, Option.bind_some]
    by_cases c2 : okS s.Space
    · rw [if_pos c2, zdec, cond_false, d32lt, d32lt, d32lt]
      by_cases c3 : (1 : UInt32) ≤ s.Epoch
      · by_cases c4 : s.Epoch ≤ 65535
        · by_cases c5 : s.Count ≤ 65535
          · rw [if_pos ⟨c1, c2, c3, c4, c5⟩, decide_eq_true c3, decide_eq_true c4, decide_eq_true c5]; rfl
          · rw [if_neg (fun h => c5 h.2.2.2.2), decide_eq_true c3, decide_eq_true c4, decide_eq_false c5]; rfl
        · rw [if_neg (fun h => c4 h.2.2.2.1), decide_eq_true c3, decide_eq_false c4]; rfl
      · rw [if_neg (fun h => c3 h.2.2.1), decide_eq_false c3]; rfl
    · rw [if_neg c2, ndec (by omega), cond_true, if_neg (fun h => c2 h.2.1)]
  · rw [if_neg c1, ndec (by omega), cond_true, if_neg (fun h => c1 h.1)]
theorem OKSt.sized {s : Store} (h : OKSt s) : Sized s.Disk := h.1.sized

/-! ### What is asked -/
def birthOk (b : UInt32) : Prop := (1 : UInt32) ≤ b ∧ b ≤ 16777215
instance (b : UInt32) : Decidable (birthOk b) := by unfold birthOk; infer_instance
theorem asked_loop1 (n : Int) (a : List UInt8) : loop (store_asked_l1 [a]) (n, 0) = some (if (a.length : Int) = n then .inl () else .inr ()) := by
  refine loop_of (n := 3) (by decide) ?_
  by_cases c : (a.length : Int) = n
  · rw [if_pos c, run_st (s' := ((256 : Int), 1)) (by unfold store_asked_l1; simp [idx, c])]
    exact run_en (by unfold store_asked_l1; rfl)
  · rw [if_neg c]
    exact run_en (by unfold store_asked_l1; simp [idx, c])
theorem asked_loop2 (n : Int) (a b : List UInt8) : loop (store_asked_l1 [a, b]) (n, 0) = some (if (a.length : Int) = n ∧ b.length = 256 then .inl () else .inr ()) := by
  refine loop_of (n := 4) (by decide) ?_
  by_cases c : (a.length : Int) = n
  · rw [run_st (s' := ((256 : Int), 1)) (by unfold store_asked_l1; simp [idx, c])]
    by_cases c2 : (b.length : Int) = 256
    · rw [if_pos ⟨c, by omega⟩, run_st (s' := ((256 : Int), 2)) (by unfold store_asked_l1; simp [idx, c2])]
      exact run_en (by unfold store_asked_l1; rfl)
    · rw [if_neg (fun h => c2 (by omega))]
      exact run_en (by unfold store_asked_l1; simp [idx, c2])
  · rw [if_neg (fun h => c h.1)]
    exact run_en (by unfold store_asked_l1; simp [idx, c])
def askErr (s : Store) (birth : UInt32) (ok : Prop) [Decidable ok] : Int := if OKSt s then (if birthOk birth then (if ok then 0 else 3) else 2) else 8
theorem asked_core {s : Store} (h : Sized s.Disk) (birth : UInt32) (n : Int) (l : List (List UInt8)) (ok : Prop) [Decidable ok] (hl : loop (store_asked_l1 l) (n, 0) = some (if ok then .inl () else .inr ())) :
    store_asked s birth n l = some (askErr s birth ok) := by
  unfold store_asked askErr
  rw [store_Check_eq h, Option.bind_some]
  by_cases c1 : OKSt s
  · rw [if_pos c1, if_pos c1, zdec, cond_false, d32lt, d32lt, hl]
    by_cases c2 : birthOk birth
    · rw [if_pos c2, decide_eq_true c2.1, decide_eq_true c2.2]
      by_cases c3 : ok
      · rw [if_pos c3, if_pos c3]; rfl
      · rw [if_neg c3, if_neg c3]; rfl
    · rw [if_neg c2]
      by_cases c3 : (1 : UInt32) ≤ birth
      · rw [decide_eq_true c3, decide_eq_false (fun c4 => c2 ⟨c3, c4⟩)]; rfl
      · rw [decide_eq_false c3]; rfl
  · rw [if_neg c1, if_neg c1, ndec (by omega)]; rfl

/-! ### A block is laid -/
structure PutAt (s : Store) (p : Ptr) (b : List UInt8) (t : Store) (q : Ptr) (j : Nat) : Prop where
  ok : OKSt s
  len : b.length = 256
  free : freeFrom s.Space 0 = some j
  room : s.Disk.Waits.length ≠ 4096
  out : t = ⟨⟨s.Disk.Blocks, s.Disk.Waits ++ [⟨(j : Int), b⟩]⟩, s.Space.set j 1, s.Epoch, s.Count⟩
  ptr : q = ⟨(j : Int), p.Birth, p.Iv, p.Tag, sumOf b⟩
theorem free_high {s : List UInt8} (h : okS s) {j : Nat} (hj : s[j]? = some 0) : 12 ≤ j ∧ j < 256 := by
  have hlt : j < s.length := (List.getElem?_eq_some_iff.1 hj).1
  rw [h.1] at hlt
  refine ⟨?_, hlt⟩
  apply Nat.le_of_not_lt
  intro hc
  have : (s.take 12)[j]? = some 0 := by rw [List.getElem?_take, if_pos hc]; exact hj
  have := h.2.2 0 (List.mem_of_getElem? this)
  cases this
theorem okS_set {s : List UInt8} (h : okS s) {j : Nat} (hj : 12 ≤ j) {v : UInt8} (hv : v ≤ 2) : okS (s.set j v) := by
  refine ⟨by rw [List.length_set]; exact h.1, fun b hb => ?_, fun b hb => ?_⟩
  · rcases List.mem_or_eq_of_mem_set hb with hb | hb
    · exact h.2.1 b hb
    · subst hb; exact hv
  · rw [List.take_set_of_le hj] at hb; exact h.2.2 b hb
theorem PutAt.place {s : Store} {p : Ptr} {b : List UInt8} {t : Store} {q : Ptr} {j : Nat} (h : PutAt s p b t q j) : 12 ≤ j ∧ j < 256 := free_high h.ok.2.1 (freeFrom_some h.free).2.2
theorem PutAt.okt {s : Store} {p : Ptr} {b : List UInt8} {t : Store} {q : Ptr} {j : Nat} (h : PutAt s p b t q j) : OKSt t := by
  have hp := h.place
  rw [h.out]
  exact ⟨h.ok.1.write (at' := (j : Int)) ⟨by omega, by omega⟩ h.len h.room, okS_set h.ok.2.1 hp.1 (by decide), h.ok.2.2⟩
theorem PutAt.seen {s : Store} {p : Ptr} {b : List UInt8} {t : Store} {q : Ptr} {j : Nat} (h : PutAt s p b t q j) : seenB t.Disk = (seenB s.Disk).set j b := by
  rw [h.out]
  simp only [seenB, layW, List.foldl_append, List.foldl_cons, List.foldl_nil, Int.toNat_natCast]
theorem writeD_ok {d : Disk} (h : OKD d) {j : Nat} (hj : j < 256) {b : List UInt8} (hb : b.length = 256) : writeD d (j : Int) b = if d.Waits.length = 4096 then (noD, 9) else (⟨d.Blocks, d.Waits ++ [⟨(j : Int), b⟩]⟩, 0) := by
  unfold writeD
  rw [if_pos h, if_pos ⟨by omega, by omega⟩]
  by_cases c : d.Waits.length = 4096
  · simp [hb, c]
  · simp [hb, c]
theorem lay_raw (s : Store) (birth : UInt32) (b : List UInt8) : store_Lay s birth b = store_Raw s birth 0 0 b := by
  unfold store_Lay
  cases store_Raw s birth 0 0 b with
  | none => rfl
  | some r => rfl

/-! ### A block is sealed -/
def ivOf (s : Store) : UInt32 := (sl32 s.Epoch (((16 : UInt64).toNat : Int)).toNat) ||| (s.Count + (1 : UInt32))
def more (s : Store) : Store := ⟨s.Disk, s.Space, s.Epoch, s.Count + 1⟩
theorem raw_err {s : Store} (h : Sized s.Disk) (birth iv tag : UInt32) (b : List UInt8) (hne : askErr s birth (b.length = 256) ≠ 0) : store_Raw s birth iv tag b = some (noS, noP, askErr s birth (b.length = 256)) := by
  unfold store_Raw
  rw [asked_core h birth 256 [b] (b.length = 256) (by rw [asked_loop1]; congr 1; by_cases c : b.length = 256 <;> simp [c] <;> omega), Option.bind_some, ndec hne]; rfl
/-! ### A block is looked at, and opened -/
def lookS (s : Store) (p : Ptr) : List UInt8 × Int :=
  if OKSt s ∧ (isNone p ∨ okR p) then (if isNone p then ([], 6) else (if sumOf ((seenB s.Disk).getD p.At.toNat []) = p.Sum then ((seenB s.Disk).getD p.At.toNat [], 0) else ([], 130))) else ([], 8)
end Go.Ow

/-
  What is proved here: a store that is new; what was laid is seen, what was sealed is opened; an example.
-/
namespace Go.Ow
set_option linter.unusedVariables false
set_option linter.unusedSimpArgs false

theorem forL_tot' {α σ τ : Type} {f : α → σ → Option (σ ⊕ τ)} : ∀ {l : List α} {s : σ}, (∀ y s, ∃ o, f y s = some o) → ∃ o, forL f l s = some o
  | [], s, _ => ⟨_, rfl⟩
  | y :: l, s, h => by
    obtain ⟨o, h1⟩ := h y s
    cases o with
    | inl s' => rw [forL_cons h1]; exact forL_tot' h
    | inr e => rw [forL_stop h1]; exact ⟨_, rfl⟩
def greatF (n : Nat) (r : Int) : Option (Int ⊕ Int) := if r < 2000000 then some (.inl (w64 (r + (n : Int)))) else some (.inr r)
theorem great_tot {d : Disk} (h : Sized d) : ∃ g, ref09_Great d = some g := by
  have L1 : ∀ r0, ∃ t, loop (ref09_Great_l1 d) (r0, 0) = some t := fun r0 => by
    rw [loop_each' d.Blocks (fun i (r : Int) => (r, i)) (fun b r => greatF b.length r) (fun r => r) (fun i hi r => ?_) (fun r => ?_) (small_lt h.blocks) r0]
    · obtain ⟨o, ho⟩ := forL_tot' (f := fun (b : List UInt8) (r : Int) => greatF b.length r) (l := d.Blocks) (s := r0) (fun y s => by unfold greatF; split <;> exact ⟨_, rfl⟩)
      rw [ho]; cases o <;> exact ⟨_, rfl⟩
    · unfold ref09_Great_l1 greatF
      rw [cI, if_pos hi]
      by_cases c : r < 2000000
      · rw [decide_eq_true c, if_pos c, cond_true, Zs _ hi]; rfl
      · rw [decide_eq_false c, if_neg c]; rfl
    · unfold ref09_Great_l1
      rw [cI, if_neg (by omega)]
  have L2 : ∀ r0, ∃ t, loop (ref09_Great_l2 d) (r0, 0) = some t := fun r0 => by
    rw [loop_each' d.Waits (fun i (r : Int) => (r, i)) (fun b r => greatF b.Data.length r) (fun r => r) (fun i hi r => ?_) (fun r => ?_) (small_lt h.waits) r0]
    · obtain ⟨o, ho⟩ := forL_tot' (f := fun (b : Write) (r : Int) => greatF b.Data.length r) (l := d.Waits) (s := r0) (fun y s => by unfold greatF; split <;> exact ⟨_, rfl⟩)
      rw [ho]; cases o <;> exact ⟨_, rfl⟩
    · unfold ref09_Great_l2 greatF
      rw [cI, if_pos hi]
      by_cases c : r < 2000000
      · rw [decide_eq_true c, if_pos c, cond_true, Zs _ hi]; rfl
      · rw [decide_eq_false c, if_neg c]; rfl
    · unfold ref09_Great_l2
      rw [cI, if_neg (by omega)]
  unfold ref09_Great
  have key : ∃ t, (cond (decide (500 < (d.Blocks.length : Int))) (some (.inr ())) (cond (decide (500 < (d.Waits.length : Int))) (cond (decide ((d.Waits.length : Int) < 4096)) (some (.inr ())) (cond (decide (4106 < (d.Waits.length : Int))) (some (.inr ())) (some (.inl ())))) (cond (decide (4106 < (d.Waits.length : Int))) (some (.inr ())) (some (.inl ()))))) = some (t : Unit ⊕ Unit) := by
    generalize decide (500 < (d.Blocks.length : Int)) = b1
    generalize decide (500 < (d.Waits.length : Int)) = b2
    generalize decide ((d.Waits.length : Int) < 4096) = b3
    generalize decide (4106 < (d.Waits.length : Int)) = b4
    cases b1 <;> cases b2 <;> cases b3 <;> cases b4 <;> exact ⟨_, rfl⟩
  obtain ⟨t, ht⟩ := key
  rw [ht, Option.bind_some]
  cases t with
  | inl _ =>
    obtain ⟨t1, h1⟩ := L1 0
    obtain ⟨t2, h2⟩ := L2 t1
    simp only [Sum.elim_inl]
    rw [h1, Option.bind_some, h2, Option.bind_some]
    exact ⟨_, rfl⟩
  | inr _ => exact ⟨_, rfl⟩

theorem great13_tot {s : Store} (h : Sized s.Disk) : ∃ g, ref13_Great s = some g := by
  obtain ⟨g, hg⟩ := great_tot h
  unfold ref13_Great
  rw [show ref09_Great (Disk.mk s.Disk.Blocks s.Disk.Waits) = some g from hg, Option.bind_some]
  cases g <;> exact ⟨_, rfl⟩

/-! ### What was laid is seen -/
theorem PutAt.okR {s : Store} {p : Ptr} {b : List UInt8} {t : Store} {q : Ptr} {j : Nat} (h : PutAt s p b t q j) (hb : birthOk p.Birth) : okR q ∧ ¬ isNone q := by
  have hp := h.place
  rw [h.ptr]
  exact ⟨⟨by show (12 : Int) ≤ (j : Int); omega, by show (j : Int) < 256; omega, hb.1, hb.2⟩, fun hn => by have : (j : Int) = 0 := hn.1; omega⟩
theorem getD_set {B : List (List UInt8)} {j : Nat} (hj : j < B.length) (b : List UInt8) (i : Nat) : (B.set j b).getD i [] = if i = j then b else B.getD i [] := by
  rw [List.getD_eq_getElem?_getD, List.getElem?_set]
  by_cases c : i = j
  · subst c; rw [if_pos rfl, if_pos hj, if_pos rfl]; rfl
  · rw [if_neg (fun e => c e.symm), if_neg c, List.getD_eq_getElem?_getD]
theorem PutAt.at {s : Store} {p : Ptr} {b : List UInt8} {t : Store} {q : Ptr} {j : Nat} (h : PutAt s p b t q j) (i : Nat) : (seenB t.Disk).getD i [] = if i = j then b else (seenB s.Disk).getD i [] := by
  have hp := h.place
  rw [h.seen, getD_set (by rw [seenB_length h.ok.1]; omega)]
/-! ### A new store -/
end Go.Ow

/-
  What is proved here: no two blocks are sealed by one number; limits, errors, examples: the laws, in plain words.
-/
namespace Go.Ow
set_option linter.unusedVariables false
set_option linter.unusedSimpArgs false

theorem iv_nat {e c : UInt32} (he : e ≤ 65535) (hc : c ≤ 65535) : (sl32 e 16 ||| c).toNat = e.toNat * 65536 + c.toNat := by
  rw [UInt32.le_iff_toNat_le] at he hc
  have e1 : (65535 : UInt32).toNat = 65535 := rfl
  rw [e1] at he hc
  rw [UInt32.toNat_or]
  have h1 : (sl32 e 16).toNat = 2 ^ 16 * e.toNat := by
    unfold sl32
    rw [UInt32.toNat_ofNat']
    simp only [Nat.min_def]
    rw [if_pos (by omega)]
    omega
  rw [h1, ← Nat.two_pow_add_eq_or_of_lt (by omega)]
  omega
theorem noP_none : isNone noP := ⟨rfl, rfl, rfl, rfl, rfl⟩
/-! ### Examples -/
end Go.Ow

/-
  What is proved here: where there is room a block is laid; where a byte is turned, it is found: the laws, in plain words.
-/
namespace Go.Ow
set_option linter.unusedVariables false
set_option linter.unusedSimpArgs false

/-! ### The next free block -/
/-! ### A byte that is turned -/
def turned (B : List (List UInt8)) (j i : Nat) (by' : UInt8) : List (List UInt8) := B.set j ((B.getD j []).set i (((B.getD j []).getD i 0) ^^^ by'))
end Go.Ow

/-
  What is proved here: what was laid is seen, what was sealed is opened, no other block changes; what was given up is looked at as before: the laws, in plain words.
-/
namespace Go.Ow
set_option linter.unusedVariables false
set_option linter.unusedSimpArgs false

theorem nbeq {α : Type} [DecidableEq α] {a b : α} (h : a = b) : (!decide (a = b)) = false := by rw [decide_eq_true h]; rfl
theorem nbne {α : Type} [DecidableEq α] {a b : α} (h : ¬ a = b) : (!decide (a = b)) = true := by rw [decide_eq_false h]; rfl
/-! ### A block is given up -/
/-! ### What was given up -/
end Go.Ow
