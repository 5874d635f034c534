import Derived.Test.YtdoebbgjjlicjaaGreatOwMb
import Derived.ChangeKeysEq
import Derived.Test.YtdoebbgjjlicjaaGreatOwMa
/-
  What is proved here: memory that callees have made is taken back, to be written in: the law's memory of the beginning is set anew; cells of whole numbers may turn, headers stay; over OwZD.
-/
namespace Go.Ow
open Go.RowKit
set_option linter.unusedVariables false
set_option linter.unusedSimpArgs false

variable {x : Cx} {ops : Array Oper} {Q : Exit → Act → World → Prop} {rest : List Oper} {l : Slots} {own : List Own} {H HF : Heaplet}
variable {ty : TypeId} {d : Nat} {pos : String} {aft : Array Edge} {p q : Operand}

/-- no cell of the heaplet lies in newer blocks -/
def Low (H : Heaplet) (n : Nat) : Prop := ∀ b o v, H b o = some v → b < n
theorem Low.of {w : World} (h : Agrees H w) : Low H w.heap.size := fun b o v e => by
  have := h b o v e
  by_cases c : b < w.heap.size
  · exact c
  · exfalso
    have hn : w.heap[b]? = none := Array.getElem?_eq_none (by omega)
    simp [World.cell?, hn] at this
abbrev Cx.at' (x : Cx) (w1 : World) (H : Heaplet) (own : List Own) : Cx := { P := x.P, r := x.r, n := x.n, w0 := w1, H0 := H, S := ids own.flatten, ds := x.ds }
/-- from here on, 'new' is what is new behind this place -/
theorem JC.root {c : Code} {fn : Func} {R : Value → List Own → Heaplet → Prop}
    (h : ∀ w1 : World, x.w0.heap.size ≤ w1.heap.size → Low H w1.heap.size → (∀ i ∈ ids own.flatten, i < w1.heap.size) → JC (x.at' w1 H own) c (Ret (x.at' w1 H own) fn R) l own H) :
    JC x c (Ret x fn R) l own H := fun a w hh => by
  have hlt : ∀ i ∈ ids own.flatten, i < w.heap.size := fun i hi => by
    obtain ⟨p, hp, rfl⟩ := List.mem_map.1 hi; exact hh.mem.ok.lt p hp
  have h1 := h w hh.mem.kept.size (Low.of hh.mem.agr) hlt a w ⟨hh.size, hh.ds, hh.slots, ⟨hh.mem.agr, hh.mem.ok, Kept.refl _ _, fun p hp => .inl (List.mem_map_of_mem hp), Hle.refl _, fun _ _ _ => rfl, Mem.soft0⟩⟩
  refine wpIn_mono h1 ?_
  have key : ∀ (e : Ending) (w' : World), (∃ v K' H', e = .returned v ∧ R v K' H' ∧ Mem w H (ids own.flatten) K'.flatten H' w') → (∃ v K' H', e = .returned v ∧ R v K' H' ∧ Mem x.w0 x.H0 x.S K'.flatten H' w') := by
    rintro e w' ⟨v, K', H', he, hR, hm⟩
    refine ⟨v, K', H', he, hR, ?_⟩
    have := hh.mem.go (K := own.flatten) (rst := []) (by simp) hm
    simpa using this
  intro e a' w' hq
  cases e with
  | normal => exact ⟨hq.1, by obtain ⟨v, h2, h3⟩ := hq.2; exact ⟨v, h2, key _ _ h3⟩⟩
  | ret => exact ⟨hq.1, by obtain ⟨v, h2, h3⟩ := hq.2; exact ⟨v, h2, key _ _ h3⟩⟩
  | panic ch => exact ⟨hq.1, key _ _ hq.2⟩
  | outgrown => exact key _ _ hq
  | exit id => exact hq.elim
  | goto t => exact hq.elim

/-! ### Memory that is taken back -/
/-- a cell of a whole number may have another one; what else it is, it stays -/
def Kin (v v' : Value) : Prop := v' = v ∨ match v with
  | .int .u8 _ => ∃ a : UInt8, v' = .int .u8 (a.toNat : Int)
  | .int .i64 _ => ∃ a : Int, v' = .int .i64 a
  | _ => False
def TH (N : Heaplet) (D : Own) : Prop := ∀ b o v, N b o = some v → ∃ cur t, (b, Obj.cells cur t (0, 0)) ∈ D ∧ ∃ v', cur.toList[o]? = some v' ∧ Kin v v'
theorem TH.exact {N : Heaplet} {D : Own} {b o : Nat} {v : Value} (h : TH N D) (hN : N b o = some v) (hv : ∀ k n, v ≠ .int k n) : ∃ cur t, (b, Obj.cells cur t (0, 0)) ∈ D ∧ cur.toList[o]? = some v := by
  obtain ⟨cur, t, h1, v', h2, h3⟩ := h b o v hN
  rcases h3 with rfl | h3
  · exact ⟨cur, t, h1, h2⟩
  · exfalso; revert h3; cases v <;> simp_all
theorem TH.u8 {N : Heaplet} {D : Own} {b o : Nat} {y : UInt8} (h : TH N D) (hN : N b o = some (.int .u8 (y.toNat : Int))) : ∃ (a : UInt8) (cur : Array Value) (t : TypeId), (b, Obj.cells cur t (0, 0)) ∈ D ∧ cur.toList[o]? = some (.int .u8 (a.toNat : Int)) := by
  obtain ⟨cur, t, h1, v', h2, h3⟩ := h b o _ hN
  rcases h3 with rfl | ⟨a, rfl⟩
  · exact ⟨y, cur, t, h1, h2⟩
  · exact ⟨a, cur, t, h1, h2⟩
theorem TH.i64 {N : Heaplet} {D : Own} {b o : Nat} {y : Int} (h : TH N D) (hN : N b o = some (.int .i64 y)) : ∃ (a : Int) (cur : Array Value) (t : TypeId), (b, Obj.cells cur t (0, 0)) ∈ D ∧ cur.toList[o]? = some (.int .i64 a) := by
  obtain ⟨cur, t, h1, v', h2, h3⟩ := h b o _ hN
  rcases h3 with rfl | ⟨a, rfl⟩
  · exact ⟨y, cur, t, h1, h2⟩
  · exact ⟨a, cur, t, h1, h2⟩
theorem Kin.u8 {y a : UInt8} : Kin (.int .u8 (y.toNat : Int)) (.int .u8 (a.toNat : Int)) := .inr ⟨a, rfl⟩
theorem Kin.i64 {y a : Int} : Kin (.int .i64 y) (.int .i64 a) := .inr ⟨a, rfl⟩
theorem JC.tidyP {c : Code} {l' : Slots} {own' rst : List Own} (hl : Sub l' l) (hp : own.flatten.Perm (own'.flatten ++ rst.flatten)) (h : JC x c Q l' own' H) : JC x c Q l own H := fun a w hh => by
  have hh' := hh.sub hl
  exact h a w ⟨hh'.size, hh'.ds, hh'.slots, (hh'.mem.perm hp).sub (List.sublist_append_left _ _)⟩
end Go.Ow

/-
  What is proved here: rows with a room of noughts behind them: 'make' with a length and a greater room, appends within it, the row with its noughts; over OwZE.
-/
namespace Go.Ow
open Go.RowKit
set_option linter.unusedVariables false
set_option linter.unusedSimpArgs false

variable {x : Cx} {ops : Array Oper} {Q : Exit → Act → World → Prop} {rest : List Oper} {l : Slots} {own : List Own} {H HF : Heaplet}
variable {ty : TypeId} {d : Nat} {pos : String} {aft : Array Edge} {p q : Operand} {t : TypeId}

/-- behind the row of n bytes there is room for N in all, and it holds noughts -/
def Spare (v : Value) (K : Own) (N : Nat) : Prop := ∃ g n cur E, v = .slice (some ⟨g, 0, none⟩) n N ∧ K = [(g, Obj.cells cur E (0, 0))] ∧ n ≤ N ∧ N ≤ cur.size ∧ (cur.toList.drop n).take (N - n) = List.replicate (N - n) (.int .u8 0)
theorem Flat.bytes_eq {H : Heaplet} : ∀ {l : List UInt8} {cells : List Value}, Flat H RU8 1 cells l → cells = bvs l
  | [], cells, h => h
  | b :: l, cells, h => by
    obtain ⟨cs, more, rfl, h1, h2, h3⟩ := h
    rw [Flat.bytes_eq h3, show cs = [.int .u8 (b.toNat : Int)] from h2]; rfl
/-- the row with its noughts -/
theorem RowOf.spare {B : Nat} {E : TypeId} {v : Value} {m m' : List UInt8} {K : Own} {N : Nat} {b : Int} (h : RowOf HF RU8 B E 1 v m K) (hs : Spare v K N) (hm : m' = m ++ List.replicate (b.toNat - m.length) 0) (hb : (m.length : Int) ≤ b ∧ b ≤ N) :
    ∃ g0, v = .slice (some ⟨g0, 0, none⟩) m.length N ∧ RowOf HF RU8 B E 1 (.slice (some ⟨g0, 0, none⟩) b.toNat N) m' K := by
  obtain ⟨g, n, cur, E', rfl, rfl, h1, h2, h3⟩ := hs
  obtain ⟨cells, ⟨h0, hr⟩, hf, ho⟩ := h
  rcases hr with ⟨e, -⟩ | ⟨g', cap, cur', e1, e2, e3, e4, e5, e6, e7⟩
  · cases e
  simp only [Value.slice.injEq, Option.some.injEq, Addr.mk.injEq] at e1
  obtain ⟨⟨rfl, -, -⟩, rfl, rfl⟩ := e1
  simp only [List.cons.injEq, Prod.mk.injEq, Obj.cells.injEq, and_true, true_and] at e2
  obtain ⟨rfl, rfl⟩ := e2
  have hml : m'.length = b.toNat := by rw [hm, List.length_append, List.length_replicate]; omega
  refine ⟨_, rfl, bvs m', ⟨by rw [hml]; simp [bvs, hml], .inr ⟨g, N, cur, by rw [hml], rfl, e3, by rw [hml]; omega, e5, by omega, ?_⟩⟩, Flat.bytes m', (Flat.bytes (H := HF) m').one' RU8.one⟩
  rw [hml, Nat.mul_one]
  have hc : cells = bvs m := Flat.bytes_eq hf
  have e : cur.toList.take b.toNat = cur.toList.take m.length ++ ((cur.toList.drop m.length).take (b.toNat - m.length)) := by
    conv => lhs; rw [show b.toNat = m.length + (b.toNat - m.length) by omega, List.take_add]
  have e8 : (cur.toList.drop m.length).take (b.toNat - m.length) = List.replicate (b.toNat - m.length) (.int .u8 0) := by
    have := congrArg (List.take (b.toNat - m.length)) h3
    rw [List.take_take, Nat.min_eq_left (by omega), List.take_replicate, Nat.min_eq_left (by omega)] at this
    exact this
  rw [Nat.mul_one] at e7
  rw [e, e8, e7, hc, hm]
  simp [bvs]
end Go.Ow

/-
  What is proved here: plain vocabulary of rows with a room of noughts.
-/
namespace Go.Ow
variable {α β : Type}
end Go.Ow

/-
  What is proved here: arrays of bytes: slices of them, slices as arrays, equality; appends of noughts to a slice that is full; over OwZF.
-/
namespace Go.Ow
open Go.RowKit
set_option linter.unusedVariables false
set_option linter.unusedSimpArgs false

variable {x : Cx} {ops : Array Oper} {Q : Exit → Act → World → Prop} {rest : List Oper} {l : Slots} {own : List Own} {H HF : Heaplet}
variable {ty : TypeId} {d : Nat} {pos : String} {aft : Array Edge} {p q : Operand} {t u : TypeId}

/-- a slice of an array, with bounds that are known -/
theorem R.slcA {n e b o a c sz : Nat} {g : Bool} {lo hi : Option Operand} (hu : x.P.underlying t = some (.array n e)) (hs : shapeOf x.P e = some (g, sz)) (h0 : evo l p = some (.pointer (some ⟨b, o, none⟩)))
    (h1 : bnd l lo 0 a) (h2 : bnd l hi n c) (hac : Nat.ble a c = true) (hcn : Nat.ble c n = true) (han : Nat.blt a n = true) :
    Runs x (.slice t p lo hi none) ty l own H (.slice (some ⟨b, o + a * sz, none⟩) (c - a) (n - a)) := fun ρ w _ _ _ _ hρ hm => by
  have hac := Nat.le_of_ble_eq_true hac
  have hcn := Nat.le_of_ble_eq_true hcn
  have han : a < n := by simpa using han
  simp only [execOp, hρ _ _ h0]
  refine run_v ?_
  have hne : ¬ n = a := by omega
  have key : (Instr.sliceBounds false n n (lo.map ρ) (hi.map ρ) none).run x.P w = .ok (a, c, n) w := by
    rcases lo with _ | lo <;> rcases hi with _ | hi <;> simp only [bnd] at h1 h2
    · subst h1 h2; simp [Instr.sliceBounds, Sem.run_bind]
    · obtain ⟨k2, i2, f2, rfl⟩ := h2; subst h1
      simp [Instr.sliceBounds, hρ _ _ f2, Sem.run_bind, run_sliceBound hcn]
    · obtain ⟨k1, i1, f1, rfl⟩ := h1; subst h2
      simp [Instr.sliceBounds, hρ _ _ f1, Sem.run_bind, run_sliceBound hac]
    · obtain ⟨k1, i1, f1, rfl⟩ := h1; obtain ⟨k2, i2, f2, rfl⟩ := h2
      simp [Instr.sliceBounds, hρ _ _ f1, hρ _ _ f2, Sem.run_bind, run_sliceBound hcn, run_sliceBound hac]
  simp only [Instr.sliceAt, Instr.sureAddr, Sem.run_bind, run_underlying hu, Result.andThen, Sem.run_pure, Option.map_none, key, run_sizeOf hs, if_neg hne, add_lit]
/-- a slice as an array -/
theorem R.s2a {N e n c : Nat} {ao : Option Addr} (hu : x.P.underlying t = some (.array N e)) (h1 : evo l p = some (.slice ao n c)) (hn : N ≤ n) : Runs x (.sliceToArrayPointer t p) ty l own H (.pointer ao) := fun ρ w _ _ _ _ hρ hm => by
  simp only [execOp, hρ _ _ h1]
  refine run_v ?_
  simp only [Instr.arrayAt, Sem.run_bind, run_underlying hu, Result.andThen, if_neg (show ¬ n < N by omega), Sem.run_pure]
theorem R.s2aK {N e n c : Nat} {ao : Option Addr} (hu : x.P.underlying t = some (.array N e)) (h1 : evo l p = some (.slice ao n c)) (hn : Nat.ble N n = true) : Runs x (.sliceToArrayPointer t p) ty l own H (.pointer ao) := R.s2a hu h1 (Nat.le_of_ble_eq_true hn)
theorem R.s2aH {N e n c b o : Nat} {ao : Option Addr} (hu : x.P.underlying t = some (.array N e)) (h1 : evo l p = some (.slice ao n c)) (hn : N ≤ n) (ha : ao = some ⟨b, o, none⟩) : Runs x (.sliceToArrayPointer t p) ty l own H (.pointer (some ⟨b, o, none⟩)) := by
  subst ha; exact R.s2a hu h1 hn
theorem IsSlice.first {ao : Option Addr} {n c N : Nat} {ls m : List UInt8} (h : IsSlice HF RU8 1 (.slice ao n c) ls) (hm : m = ls.take N) (hN : N ≤ ls.length) (h0 : 0 < N) :
    ∃ b o, ao = some ⟨b, o, none⟩ ∧ N ≤ n ∧ ∀ j u, (bvs m)[j]? = some u → HF b (o + j) = some u := by
  subst hm
  obtain ⟨cells, hf, ao', cap', e, hc⟩ := h.cells
  obtain rfl := Flat.bytes_eq hf
  simp only [Value.slice.injEq] at e
  obtain ⟨rfl, rfl, rfl⟩ := e
  rcases hc with rfl | ⟨b, o, rfl, hc⟩
  · simp only [List.length_nil] at hN; omega
  · refine ⟨b, o, rfl, hN, fun j u hj => hc j u ?_⟩
    have : bvs (ls.take N) = (bvs ls).take N := by unfold bvs; rw [List.map_take]
    rw [this, List.getElem?_take] at hj
    split at hj
    · exact hj
    · cases hj

/-! ### Equality -/
theorem bvs_get {m : List UInt8} {i : Nat} (h : i < m.length) : (bvs m)[i]? = some (.int .u8 (m[i].toNat : Int)) := by
  unfold bvs; rw [List.getElem?_map, List.getElem?_eq_getElem h]; rfl
theorem run_eqItems_bytes {P : Program} {w : World} {dd e : Nat} (hu : P.underlying e = some (.int .u8)) (hs : shapeOf P e = some (false, 1)) (hc : P.cellsOf e = 1) (as bs : List UInt8) (hl : bs.length = as.length) :
    ∀ (n k : Nat), k + n = as.length → (Op.eqItems (dd + 1) e (P.cellsOf e) (bvs as).toArray (bvs bs).toArray (List.range' k n)).run P w = .ok (decide (as.drop k = bs.drop k)) w
  | 0, k, h => by
    rw [List.drop_eq_nil_of_le (by omega), List.drop_eq_nil_of_le (by omega)]
    simp [Op.eqItems]
  | n + 1, k, h => by
    have ha : k < as.length := by omega
    have hb : k < bs.length := by omega
    have h1 := run_part1 (P := P) (cs := (bvs as).toArray) (off := k) hs (by simpa using bvs_get ha) w
    have h2 := run_part1 (P := P) (cs := (bvs bs).toArray) (off := k) hs (by simpa using bvs_get hb) w
    have h3 := run_equalIn_int w dd e .u8 .u8 (as[k].toNat : Int) (bs[k].toNat : Int) hu
    have ih := run_eqItems_bytes (w := w) (dd := dd) hu hs hc as bs hl n (k + 1) (by omega)
    rw [List.range'_succ]
    simp only [Op.eqItems, Sem.run_bind, hc, Nat.mul_one, h1, h2, h3, Result.andThen]
    rw [hc] at ih
    rw [List.drop_eq_getElem_cons ha, List.drop_eq_getElem_cons hb]
    by_cases he : as[k] = bs[k]
    · have : ((as[k].toNat : Int) == (bs[k].toNat : Int)) = true := by rw [he]; simp
      rw [this]
      simp only [Bool.not_true, Bool.false_eq_true, if_false, ih, he, List.cons.injEq, true_and]
    · have : ((as[k].toNat : Int) == (bs[k].toNat : Int)) = false := by
        rw [beq_eq_false_iff_ne]; intro e; exact he (UInt8.toNat_inj.1 (by omega))
      simp only [this, Bool.not_false, if_true, Sem.run_pure, List.cons.injEq, he, false_and, decide_false]
theorem run_equalIn_bytes {P : Program} {w : World} {dd t e n : Nat} (ht : P.underlying t = some (.array n e)) (hu : P.underlying e = some (.int .u8)) (hs : shapeOf P e = some (false, 1)) (hc : P.cellsOf e = 1) (as bs : List UInt8) (ha : as.length = n) (hb : bs.length = n) :
    (Op.equalIn (dd + 2) t (.agg (bvs as).toArray) (.agg (bvs bs).toArray)).run P w = .ok (decide (as = bs)) w := by
  have hi : ∃ i, P.info? e = some i := by
    unfold shapeOf at hs
    split at hs
    · rename_i d i h1 h2; exact ⟨i, h2⟩
    · cases hs
  obtain ⟨i, hi⟩ := hi
  rw [run_equalIn_array w (dd + 1) (bvs as).toArray (bvs bs).toArray ht hi, List.range_eq_range', run_eqItems_bytes hu hs hc as bs (by omega) n 0 (by omega)]
  rfl
theorem R.neqArr {n e : Nat} (as bs : List UInt8) {xs ys : Array Value} (ht : x.P.underlying t = some (.array n e)) (hu : x.P.underlying e = some (.int .u8)) (hs : shapeOf x.P e = some (false, 1)) (hc : x.P.cellsOf e = 1) (hg : x.P.eqGuardType x.P.depth t = false)
    (h1 : evo l p = some (.agg xs)) (h2 : evo l q = some (.agg ys)) (hx : (bvs as).toArray = xs) (hy : (bvs bs).toArray = ys) (ha : as.length = n) (hb : bs.length = n) : Runs x (.binOp .neq t p q u) ty l own H (.bool (!decide (as = bs))) := fun ρ w _ _ _ _ hρ hm => by
  subst hx; subst hy
  simp only [execOp, hρ _ _ h1, hρ _ _ h2]
  refine run_v ?_
  rw [Sem.run_bind, run_eqGuard_agg w .neq t p q _ _ hg]
  simp only [Result.andThen, run_neq_struct, run_equalIn_bytes (dd := 9998) ht hu hs hc as bs ha hb]
/-! ### An own array as a row -/
/-! ### Append of noughts to a slice that is full -/
theorem append_fullz {P : Program} {w : World} {H : Heaplet} {t tn ty E : TypeId} {kn : IntKind} {z : Value} {size bytes : Nat} (hu : P.underlying t = some (.slice E)) (hun : P.underlying tn = some (.int kn)) (he : eInfo P E = some (z, size, bytes))
    {n N : Nat} {base : Option Addr} {cells : List Value} (ha : Agrees H w) (h0 : cells.length = n * size) (hold : (Builtin.firstCells size n (.slice base n n)).run P w.drew = .ok cells.toArray w.drew) (hN : 0 < N)
    (hl : n + N ≤ LIM) (hbb : Nat.ble bytes 128 = true) {B : Nat} (hB : B ≤ w.heap.size) :
    ∃ v' K' w', (Builtin.append_ #[t, tn] ty #[.slice base n n, .int .i64 (N : Int)]).run P w = .ok v' w' ∧ Row B E size v' (cells ++ (List.replicate N z.cells.toList).flatten) (n + N) K' ∧ Mem w H [] K' H w' := by
  obtain ⟨i, hi, hz, hsz, hby, hzs, hpos⟩ := eInfo_parts he
  subst hsz; subst hby
  have hnl : ((List.replicate N z.cells.toList).flatten).length = N * i.size := by simp [hzs]
  have hlen : (cells ++ (List.replicate N z.cells.toList).flatten).length = (n + N) * i.size := by rw [List.length_append, h0, hnl, Nat.add_mul]
  have hlb := lim_bytes hl hbb
  have hlb2 : N * i.bytes ≤ 140737488355328 := Nat.le_trans (Nat.mul_le_mul_right _ (by omega)) hlb
  have h48i : ¬ (281474976710656 < (N : Int) * (i.bytes : Int)) := by rw [← Int.natCast_mul]; omega
  have hzc : (Builtin.zeroCells z.cells N).toList = (List.replicate N z.cells.toList).flatten := by
    have := madeCells_flat z.cells N (by rw [hzs]; exact hpos)
    rw [← this]; simp [Builtin.zeroCells, madeCells]
  have hrun := Lib.run_append_grow_zeros (P := P) w t tn ty E i z .i64 kn hu hun hi hz base n n cells hold N (by omega) hpos (by omega) (by unfold LIM at hl; omega) (by omega) (growslice_fits (by omega) hlb)
  have hge := grownCap_ge w (n + N) n E
  have hcm : grownCap w (n + N) n E ≤ maxLen := grownCap_le_maxLen w (n + N) n E (lim_max hl)
  obtain ⟨C, hC⟩ : ∃ C, C = cells.toArray ++ Builtin.zeroCells z.cells N ++ Builtin.zeroCells z.cells (grownCap w (n + N) n E - (n + N)) := ⟨_, rfl⟩
  rw [← hC] at hrun
  refine ⟨_, [(w.heap.size, .cells C E (0, 0))], _, hrun, ⟨hlen, .inr ⟨w.heap.size, _, C, rfl, rfl, hB, hge, hcm, ?_, ?_⟩⟩, ?_⟩
  · rw [hC]; simp only [Array.size_append, List.size_toArray, size_zeroCells, hzs, h0, ← Nat.add_mul]
    refine Nat.mul_le_mul_right _ ?_; omega
  · rw [hC]; simp only [Array.toList_append, List.append_assoc, List.toList_toArray, hzc]
    rw [← List.append_assoc, ← hlen]; exact List.take_left
  · have h := Mem.alloc (w := w.drew) (H := H) (fun b o v e => ha b o v e) (.cells C E (0, 0))
    exact ⟨h.agr, h.ok, ⟨h.kept.os, h.kept.tape, h.kept.output, h.kept.size, Nat.le_trans (Nat.le_succ _) h.kept.drawn, h.kept.block⟩, h.fresh, h.le, h.grow, h.soft⟩
theorem JL.appZC {α : Type} {R : Rep α} {tn E : TypeId} {z : Value} {size bytes n N : Nat} {kn : IntKind} {ao : Option Addr} {y : α} {ls rs : List α} {H1 : Heaplet} (hu : x.P.underlying t = some (.slice E)) (hun : x.P.underlying tn = some (.int kn)) (he : eInfo x.P E = some (z, size, bytes))
    (h1 : evo l p = some (.slice ao n n)) (hR1 : R.One) (hle : Hle H1 H) (hs : IsSlice H1 R size (.slice ao n n) ls) (hF : ∀ cs y, R H1 cs y → R HF cs y) (h2 : evo l q = some (.int .i64 (N : Int))) (hR : ∀ H, R H z.cells.toList y) (hN : Nat.blt 0 N = true)
    (hrs : rs = ls ++ List.replicate N y) (hl : ls.length + N ≤ LIM) (hb : Nat.ble bytes 128 = true) (hd : Nat.blt d x.n = true)
    (h : ∀ v' K', RowOf HF R x.w0.heap.size E size v' rs K' → JL x ops Q rest ((d, v') :: l) (K' :: own) H) :
    JL x ops Q (⟨some d, .call ⟨.builtin .append, #[p, q], #[t, tn]⟩, ty, pos, aft, none⟩ :: rest) l own H := fun a w hh => by
  subst hrs
  have hN : 0 < N := by simpa using hN
  simp only [wpLs, Z7, if_true]
  refine ⟨fun _ _ => trivial, ?_⟩
  obtain ⟨cells, hf, ao', cap', ev, hc⟩ := hs.cells
  simp only [Value.slice.injEq] at ev
  obtain ⟨rfl, rfl, -⟩ := ev
  have hlen : cells.length = ls.length * size := hf.length
  have hold : (Builtin.firstCells size ls.length (.slice ao ls.length ls.length)).run x.P w.drew = .ok cells.toArray w.drew := by
    rcases hc with rfl | ⟨b, o, rfl, hc⟩
    · simp only [Flat] at hf; subst hf
      cases ao with
      | none => simp [Builtin.firstCells, go_sem]
      | some a => exact run_firstCells_some (P := x.P) w.drew size 0 a 0 0 [] (by simp) (fun j u h => by simp at h)
    · exact run_firstCells_some (P := x.P) w.drew size ls.length ⟨b, o, none⟩ ls.length ls.length cells hlen (fun j u h => by
        rw [add_lit]; exact hh.mem.agr _ _ _ (hle _ _ _ (hc j u h)))
  obtain ⟨v', K', w', hrun, hrow', hmem⟩ := append_fullz (ty := ty) hu hun he hh.mem.agr hlen hold hN hl hb hh.mem.kept.size
  have hrun' : (execOp a.eval ⟨some d, .call ⟨.builtin .append, #[p, q], #[t, tn]⟩, ty, pos, aft, none⟩).run x.P w = .ok (.value v') w' := by
    have e1 := Z6 hh h1
    have e2 := Z6 hh h2
    have : (execOp a.eval ⟨some d, .call ⟨.builtin .append, #[p, q], #[t, tn]⟩, ty, pos, aft, none⟩).run x.P w = ((Builtin.append_ #[t, tn] ty #[.slice ao ls.length ls.length, .int .i64 (N : Int)]).run x.P w).andThen (fun r w'' => .ok (.value r) w'') := by
      generalize a.eval = ρ at e1 e2
      have e3 : Array.map ρ #[p, q] = #[.slice ao ls.length ls.length, .int .i64 (N : Int)] := by simp [e1, e2]
      simp only [execOp, resolve, e3, Sem.run_bind, Sem.run_pure, Result.andThen, invoke, builtin]
    rw [this, hrun]; rfl
  rw [YE rfl, hrun']
  have hzl : z.cells.toList.length = size := by
    obtain ⟨i, hi, hz, hsz, hby, hzs, hpos⟩ := eInfo_parts he
    simpa using hzs
  have hfl := flat_replicate (R := R) (H := HF) (size := size) (hR HF) hzl N
  refine h v' K' ⟨cells ++ (List.replicate N z.cells.toList).flatten, by simpa using hrow', Flat.append hfl (hf.conv hF), fun u hu => (List.mem_append.1 hu).elim (hf.one' hR1 u) (hfl.one' hR1 u)⟩ _ _
    (Holds.put (x := x) (l := l) ⟨hh.size, hh.ds, hh.slots, ?_⟩ hd v')
  simpa using hh.mem.go0 (K' := [K']) (by simpa using hmem)
end Go.Ow

/-
  What is proved here: cells that are made, at any time, in a region whose order Go leaves open: told apart from its other operations; over OwZG.
-/
namespace Go.Ow
open Go.RowKit
set_option linter.unusedVariables false
set_option linter.unusedSimpArgs false

variable {x : Cx} {ops : Array Oper} {Q : Exit → Act → World → Prop} {l : Slots} {own : List Own} {H : Heaplet} {so : List Own} {sH : Heaplet}

/-- an operation that makes a cell: its place, its slot -/
structure ASpec where
  i : Nat
  d : Nat
  T : TypeId
  z : Value
abbrev AM := List (ASpec × Option Nat)
def AM.sl : AM → Slots
  | [] => []
  | (s, some b) :: r => (s.d, .pointer (some ⟨b, 0, none⟩)) :: AM.sl r
  | (s, none) :: r => AM.sl r
def AM.ow : AM → List Own
  | [] => []
  | (s, some b) :: r => [(b, .cells s.z.cells s.T (0, 0))] :: AM.ow r
  | (s, none) :: r => AM.ow r
def AM.lst : AM → Array Bool → Array Bool
  | [], a => a
  | (s, some _) :: r, a => AM.lst r (a.setIfInBounds s.i true)
  | (s, none) :: r, a => AM.lst r a
def AM.left : AM → Nat
  | [] => 0
  | (_, some _) :: r => AM.left r
  | (_, none) :: r => AM.left r + 1
def AM.bs (m : AM) : List Bool := m.map (·.2.isSome)
def lstB : List ASpec → List Bool → Array Bool → Array Bool
  | s :: r, true :: bs, a => lstB r bs (a.setIfInBounds s.i true)
  | _ :: r, false :: bs, a => lstB r bs a
  | _, _, a => a
def undone : List ASpec → List Bool → List Nat
  | _ :: r, true :: bs => undone r bs
  | s :: r, false :: bs => s.i :: undone r bs
  | _, _ => []
def allB : Nat → List (List Bool)
  | 0 => [[]]
  | n + 1 => (allB n).flatMap fun bs => [true :: bs, false :: bs]
theorem allB_mem : ∀ (bs : List Bool), bs ∈ allB bs.length
  | [] => by simp [allB]
  | b :: bs => by
    simp only [List.length_cons, allB, List.mem_flatMap]
    exact ⟨bs, allB_mem bs, by cases b <;> simp⟩
theorem AM.lst_eq : ∀ (m : AM) (a : Array Bool), m.lst a = lstB (m.map (·.1)) m.bs a
  | [], _ => rfl
  | (s, some b) :: r, a => AM.lst_eq r _
  | (s, none) :: r, a => AM.lst_eq r _
theorem set_true_comm (a : Array Bool) (i j : Nat) : (a.setIfInBounds i true).setIfInBounds j true = (a.setIfInBounds j true).setIfInBounds i true := by
  by_cases h : i = j
  · subst h; rfl
  · exact Array.setIfInBounds_comm _ _ h
theorem AM.lst_set : ∀ (m : AM) (a : Array Bool) (k : Nat), (m.lst a).setIfInBounds k true = m.lst (a.setIfInBounds k true)
  | [], _, _ => rfl
  | (s, some b) :: r, a, k => by show (AM.lst r _).setIfInBounds k true = AM.lst r _; rw [AM.lst_set r, set_true_comm]
  | (s, none) :: r, a, k => AM.lst_set r a k
theorem AM.lst_none : ∀ (A : List ASpec) (a : Array Bool), AM.lst (A.map fun s => (s, none)) a = a
  | [], _ => rfl
  | s :: r, a => AM.lst_none r a
theorem AM.sl_none : ∀ (A : List ASpec), AM.sl (A.map fun s => (s, none)) = []
  | [] => rfl
  | s :: r => AM.sl_none r
theorem AM.ow_none : ∀ (A : List ASpec), AM.ow (A.map fun s => (s, none)) = []
  | [] => rfl
  | s :: r => AM.ow_none r
theorem AM.left_none : ∀ (A : List ASpec), AM.left (A.map fun s => (s, none)) = A.length
  | [] => rfl
  | s :: r => by show AM.left (r.map fun s => (s, none)) + 1 = _; rw [AM.left_none r]; rfl
/-- one that is not made yet is made -/
theorem AM.split : ∀ (m : AM) (k : Nat), k ∈ undone (m.map (·.1)) m.bs → ∃ m1 m2 s, m = m1 ++ (s, none) :: m2 ∧ s.i = k
  | (s, some b) :: r, k, h => by
    obtain ⟨m1, m2, s', rfl, e⟩ := AM.split r k h
    exact ⟨(s, some b) :: m1, m2, s', rfl, e⟩
  | (s, none) :: r, k, h => by
    have h' : k ∈ s.i :: undone (r.map (·.1)) (AM.bs r) := h
    rcases List.mem_cons.1 h' with e | e
    · exact ⟨[], r, s, rfl, e.symm⟩
    · obtain ⟨m1, m2, s', rfl, e2⟩ := AM.split r k e
      exact ⟨(s, none) :: m1, m2, s', rfl, e2⟩
theorem AM.made_left : ∀ (m1 m2 : AM) (s : ASpec) (b : Nat), (m1 ++ (s, none) :: m2).left = (m1 ++ (s, some b) :: m2).left + 1
  | [], _, _, _ => rfl
  | (_, some _) :: r, m2, s, b => AM.made_left r m2 s b
  | (_, none) :: r, m2, s, b => by show AM.left (r ++ _) + 1 = AM.left (r ++ _) + 1 + 1; rw [AM.made_left r m2 s b]
theorem AM.made_lst : ∀ (m1 m2 : AM) (s : ASpec) (b : Nat) (a : Array Bool), (m1 ++ (s, some b) :: m2).lst a = (m1 ++ (s, none) :: m2).lst (a.setIfInBounds s.i true)
  | [], _, _, _, _ => rfl
  | (t, some _) :: r, m2, s, b, a => by show AM.lst (r ++ _) _ = AM.lst (r ++ _) _; rw [AM.made_lst r m2 s b, set_true_comm]
  | (t, none) :: r, m2, s, b, a => AM.made_lst r m2 s b a
theorem AM.made_map : ∀ (m1 m2 : AM) (s : ASpec) (b : Nat), (m1 ++ (s, some b) :: m2).map (·.1) = (m1 ++ (s, none) :: m2).map (·.1) := fun m1 m2 s b => by simp
theorem AM.made_ow : ∀ (m1 m2 : AM) (s : ASpec) (b : Nat), (AM.ow (m1 ++ (s, some b) :: m2)).Perm ([(b, .cells s.z.cells s.T (0, 0))] :: AM.ow (m1 ++ (s, none) :: m2))
  | [], _, _, _ => List.Perm.refl _
  | (t, some c) :: r, m2, s, b => ((AM.made_ow r m2 s b).cons _).trans (List.Perm.swap _ _ _)
  | (t, none) :: r, m2, s, b => AM.made_ow r m2 s b
theorem lk_app : ∀ (l t : Slots) (i : Nat), lk (l ++ t) i = match lk l i with | some v => some v | none => lk t i
  | [], _, _ => rfl
  | (k, v) :: r, t, i => by
    simp only [List.cons_append, lk]
    cases h : Nat.beq k i with
    | true => rfl
    | false => exact lk_app r t i
theorem lk_appL {l t : Slots} {i : Nat} {v : Value} (h : lk l i = some v) : lk (l ++ t) i = some v := by rw [lk_app, h]
theorem evo_app {l t : Slots} {o : Operand} {v : Value} (h : evo l o = some v) : evo (l ++ t) o = some v := by
  cases o with
  | tmp k => exact lk_appL h
  | const u => exact h
  | global g => exact h
  | func f => exact h
theorem AM.made_lk : ∀ (m1 m2 : AM) (s : ASpec) (b : Nat) (i : Nat) (v : Value), ((m1 ++ (s, none) :: m2).map (fun p => p.1.d)).Nodup → lk (AM.sl (m1 ++ (s, some b) :: m2)) i = some v →
    (i = s.d ∧ v = .pointer (some ⟨b, 0, none⟩)) ∨ (i ≠ s.d ∧ lk (AM.sl (m1 ++ (s, none) :: m2)) i = some v)
  | [], m2, s, b, i, v, hn, h => by
    have h' : lk ((s.d, .pointer (some ⟨b, 0, none⟩)) :: AM.sl m2) i = some v := h
    simp only [lk] at h'
    cases hb : Nat.beq s.d i with
    | true => rw [hb] at h'; simp at h'; exact .inl ⟨(Nat.eq_of_beq_eq_true hb).symm, h'.symm⟩
    | false =>
      rw [hb] at h'
      exact .inr ⟨fun e => by subst e; simp at hb, h'⟩
  | (t, some c) :: r, m2, s, b, i, v, hn, h => by
    have h' : lk ((t.d, .pointer (some ⟨c, 0, none⟩)) :: AM.sl (r ++ (s, some b) :: m2)) i = some v := h
    have hn' : t.d ∉ (r ++ (s, none) :: m2).map (fun p => p.1.d) ∧ ((r ++ (s, none) :: m2).map (fun p => p.1.d)).Nodup := by
      rw [List.cons_append, List.map_cons, List.nodup_cons] at hn; exact hn
    have hts : t.d ≠ s.d := fun e => hn'.1 (by rw [e]; simp)
    show _ ∨ (_ ∧ lk ((t.d, .pointer (some ⟨c, 0, none⟩)) :: AM.sl (r ++ (s, none) :: m2)) i = some v)
    simp only [lk] at h' ⊢
    cases hb : Nat.beq t.d i with
    | true =>
      rw [hb] at h'
      have e : t.d = i := Nat.eq_of_beq_eq_true hb
      exact .inr ⟨by rw [← e]; exact hts, h'⟩
    | false => rw [hb] at h'; exact AM.made_lk r m2 s b i v hn'.2 h'
  | (t, none) :: r, m2, s, b, i, v, hn, h => by
    have hn' : ((r ++ (s, none) :: m2).map (fun p => p.1.d)).Nodup := by
      rw [List.cons_append, List.map_cons, List.nodup_cons] at hn; exact hn.2
    exact AM.made_lk r m2 s b i v hn' h

/-- what is asked of the list -/
def AOk (x : Cx) (ops : Array Oper) : List ASpec → Prop
  | [] => True
  | s :: r => (∃ ty pos aft, ops[s.i]? = some ⟨some s.d, .alloc s.T, ty, pos, aft, none⟩ ∧ zeroOf x.P s.T = some s.z ∧ Nat.blt s.d x.n = true) ∧ AOk x ops r
theorem AOk.at {A : List ASpec} (h : AOk x ops A) {s : ASpec} (hs : s ∈ A) : ∃ ty pos aft, ops[s.i]? = some ⟨some s.d, .alloc s.T, ty, pos, aft, none⟩ ∧ zeroOf x.P s.T = some s.z ∧ Nat.blt s.d x.n = true := by
  induction A with
  | nil => cases hs
  | cons t r ih =>
    rcases List.mem_cons.1 hs with rfl | h'
    · exact h.1
    · exact ih h.2 h'
def freeIn (l : Slots) : List ASpec → Bool
  | [] => true
  | s :: r => (lk l s.d).isNone && r.all (fun t => !Nat.beq t.d s.d) && freeIn l r
theorem freeIn.lk {A : List ASpec} (h : freeIn l A = true) {s : ASpec} (hs : s ∈ A) : lk l s.d = none := by
  induction A with
  | nil => cases hs
  | cons t r ih =>
    simp only [freeIn, Bool.and_eq_true] at h
    rcases List.mem_cons.1 hs with rfl | h'
    · simpa using h.1.1
    · exact ih h.2 h'
theorem freeIn.nodup {A : List ASpec} (h : freeIn l A = true) : (A.map (·.d)).Nodup := by
  induction A with
  | nil => exact List.nodup_nil
  | cons t r ih =>
    simp only [freeIn, Bool.and_eq_true] at h
    rw [List.map_cons, List.nodup_cons]
    refine ⟨fun hm => ?_, ih h.2⟩
    obtain ⟨s, hs, e⟩ := List.mem_map.1 hm
    have := List.all_eq_true.1 h.1.2 s hs
    simp [e] at this

def JAA (x : Cx) (ops : Array Oper) (Q : Exit → Act → World → Prop) (so : List Own) (sH : Heaplet) (A : List ASpec) (fuel : Nat) (listed : Array Bool) (l : Slots) (own : List Own) (H : Heaplet) : Prop :=
  ∀ m : AM, m.map (·.1) = A → (∀ p ∈ m, ∀ b, p.2 = some b → x.w0.heap.size ≤ b) → JA x ops Q so sH (fuel + m.left) (m.lst listed) (l ++ m.sl) (own ++ m.ow) H
def JOA (x : Cx) (ops : Array Oper) (Q : Exit → Act → World → Prop) (so : List Own) (sH : Heaplet) (A : List ASpec) (fuel : Nat) (listed : Array Bool) (i : Nat) (l : Slots) (own : List Own) (H : Heaplet) : Prop :=
  ∀ m : AM, m.map (·.1) = A → (∀ p ∈ m, ∀ b, p.2 = some b → x.w0.heap.size ≤ b) → JO x ops Q so sH (fuel + m.left) (m.lst listed) i (l ++ m.sl) (own ++ m.ow) H

theorem JAA.start (A : List ASpec) {fuel N : Nat} {listed : Array Bool} (hN : fuel + A.length = N) (h : JAA x ops Q so sH A fuel listed l own H) : JA x ops Q so sH N listed l own H := by
  have := h (A.map fun s => (s, none)) (by simp [Function.comp_def]) (fun p hp b e => by obtain ⟨s, -, rfl⟩ := List.mem_map.1 hp; cases e)
  rw [AM.lst_none, AM.sl_none, AM.ow_none, AM.left_none, hN] at this
  simpa using this
theorem SubO.app : ∀ {so own : List Own} (t : List Own), SubO so own → SubO so (own ++ t)
  | [], _, _, _ => trivial
  | s :: r, own, t, h => by
    obtain ⟨⟨i, hi⟩, h2⟩ := h
    refine ⟨⟨i, ?_⟩, SubO.app t h2⟩
    rw [List.getElem?_append_left (List.getElem?_eq_some_iff.1 hi).1]; exact hi
theorem JN.slots {K : Act → World → Prop} {l' : Slots} (h : ∀ i v, lk l' i = some v → lk l i = some v) (hk : JN x K l' own H) : JN x K l own H := fun a w hh =>
  hk a w ⟨hh.size, hh.ds, fun i v e => hh.slots i v (h i v e), hh.mem⟩
/-- a cell is made -/
theorem JOA.make {A : List ASpec} {F : Nat} {listed : Array Bool} (hA : AOk x ops A) (hle : Hle sH H) (hso : SubO so own) (hf : freeIn l A = true) {m : AM} (hm : m.map (·.1) = A) (hb : ∀ p ∈ m, ∀ b, p.2 = some b → x.w0.heap.size ≤ b)
    {k : Nat} (hk : k ∈ undone A m.bs) (ih : ∀ m' : AM, m'.left < m.left → m'.map (·.1) = A → (∀ p ∈ m', ∀ b, p.2 = some b → x.w0.heap.size ≤ b) → JA x ops Q so sH (F + m'.left) (m'.lst listed) (l ++ m'.sl) (own ++ m'.ow) H) :
    ∃ f, F + m.left = f + 1 ∧ JO x ops Q so sH f (m.lst listed) k (l ++ m.sl) (own ++ m.ow) H := by
  rw [← hm] at hk
  obtain ⟨m1, m2, s, rfl, rfl⟩ := AM.split m k hk
  have hsA : s ∈ A := by rw [← hm]; simp
  obtain ⟨ty, pos, aft, ho, hz, hd⟩ := hA.at hsA
  have hl := AM.made_left m1 m2 s 0
  refine ⟨F + AM.left (m1 ++ (s, some 0) :: m2), by omega, ?_⟩
  refine JO.step ho trivial rfl (fun K hK => ?_)
  refine JL.alloc hz hd (fun b hbb => ?_)
  refine ZD ?_
  have hleft : AM.left (m1 ++ (s, some b) :: m2) = AM.left (m1 ++ (s, some 0) :: m2) := by
    have := AM.made_left m1 m2 s b; omega
  have hmm : (m1 ++ (s, some b) :: m2).map (·.1) = A := by rw [AM.made_map]; exact hm
  have hJ := ih (m1 ++ (s, some b) :: m2) (by omega) hmm (fun p hp b' e => by
    rcases List.mem_append.1 hp with h | h
    · exact hb p (by simp [h]) b' e
    · rcases List.mem_cons.1 h with rfl | h
      · simp at e; subst e; exact hbb
      · exact hb p (by simp [h]) b' e)
  rw [hleft, AM.made_lst, ← AM.lst_set] at hJ
  have hnd : ((m1 ++ (s, none) :: m2).map (fun p => p.1.d)).Nodup := by
    have := freeIn.nodup hf; rw [← hm, List.map_map] at this; exact this
  have hln := freeIn.lk hf hsA
  have hsub : ∀ i v, lk (l ++ AM.sl (m1 ++ (s, some b) :: m2)) i = some v → lk ((s.d, .pointer (some ⟨b, 0, none⟩)) :: (l ++ AM.sl (m1 ++ (s, none) :: m2))) i = some v := fun i v e => by
    rw [lk_app] at e
    simp only [lk]
    cases hli : lk l i with
    | some u =>
      rw [hli] at e; simp at e; subst e
      have : Nat.beq s.d i = false := by
        cases hbq : Nat.beq s.d i with
        | false => rfl
        | true => have := Nat.eq_of_beq_eq_true hbq; rw [← this, hln] at hli; cases hli
      rw [this]; exact lk_appL hli
    | none =>
      rw [hli] at e
      rcases AM.made_lk m1 m2 s b i v hnd e with ⟨rfl, rfl⟩ | ⟨hne, h⟩
      · simp
      · have : Nat.beq s.d i = false := by
          cases hbq : Nat.beq s.d i with
          | false => rfl
          | true => exact absurd (Nat.eq_of_beq_eq_true hbq).symm hne
        rw [this, lk_app, hli]; exact h
  have hperm : ([(b, Obj.cells s.z.cells s.T (0, 0))] :: (own ++ AM.ow (m1 ++ (s, none) :: m2))).flatten.Perm (own ++ AM.ow (m1 ++ (s, some b) :: m2)).flatten := by
    refine List.Perm.flatten ?_
    refine List.Perm.trans ?_ ((AM.made_ow m1 m2 s b).symm.append_left own)
    exact List.perm_middle.symm
  refine JN.slots hsub (JN.perm hperm (hK _ _ _ ?_ hJ))
  exact ZJ hle (hso.app _)

/-- some of the others may come up, too -/
theorem JAA.many {A : List ASpec} (R : List Nat) {fuel : Nat} {listed : Array Bool} (hA : AOk x ops A) (hle : Hle sH H) (hso : SubO so own) (hf : freeIn l A = true)
    (hr : (allB A.length).all (fun bs => !(Region.ready .any ops (lstB A bs listed)).isEmpty && (Region.ready .any ops (lstB A bs listed)).all (fun k => R.contains k || (undone A bs).contains k)) = true)
    (h : ∀ i ∈ R, JOA x ops Q so sH A fuel listed i l own H) : JAA x ops Q so sH A (fuel + 1) listed l own H := by
  intro m
  obtain ⟨n, hn⟩ : ∃ n, n = m.left := ⟨_, rfl⟩
  induction n using Nat.strongRecOn generalizing m with
  | _ n ih =>
    intro hm hb a w hh
    have hmem : m.bs ∈ allB A.length := by have := allB_mem m.bs; rwa [show m.bs.length = A.length by rw [← hm]; simp [AM.bs]] at this
    have h1 := List.all_eq_true.1 hr _ hmem
    simp only [Bool.and_eq_true] at h1
    have hlst : m.lst listed = lstB A m.bs listed := by rw [AM.lst_eq, hm]
    rw [← hlst] at h1
    rw [show fuel + 1 + m.left = (fuel + m.left) + 1 by omega]
    refine ⟨fun h0 => ?_, fun k hk => ?_⟩
    · rw [h0] at h1; simp at h1
    · have hk2 := List.all_eq_true.1 h1.2 k hk
      simp only [Bool.or_eq_true, List.contains_iff_mem] at hk2
      rcases hk2 with hk2 | hk2
      · exact h k hk2 m hm hb a w hh
      · obtain ⟨f, hf1, hJ⟩ := JOA.make (F := fuel + 1) (listed := listed) (Q := Q) hA hle hso hf hm hb hk2 (fun m' hlt hm' hb' => ih m'.left (by omega) m' rfl hm' hb')
        rw [show fuel + m.left = f by omega]
        exact hJ a w hh
/-- nothing else may come up, as long as one of them is not made -/
def AllA : List ASpec → Nat → (AM → Prop) → Prop
  | [], _, P => P []
  | s :: r, N, P => ∀ b, N ≤ b → AllA r N (fun m => P ((s, some b) :: m))
theorem AllA.at : ∀ {A : List ASpec} {N : Nat} {P : AM → Prop}, AllA A N P → ∀ m : AM, m.map (·.1) = A → m.left = 0 → (∀ p ∈ m, ∀ b, p.2 = some b → N ≤ b) → P m
  | [], _, _, h, [], _, _, _ => h
  | s :: r, N, P, h, (t, some b) :: m, hm, h0, hb => by
    simp only [List.map_cons, List.cons.injEq] at hm
    obtain ⟨rfl, hm⟩ := hm
    exact AllA.at (h b (hb (t, some b) (by simp) b rfl)) m hm h0 (fun p hp => hb p (by simp [hp]))
  | s :: r, N, P, h, (t, none) :: m, hm, h0, hb => by cases h0
theorem left_undone : ∀ (m : AM), m.left ≠ 0 → m.bs.all id = false
  | [], h => absurd rfl h
  | (_, some _) :: r, h => by have := left_undone r h; simpa [AM.bs] using this
  | (_, none) :: r, h => rfl
theorem JAA.all {A : List ASpec} {fuel : Nat} {listed : Array Bool} (hA : AOk x ops A) (hle : Hle sH H) (hso : SubO so own) (hf : freeIn l A = true)
    (hr : (allB A.length).all (fun bs => bs.all id || (!(Region.ready .any ops (lstB A bs listed)).isEmpty && (Region.ready .any ops (lstB A bs listed)).all (fun k => (undone A bs).contains k))) = true)
    (h : AllA A x.w0.heap.size (fun m => JA x ops Q so sH fuel (m.lst listed) (l ++ m.sl) (own ++ m.ow) H)) : JAA x ops Q so sH A fuel listed l own H := by
  intro m
  obtain ⟨n, hn⟩ : ∃ n, n = m.left := ⟨_, rfl⟩
  induction n using Nat.strongRecOn generalizing m with
  | _ n ih =>
    intro hm hb
    by_cases h0 : m.left = 0
    · rw [h0]; exact h.at m hm h0 hb
    intro a w hh
    have hmem : m.bs ∈ allB A.length := by have := allB_mem m.bs; rwa [show m.bs.length = A.length by rw [← hm]; simp [AM.bs]] at this
    have h1 := List.all_eq_true.1 hr _ hmem
    rw [left_undone m h0] at h1
    simp only [Bool.false_or, Bool.and_eq_true] at h1
    have hlst : m.lst listed = lstB A m.bs listed := by rw [AM.lst_eq, hm]
    rw [← hlst] at h1
    obtain ⟨f, hf0⟩ : ∃ f, fuel + m.left = f + 1 := ⟨fuel + m.left - 1, by omega⟩
    rw [hf0]
    refine ⟨fun h0 => ?_, fun k hk => ?_⟩
    · rw [h0] at h1; simp at h1
    · have hk2 := List.all_eq_true.1 h1.2 k hk
      simp only [List.contains_iff_mem] at hk2
      obtain ⟨f', hf1, hJ⟩ := JOA.make (F := fuel) (listed := listed) (Q := Q) hA hle hso hf hm hb hk2 (fun m' hlt hm' hb' => ih m'.left (by omega) m' rfl hm' hb')
      rw [show f = f' by omega]
      exact hJ a w hh

/-- 'l2' is 'l1', and the tail behind it -/
inductive AppL {α : Type} (t : List α) : List α → List α → Prop
  | nil : AppL t [] t
  | cons {a : α} {l1 l2 : List α} (h : AppL t l1 l2) : AppL t (a :: l1) (a :: l2)
theorem AppL.eq {α : Type} {t l1 l2 : List α} (h : AppL t l1 l2) : l2 = l1 ++ t := by
  induction h with
  | nil => rfl
  | cons _ ih => rw [ih]; rfl
theorem guard_app {t : Slots} {g : Option (Nat × Bool)} (h : guardYes ops l g) : guardYes ops (l ++ t) g := by
  cases g with
  | none => trivial
  | some jb => obtain ⟨j, b⟩ := jb; obtain ⟨k, oj, h1, h2, h3⟩ := h; exact ⟨k, oj, h1, h2, lk_appL h3⟩
theorem JOA.step {A : List ASpec} {fuel i : Nat} {listed listed' : Array Bool} {dst : Option Tmp} {op : Op} {ty : TypeId} {pos : String} {aft : Array Edge} {g : Option (Nat × Bool)}
    (ho : ops[i]? = some ⟨dst, op, ty, pos, aft, g⟩) (hg : guardYes ops l g) (hl : listed.setIfInBounds i true = listed')
    (h : ∀ (tl : Slots) (to : List Own) (K : Act → World → Prop), (∀ {l' own' H' l2 own2}, AppL tl l' l2 → AppL to own' own2 → (∀ a w, Holds x l2 own2 H' a w → Stab so sH w) → JAA x ops Q so sH A fuel listed' l' own' H' → JN x K l2 own2 H') →
      JL x ops (fun e a w => match e with | .normal => K a w | e => Q e a w) [⟨dst, op, ty, pos, aft, none⟩] (l ++ tl) (own ++ to) H) :
    JOA x ops Q so sH A fuel listed i l own H := fun m hm hb => by
  refine JO.step ho (guard_app hg) rfl (fun K hK => h m.sl m.ow K (fun {l' own' H' l2 own2} e1 e2 hst hJ => ?_))
  have e1 := e1.eq
  have e2 := e2.eq
  subst e1; subst e2
  refine hK _ _ _ hst ?_
  have := hJ m hm hb
  rw [← hl, ← AM.lst_set] at this
  exact this
theorem Runs.app {op : Op} {ty : TypeId} {v : Value} {t : Slots} (h : Runs x op ty l own H v) : Runs x op ty (l ++ t) own H v := fun ρ w d pos aft g hρ hs => h ρ w d pos aft g (fun o u e => hρ o u (evo_app e)) hs
/-- it may be taken now, whatever was made -/
def TakeA (ops : Array Oper) (A : List ASpec) (listed : Array Bool) (i : Nat) : Bool := (allB A.length).all fun bs => (Region.ready .any ops (lstB A bs listed)).contains i && Region.free .any ops (lstB A bs listed) i
theorem TakeA.take {A : List ASpec} {listed : Array Bool} {i : Nat} (h : TakeA ops A listed i = true) {m : AM} (hm : m.map (·.1) = A) : Take ops (m.lst listed) i (m.lst (listed.setIfInBounds i true)) := by
  have hmem : m.bs ∈ allB A.length := by have := allB_mem m.bs; rwa [show m.bs.length = A.length by rw [← hm]; simp [AM.bs]] at this
  have h1 := List.all_eq_true.1 h _ hmem
  have hlst : m.lst listed = lstB A m.bs listed := by rw [AM.lst_eq, hm]
  rw [← hlst] at h1
  simp only [Bool.and_eq_true] at h1
  exact ⟨h1.1, h1.2, AM.lst_set _ _ _⟩
theorem JAA.val {A : List ASpec} {fuel i d : Nat} {listed listed' : Array Bool} {op : Op} {ty : TypeId} {pos : String} {aft : Array Edge} {g : Option (Nat × Bool)} {v : Value} (hreg : Reg ops) (hc : Calm Q)
    (ho : ops[i]? = some ⟨some d, op, ty, pos, aft, g⟩) (ht : TakeA ops A listed i = true) (hl : listed.setIfInBounds i true = listed') (hg : guardYes ops l g) (hle : Hle sH H) (hso : SubO so own) (hr : Runs x op ty l so sH v) (hd : Nat.blt d x.n = true)
    (h : JAA x ops Q so sH A fuel listed' ((d, v) :: l) own H) : JAA x ops Q so sH A (fuel + 1) listed l own H := fun m hm hb => by
  rw [show fuel + 1 + m.left = (fuel + m.left) + 1 by omega]
  subst hl
  exact JA.val hreg hc ho (TakeA.take ht hm) (guard_app hg) (ZJ hle (hso.app _)) hr.app hd (h m hm hb)
theorem JAA.no {A : List ASpec} {fuel i d j t : Nat} {b b' : Bool} {listed listed' : Array Bool} {op : Op} {ty : TypeId} {pos : String} {aft : Array Edge} {oj : Oper} (hreg : Reg ops) (hc : Calm Q)
    (ho : ops[i]? = some ⟨some d, op, ty, pos, aft, some (j, b)⟩) (ht : TakeA ops A listed i = true) (hl : listed.setIfInBounds i true = listed') (hj : ops[j]? = some oj) (htj : oj.dst = some t) (hb : lk l t = some (.bool b')) (hne : (b' == b) = false)
    (hle : Hle sH H) (hso : SubO so own) (hd : Nat.blt d x.n = true)
    (h : JAA x ops Q so sH A fuel listed' ((d, undef) :: l) own H) : JAA x ops Q so sH A (fuel + 1) listed l own H := fun m hm hb' => by
  rw [show fuel + 1 + m.left = (fuel + m.left) + 1 by omega]
  subst hl
  exact JA.no hreg hc ho (TakeA.take ht hm) hj htj (lk_appL hb) hne (ZJ hle (hso.app _)) hd (h m hm hb')
theorem JAA.gSplit {A : List ASpec} {fuel : Nat} {listed : Array Bool} {t : Nat} {b : Bool} (hb : lk l t = some (.bool b)) (ht : b = true → JAA x ops Q so sH A fuel listed ((t, .bool true) :: l) own H)
    (hf : b = false → JAA x ops Q so sH A fuel listed ((t, .bool false) :: l) own H) : JAA x ops Q so sH A fuel listed l own H := fun m hm hb' =>
  JA.gSplit (lk_appL hb) (fun e => ht e m hm hb') (fun e => hf e m hm hb')
theorem JAA.one {A : List ASpec} {fuel i : Nat} {listed : Array Bool} (hA : AOk x ops A) (hle : Hle sH H) (hso : SubO so own) (hf : freeIn l A = true)
    (hr : (allB A.length).all (fun bs => !(Region.ready .any ops (lstB A bs listed)).isEmpty && (Region.ready .any ops (lstB A bs listed)).all (fun k => [i].contains k || (undone A bs).contains k)) = true)
    (h : JOA x ops Q so sH A fuel listed i l own H) : JAA x ops Q so sH A (fuel + 1) listed l own H := JAA.many [i] hA hle hso hf hr (fun k hk => by simp at hk; subst hk; exact h)
theorem JAA.two {A : List ASpec} {fuel i j : Nat} {listed : Array Bool} (hA : AOk x ops A) (hle : Hle sH H) (hso : SubO so own) (hf : freeIn l A = true)
    (hr : (allB A.length).all (fun bs => !(Region.ready .any ops (lstB A bs listed)).isEmpty && (Region.ready .any ops (lstB A bs listed)).all (fun k => [i, j].contains k || (undone A bs).contains k)) = true)
    (h : JOA x ops Q so sH A fuel listed i l own H) (h' : JOA x ops Q so sH A fuel listed j l own H) : JAA x ops Q so sH A (fuel + 1) listed l own H := JAA.many [i, j] hA hle hso hf hr (fun k hk => by
  simp only [List.mem_cons, List.not_mem_nil, or_false] at hk
  rcases hk with rfl | rfl
  · exact h
  · exact h')
end Go.Ow

/-
  What is proved here: a range over a function whose assignments make cells; over OwZH.
-/
namespace Go.Ow
open Go.RowKit
set_option linter.unusedVariables false
set_option linter.unusedSimpArgs false
variable {x : Cx} {ops : Array Oper} {Q : Exit → Act → World → Prop} {rest : List Oper} {l : Slots} {own : List Own} {H HF : Heaplet}
variable {ty : TypeId} {d : Nat} {pos : String} {aft : Array Edge}

theorem JN.assigned2 {J : Slots → List Own → Prop} {L1 : Slots} {o1 : List Own} {Q : Exit → Act → World → Prop} (hJ : J L1 o1) (h : Sub L1 l) (ho : o1 = own) : JN x (Exit.then (fun a w => ∃ L1 o1, J L1 o1 ∧ Holds x L1 o1 H a w) Q .normal) l own H := fun a w hh => ⟨L1, o1, hJ, by rw [ho]; exact hh.sub h⟩
theorem JC.rangeG2 {α σ τ : Type} (hr : x.r = none) {g : Operand} {ps : Array Tmp} {assign body : Code} {gf : FuncId} {cap : Array Value} {RA : Heaplet → Array Value → α → Prop}
    (bd : α → σ → Option (σ ⊕ τ)) (s0 : σ) (tt : σ ⊕ τ) (I : σ → List Own → Heaplet → Prop) (X : τ → Code → List Own → Heaplet → Prop) (M : List Own → Heaplet → Prop) (mine own2 : List Own)
    (hg : evo l g = some (.func (.func gf) #[] cap)) (he : Enters x.P gf) (hown : own = mine ++ own2)
    (hit : ∀ (lr : Nat) (I' : σ → Own → Heaplet → Prop) (X' : τ → Own → Heaplet → Prop) (O : Own), YSpecG x.P lr RA bd I' X' → IX I' X' (.inl s0) O H →
      Does x.P gf (#[.func (.yield lr) #[] #[]] ++ cap) (mine ++ [O]) H (fun u K' H' => ∃ m' O', K' = m' ++ [O'] ∧ M m' H' ∧ IX I' X' tt O' H'))
    (hps : ∀ H args y, RA H args y → args.size = ps.size) (hlt : ps.toList.all (fun p => Nat.blt p x.n) = true)
    (h0 : I s0 own2 H)
    (hround : ∀ (lr : Nat) (y : α) (s : σ) (args : Array Value) (o : List Own) (H1 H' : Heaplet) (out : σ ⊕ τ), Hle H1 H' → I s o H1 → RA H' args y → bd y s = some out → ∃ J : Slots → List Own → Prop,
      (∀ wb, x.w0.heap.size ≤ wb.heap.size → JC { x with r := some lr, w0 := wb, H0 := H', S := ids o.flatten, ds := [] } assign
        (Exit.then (fun a w => ∃ L1 o1, J L1 o1 ∧ Holds { x with r := some lr, w0 := wb, H0 := H', S := ids o.flatten, ds := [] } L1 o1 H' a w) (fun _ _ _ => False)) ((ps.toList.zip args.toList).reverse ++ l) o H') ∧
      (∀ wb L1 oa, J L1 oa → x.w0.heap.size ≤ wb.heap.size → JC { x with r := some lr, w0 := wb, H0 := H', S := ids oa.flatten, ds := [] } body (RoundS I X out wb H' (ids oa.flatten)) L1 oa H'))
    (hdone : ∀ (D : Nat) (s : σ) (m' o : List Own) (H1 H' : Heaplet), x.w0.heap.size ≤ D → tt = .inl s → M m' H' → Hle H1 H' → I s o H1 → Hle H H' → JN { x with ds := mark D :: x.ds } (Q .normal) l ([(D, .deferred (some []))] :: (m' ++ o)) H')
    (hstop : ∀ (D : Nat) (c : Code) (e : τ) (m' o : List Own) (H1 H' : Heaplet), x.w0.heap.size ≤ D → tt = .inr e → M m' H' → Hle H1 H' → X e c o H1 → Hle H H' → JC { x with ds := mark D :: x.ds } c Q l ([(D, .deferred (some []))] :: (m' ++ o)) H') :
    JC x (.rangeFunc g ps assign body) Q l own H := fun a w hh => by
  have hFw : Fw x.r = Fence.wide := by rw [hr]; rfl
  rw [hFw]
  refine wpIn_rangeFunc ?_
  intro fn hfn
  -- the two blocks
  obtain ⟨rec, hrec⟩ : ∃ rec : LoopState → Option Code → Loop, rec = fun st pe => { state := st, pending := pe, fn, tmps := a.tmps, params := ps, assign, body, defers := w.heap.size } := ⟨_, rfl⟩
  have hm1 := hh.mem.go0 (K' := [[(w.heap.size, .deferred (some []))]]) (by simpa using Mem.alloc hh.mem.agr (.deferred (some [])))
  have hm2 := hm1.go0 (K' := [[((w.alloc (.deferred (some []))).heap.size, .loop (rec .ready none))]]) (by simpa using Mem.alloc hm1.agr (.loop (rec .ready none)))
  have hsz : (w.alloc (.deferred (some []))).heap.size = w.heap.size + 1 := by simp
  rw [hsz] at hm2
  obtain ⟨W, hW⟩ : ∃ W, W = (w.alloc (.deferred (some []))).alloc (.loop (rec .ready none)) := ⟨_, rfl⟩
  rw [← hW] at hm2
  let D := w.heap.size
  let lr := w.heap.size + 1
  have hD : D ≠ lr := by simp [D, lr]
  -- the invariant with its two blocks of book-keeping
  let tail : LoopState → Option Code → Own := fun st pe => [(lr, Obj.loop (rec st pe)), (D, Obj.deferred (some []))]
  let I' : σ → Own → Heaplet → Prop := fun s O H' => ∃ o : List Own, O = tail .ready none ++ o.flatten ∧ I s o H'
  let X' : τ → Own → Heaplet → Prop := fun e O H' => ∃ (o : List Own) (c : Code), O = tail .done (some c) ++ o.flatten ∧ X e c o H'
  refine ⟨lr, [mark D], W, { target := .fn (.func gf) cap, args := #[.func (.yield lr) #[] #[]] }, W, gf, #[.func (.yield lr) #[] #[]] ++ cap, W, ?_, ?_, fun _ _ => trivial, ?_, fun e => by simp [Fence.wide] at e, ?_⟩
  · rw [hW, hrec]; exact run_enterLoop_outer _ _ _ _ _
  · have e1 := Z6 hh hg
    simp only [resolve, e1]
    simp [go_sem, Act.eval, Deferred.ofValue, lr]
  · simp only [invoke]; exact he _ _
  · have hY : YSpecG x.P lr RA bd I' X' := by
      rintro y s args O H' w1 out ⟨H1', hle1, o, rfl, hI⟩ hy hbd hag hok
      have hsize := hps _ _ _ hy
      have hrecs : w1.heap[lr]? = some (.loop (rec .ready none)) := hok.here (lr, Obj.loop (rec .ready none)) (by simp [tail])
      have hapr : ∀ k, H' lr k = none := fun k => hok.apart (lr, Obj.loop (rec .ready none)) (by simp [tail]) k
      have hyld := run_yield (P := x.P) (args := args) hrecs (by rw [hrec]; exact hsize)
      rw [hrec] at hyld
      refine ⟨fn, _, assign, body, hyld, ?_⟩
      obtain ⟨J, hA, hB⟩ := hround lr y s args o H1' H' out hle1 hI hy hbd
      refine roundIn_of_wpIn (F := Fence.wide) trivial ?_
      have hput := puts_holds (x := x) (own := own) (H := H) (w := w) x.n ps.toList args.toList a.tmps l hh.size hlt hh.slots
      have hfold : ((ps.zip args).foldl (fun t (p, v) => t.setIfInBounds p v) a.tmps) = ((ps.toList.zip args.toList).foldl (fun t (p, v) => t.setIfInBounds p v) a.tmps) := by
        rw [← Array.foldl_toList]; simp
      have hok2 : OwnOk H' o.flatten w1 := by
        exact OwnOk.right hok
      have hmo : Mem w1 H' (ids o.flatten) o.flatten H' w1 := Mem.same hag hok2
      refine wpIn_mono (Q := Exit.then (fun a w => ∃ L1 o1, J L1 o1 ∧ Holds { x with r := some lr, w0 := w1, H0 := H', S := ids o.flatten, ds := [] } L1 o1 H' a w) (fun _ _ _ => False)) ?_ ?_
      · rw [hfold]
        have hDs : D < w1.heap.size := (Array.getElem?_eq_some_iff.1 (hok.here (D, Obj.deferred (some [])) (by simp [tail]))).1
        exact hA w1 (Nat.le_trans hh.mem.kept.size (Nat.le_of_lt hDs)) { tmps := _, defers := [] } w1 ⟨hput.1, rfl, hput.2, hmo⟩
      · rintro e a1 w2 hh1
        cases e with
        | normal =>
          obtain ⟨L1, oa, hJ1, hh1⟩ : ∃ L1 o1, J L1 o1 ∧ Holds { x with r := some lr, w0 := w1, H0 := H', S := ids o.flatten, ds := [] } L1 o1 H' a1 w2 := hh1
          -- the assignments have turned nothing of the book-keeping
          have hlt1 : lr < w1.heap.size := (Array.getElem?_eq_some_iff.1 hrecs).1
          have hnd := hok.nodup
          have hlro : lr ∉ ids o.flatten := fun hmem => by
            simp only [tail, ids, List.map_append, List.nodup_append] at hnd
            exact hnd.2.2 lr (by simp) lr hmem rfl
          have hDo : D ∉ ids o.flatten := fun hmem => by
            simp only [tail, ids, List.map_append, List.nodup_append] at hnd
            exact hnd.2.2 D (by simp) D hmem rfl
          have hr2 : w2.heap[lr]? = some (.loop (rec .ready none)) := by rw [hh1.mem.kept.block lr hlt1 hlro]; exact hrecs
          -- the whole memory at the round's begin, seen from w1
          have hmw1 : Mem w1 H' (ids (tail .ready none ++ o.flatten)) (tail .ready none ++ o.flatten) H' w1 := Mem.same hag hok
          have hmw2 : Mem w1 H' (ids (tail .ready none ++ o.flatten)) (oa.flatten ++ (tail .ready none)) H' w2 :=
            hmw1.go (K := o.flatten) (rst := (tail .ready none)) List.perm_append_comm hh1.mem
          have hbr := run_beginRound (P := x.P) hr2 (by rw [hrec])
          refine ⟨_, hbr, ?_⟩
          have hmw3 : Mem w1 H' (ids (tail .ready none ++ o.flatten)) ([(lr, Obj.loop { rec .ready none with state := .busy })] ++ (([(D, Obj.deferred (some []))] : Own) ++ oa.flatten)) H' (w2.putObj lr (.loop { rec .ready none with state := .busy })) := by
            refine hmw2.go (K := [(lr, Obj.loop (rec .ready none))]) (rst := [(D, Obj.deferred (some []))] ++ oa.flatten) ?_ ?_
            · simp only [tail]
              refine List.perm_append_comm.trans ?_
              simp
            · exact Mem.putObj hh1.mem.agr hr2 hapr _
          have hDs : D < w1.heap.size := (Array.getElem?_eq_some_iff.1 (hok.here (D, Obj.deferred (some [])) (by simp [tail]))).1
          have hsz2 : x.w0.heap.size ≤ (w2.putObj lr (.loop { rec .ready none with state := .busy })).heap.size := by
            have h1 := hh.mem.kept.size
            have h2 : w1.heap.size ≤ w2.heap.size := hh1.mem.kept.size
            have h5 : w.heap.size < w1.heap.size := hDs
            exact Nat.le_trans (Nat.le_trans h1 (Nat.le_trans (Nat.le_of_lt h5) h2)) (by simp)
          refine wpIn_mono (hB (w2.putObj lr (.loop { rec .ready none with state := .busy })) L1 oa hJ1 hsz2 a1 _ ⟨hh1.size, hh1.ds, hh1.slots, Mem.same hmw3.agr ?_⟩) ?_
          · exact OwnOk.right (OwnOk.right hmw3.ok)
          · -- the round's end
            have fin : ∀ (jump : Option Code) (o1 : List Own) (H1 : Heaplet) (w3 : World), Mem (w2.putObj lr (.loop { rec .ready none with state := .busy })) H' (ids oa.flatten) o1.flatten H1 w3 →
                (Instr.endRound lr jump).run x.P w3 = .ok (.bool jump.isNone) (w3.putObj lr (.loop (rec (if jump.isNone then .ready else .done) jump))) ∧
                Mem w1 H' (ids (tail .ready none ++ o.flatten)) (tail (if jump.isNone then .ready else .done) jump ++ o1.flatten) H1 (w3.putObj lr (.loop (rec (if jump.isNone then .ready else .done) jump))) := by
              intro jump o1 H1 w3 hm3
              have hm4 : Mem w1 H' (ids (tail .ready none ++ o.flatten)) (o1.flatten ++ ([(lr, Obj.loop { rec .ready none with state := .busy })] ++ [(D, Obj.deferred (some []))])) H1 w3 := by
                refine hmw3.go (K := oa.flatten) (rst := [(lr, Obj.loop { rec .ready none with state := .busy })] ++ [(D, Obj.deferred (some []))]) ?_ hm3
                rw [← List.append_assoc]; exact List.perm_append_comm
              have hl3 : w3.heap[lr]? = some (.loop { rec .ready none with state := .busy }) := hm4.ok.here (lr, Obj.loop { rec .ready none with state := .busy }) (by simp)
              have hap3 : ∀ k, H1 lr k = none := fun k => hm4.ok.apart (lr, Obj.loop { rec .ready none with state := .busy }) (by simp) k
              have hend := run_endRound (P := x.P) jump hl3
              rw [hrec] at hend ⊢
              refine ⟨hend, ?_⟩
              have := hm4.go (K := [(lr, Obj.loop { rec .ready none with state := .busy })]) (rst := o1.flatten ++ [(D, Obj.deferred (some []))]) (by
                refine (List.perm_append_comm (l₁ := o1.flatten)).trans ?_
                rw [List.append_assoc]
                exact List.Perm.append_left _ List.perm_append_comm) (Mem.putObj hm4.agr hl3 hap3 (.loop { rec .ready none with state := if jump.isNone then .ready else .done, pending := jump }))
              rw [hrec] at this
              refine Mem.perm this ?_
              simp only [tail, hrec]
              exact List.Perm.append_left [_] (List.perm_append_comm (l₁ := o1.flatten) (l₂ := [(D, Obj.deferred (some []))]))
            rintro e2 a3 w3 hp
            cases e2 with
            | normal =>
              obtain ⟨s', o1, H1, rfl, hm3, hI1⟩ := hp
              obtain ⟨hend, hm5⟩ := fin none o1 H1 w3 hm3
              exact ⟨_, _, hend, _, H1, rfl, hm5, H1, Hle.refl _, o1, rfl, hI1⟩
            | ret =>
              obtain ⟨t, o1, H1, rfl, hm3, hX1⟩ := hp
              obtain ⟨hend, hm5⟩ := fin (some .ret) o1 H1 w3 hm3
              exact ⟨_, _, hend, _, H1, rfl, hm5, H1, Hle.refl _, o1, .ret, rfl, hX1⟩
            | exit id =>
              obtain ⟨t, o1, H1, rfl, hm3, hX1⟩ := hp
              obtain ⟨hend, hm5⟩ := fin (some (.exit id)) o1 H1 w3 hm3
              exact ⟨_, _, hend, _, H1, rfl, hm5, H1, Hle.refl _, o1, .exit id, rfl, hX1⟩
            | goto t => exact hp.elim
            | panic ch => exact hp.elim
            | outgrown => exact hp.elim
        | exit id => exact hh1.elim
        | goto t => exact hh1.elim
        | ret => exact hh1.elim
        | panic ch => exact hh1.elim
        | outgrown => exact hh1.elim
    -- the iterator
    have hD0 := hit lr I' X' (tail .ready none ++ own2.flatten) hY ⟨H, Hle.refl _, own2, rfl, h0⟩
    have hmW : Mem x.w0 x.H0 x.S (mine ++ [tail .ready none ++ own2.flatten]).flatten H W := by
      refine (show Mem x.w0 x.H0 x.S (tail .ready none ++ own.flatten) H W by simpa [tail, D, lr] using hm2).perm ?_
      rw [hown]
      simp only [List.flatten_append, List.flatten_cons, List.flatten_nil, List.append_nil]
      exact (List.append_assoc (tail .ready none) mine.flatten own2.flatten) ▸ (List.Perm.append_right own2.flatten (List.perm_append_comm (l₁ := tail .ready none) (l₂ := mine.flatten))).trans (by rw [List.append_assoc])
    refine CallsIn.mono (hD0 W hmW.agr hmW.ok) ?_
    rintro e w3 ⟨v, K', H', rfl, ⟨m', O', rfl, hM, hcase⟩, hm3⟩
    have hle : Hle H H' := hm3.le
    have hm4' : Mem x.w0 x.H0 x.S (m' ++ [O']).flatten H' w3 := by
      have := hmW.go (K := (mine ++ [tail .ready none ++ own2.flatten]).flatten) (rst := []) (by simp) hm3
      simpa using this
    obtain ⟨H1, hle1, hcase⟩ := hcase
    have hmk : ∀ (T o : Own), O' = T ++ o → Mem x.w0 x.H0 x.S (T ++ (m'.flatten ++ o)) H' w3 := fun T o e => by
      refine hm4'.perm ?_
      rw [e]
      simp only [List.flatten_append, List.flatten_cons, List.flatten_nil, List.append_nil]
      rw [← List.append_assoc, ← List.append_assoc]
      exact List.Perm.append_right o List.perm_append_comm
    cases tt with
    | inl s =>
      obtain ⟨o, hO, hI⟩ := hcase
      have hm4 := hmk _ _ hO
      have hl3 : w3.heap[lr]? = some (.loop (rec .ready none)) := hm4.ok.here (lr, Obj.loop (rec .ready none)) (by simp [tail])
      have hap3 : ∀ k, H' lr k = none := fun k => hm4.ok.apart (lr, Obj.loop (rec .ready none)) (by simp [tail]) k
      refine ⟨none, _, by have := run_endLoop (P := x.P) hl3 (by rw [hrec]; simp); rw [hrec] at this; exact this, ?_⟩
      have hm5 := hm4.go (K := [(lr, Obj.loop (rec .ready none))]) (rst := [(D, Obj.deferred (some []))] ++ (m'.flatten ++ o.flatten)) (by simp [tail]) (Mem.putObj hm4.agr hl3 hap3 (.loop { rec .ready none with state := .exhausted }))
      rw [hrec] at hm5
      have hDn : x.w0.heap.size ≤ D := hh.mem.kept.size
      refine hdone D s m' o H1 H' hDn rfl hM hle1 hI hle _ _ ⟨hh.size, by simp [hh.ds], hh.slots, ?_⟩
      have hs : ([(D, Obj.deferred (some []))] ++ (m'.flatten ++ o.flatten)).Sublist ([(lr, Obj.loop { rec .ready none with state := .exhausted })] ++ ([(D, Obj.deferred (some []))] ++ (m'.flatten ++ o.flatten))) := List.sublist_append_right _ _
      rw [hrec] at hs
      rw [List.flatten_cons, List.flatten_append]
      exact hm5.sub hs
    | inr e =>
      obtain ⟨o, c, hO, hX⟩ := hcase
      have hm4 := hmk _ _ hO
      have hl3 : w3.heap[lr]? = some (.loop (rec .done (some c))) := hm4.ok.here (lr, Obj.loop (rec .done (some c))) (by simp [tail])
      have hap3 : ∀ k, H' lr k = none := fun k => hm4.ok.apart (lr, Obj.loop (rec .done (some c))) (by simp [tail]) k
      refine ⟨some c, _, by have := run_endLoop (P := x.P) hl3 (by rw [hrec]; simp); rw [hrec] at this; exact this, ?_⟩
      have hm5 := hm4.go (K := [(lr, Obj.loop (rec .done (some c)))]) (rst := [(D, Obj.deferred (some []))] ++ (m'.flatten ++ o.flatten)) (by simp [tail]) (Mem.putObj hm4.agr hl3 hap3 (.loop { rec .done (some c) with state := .exhausted }))
      rw [hrec] at hm5
      have hDn : x.w0.heap.size ≤ D := hh.mem.kept.size
      have hJ := hstop D c e m' o H1 H' hDn rfl hM hle1 hX hle
      have hJ' : c.wpIn (Fw x.r) 0 x.P Q { tmps := a.tmps, defers := mark D :: a.defers } (w3.putObj lr (.loop { rec .done (some c) with state := .exhausted })) := by
        refine hJ _ _ ⟨hh.size, by simp [hh.ds], hh.slots, ?_⟩
        have hs : ([(D, Obj.deferred (some []))] ++ (m'.flatten ++ o.flatten)).Sublist ([(lr, Obj.loop { rec .done (some c) with state := .exhausted })] ++ ([(D, Obj.deferred (some []))] ++ (m'.flatten ++ o.flatten))) := List.sublist_append_right _ _
        rw [hrec] at hs ⊢
        rw [List.flatten_cons, List.flatten_append]
        exact hm5.sub hs
      rw [hFw, hrec] at hJ'
      exact hJ'
end Go.Ow

/- plain functions: what the code computes. -/
namespace Go.Ow
set_option linter.unusedVariables false
set_option linter.unusedSimpArgs false

def dev_cut (p_1 : List Int) : Option (List (List UInt8)) := if (∀ n ∈ p_1, 0 ≤ n) ∧ (p_1.map Int.toNat).sum ≤ LIM ∧ p_1.length ≤ LIM then some (p_1.map fun n => List.replicate n.toNat 0) else none

def dev_place (p_1 : Int) : Option Bool :=
  some (decide ((u64i p_1) < (256 : UInt64)))

def dev_Check_l2 (p_1 : Disk) (s_18 : Bool × Nat) : Option ((Bool × Nat) ⊕ Bool) :=
  cond (decide (((s_18.2 : Nat) : Int) < (p_1.Waits.length : Int))) (idx p_1.Waits ((s_18.2 : Nat) : Int) fun y_22 => cond s_18.1 (Option.bind (dev_place y_22.At) fun x_35 => cond x_35 (some (.inl (decide ((y_22.Data.length : Int) = 256), s_18.2 + 1))) (some (.inl (false, s_18.2 + 1)))) (some (.inl (false, s_18.2 + 1)))) (some (.inr s_18.1))

def dev_Check_l1 (p_1 : Disk) (s_12 : Bool × Nat) : Option ((Bool × Nat) ⊕ Bool) :=
  cond (decide (((s_12.2 : Nat) : Int) < (p_1.Blocks.length : Int))) (idx p_1.Blocks ((s_12.2 : Nat) : Int) fun y_16 => cond s_12.1 (some (.inl (decide ((y_16.length : Int) = 256), s_12.2 + 1))) (some (.inl (false, s_12.2 + 1)))) (some (.inr s_12.1))

def dev_Check (p_1 : Disk) : Option Int :=
  Option.bind (cond (decide ((p_1.Blocks.length : Int) = 256)) (some (decide ((p_1.Waits.length : Int) ≤ 4096))) (some false)) (fun t_5 => Option.bind (loop (dev_Check_l1 p_1) (t_5, 0)) (fun t_9 => Option.bind (loop (dev_Check_l2 p_1) (t_9, 0)) (fun t_15 => cond t_15 (some 0) (some 8))))

def slices_Max_byte_l1 (p_1 : List UInt8) (s_16 : UInt8 × Nat) : Option ((UInt8 × Nat) ⊕ UInt8) :=
  cond (decide (((s_16.2 : Nat) : Int) < (p_1.length : Int))) (idx p_1 ((s_16.2 : Nat) : Int) fun y_20 => some (.inl (maxB s_16.1 y_20, s_16.2 + 1))) (some (.inr s_16.1))

def slices_Max_byte (p_1 : List UInt8) : Option UInt8 :=
  cond (decide ((p_1.length : Int) < 1)) (none) (idx p_1 0 fun y_4 => Option.bind (loop (slices_Max_byte_l1 p_1) (y_4, 1)) (fun t_13 => some t_13))

def unicode_utf8_RuneCount (p_0 : List UInt8) : Option Int := none

def bytes_Index (p_0 : List UInt8) (p_1 : List UInt8) : Option Int := none

def bytes_Count_l1 (p_3 : List UInt8) (s_22 : List UInt8 × Int) : Option ((List UInt8 × Int) ⊕ Int) :=
  Option.bind (bytes_Index s_22.1 p_3) fun x_26 => cond (decide (x_26 = (-1))) (some (.inr s_22.2)) (slc s_22.1 (w64 (x_26 + (p_3.length : Int))) (s_22.1.length : Int) fun m_30 => some (.inl (m_30, w64 (s_22.2 + 1))))

def bytes_Count (p_1 : List UInt8) (p_3 : List UInt8) : Option Int :=
  cond (decide ((p_3.length : Int) = 0)) (Option.bind (unicode_utf8_RuneCount p_1) fun x_6 => some (w64 (x_6 + 1))) (cond (decide ((p_3.length : Int) = 1)) (idx p_3 0 fun y_10 => some ((cntB p_1 y_10 : Nat) : Int)) (Option.bind (loop (bytes_Count_l1 p_3) (p_1, 0)) (fun t_19 => some t_19)))

def space_Check (p_1 : List UInt8) : Option Int :=
  cond (!decide ((p_1.length : Int) = 256)) (some 8) (Option.bind (slices_Max_byte p_1) fun x_4 => cond (decide ((2 : UInt8) < x_4)) (some 8) (slc p_1 0 12 fun m_8 => Option.bind (bytes_Count m_8 ([(1 : UInt8)])) fun x_16 => cond (!decide (x_16 = 12)) (some 8) (some 0)))

def store_Check (p_1 : Store) : Option Int :=
  Option.bind (dev_Check (Disk.mk p_1.Disk.Blocks p_1.Disk.Waits)) fun x_6 => cond (!decide (x_6 = 0)) (some 8) (Option.bind (space_Check p_1.Space) fun x_10 => cond (!decide (x_10 = 0)) (some 8) (cond (decide (p_1.Epoch < (1 : UInt32))) (some 8) (cond (decide ((65535 : UInt32) < p_1.Epoch)) (some 8) (cond (decide ((65535 : UInt32) < p_1.Count)) (some 8) (some 0)))))

def code_sized (p_1 : Int) : Option Bool :=
  Option.bind (cond (decide (0 < p_1)) (some (decide (p_1 ≤ 4))) (some false)) (fun t_2 => some t_2)

def slices_Clone_byte (p_1 : List UInt8) : Option (List UInt8) := app [] p_1 fun q => some q

def slices_Clip_byte (p_1 : List UInt8) : Option (List UInt8) :=
  slc p_1 0 (p_1.length : Int) fun m_3 => some m_3

def slices_Chunk_byte (p_1 : List UInt8) (p_2 : Int) : Option Unit := if 1 ≤ p_2 ∧ p_2 ≤ 1099511627776 ∧ p_1.length ≤ LIM then some () else none

def slices_Backward_byte (p_1 : List UInt8) : Option Unit := some ()

def code_Get_r1 (y_28 : Nat × UInt8) (s_27 : Int) : Option (Int ⊕ Unit) :=
  some (.inl (w64 ((w64 (256 * s_27)) + (y_28.2.toNat : Int))))

def code_Get (p_1 : List UInt8) (p_3 : Int) (p_4 : Int) : Option (Int × Int) :=
  Option.bind (code_sized p_4) fun x_5 => Option.bind (cond (!x_5) (some true) (cond (decide (p_3 < 0)) (some true) (some (decide ((p_1.length : Int) < p_3))))) (fun t_8 => cond t_8 (some (0, 2)) (cond (decide ((p_1.length : Int) < (w64 (p_3 + p_4)))) (some (0, 8)) (slc p_1 p_3 (w64 (p_3 + p_4)) fun m_16 => Option.bind (slices_Backward_byte m_16) fun x_20 => Option.bind (forL code_Get_r1 (bwd m_16 m_16.length) 0) (fun t_24 => Sum.elim (fun s_27 => some (s_27, 0)) (fun _ => none) t_24))))

def mix_number (p_1 : List UInt8) : Option UInt32 :=
  Option.bind (code_Get p_1 0 4) fun x_3 => some (u32i x_3.1)

def math_bits_RotateLeft32 (p_1 : UInt32) (p_2 : Int) : Option UInt32 :=
  some ((sl32 p_1 ((((u64i p_2) &&& (31 : UInt64)).toNat : Int)).toNat) ||| (sr32 p_1 ((((32 : UInt64) - ((u64i p_2) &&& (31 : UInt64))).toNat : Int)).toNat))

def mix_words_turned_1 (p_1 : Int) (p_2 : Int) (p_4 : A4 UInt32) : Option (A4 UInt32) :=
  Option.bind (math_bits_RotateLeft32 (p_4.e3 ^^^ (p_4.e0 + p_4.e1)) p_1) fun x_5 => Option.bind (math_bits_RotateLeft32 (p_4.e1 ^^^ (p_4.e2 + x_5)) p_2) fun x_8 => some (A4.mk (p_4.e0 + p_4.e1) x_8 (p_4.e2 + x_5) x_5)

def mix_words_turned (p_1 : A4 UInt32) : Option (A4 UInt32) :=
  Option.bind (mix_words_turned_1 15 11 p_1) fun x_4 => Option.bind (mix_words_turned_1 9 6 x_4) fun x_7 => some x_7

def mix_words_often_l1 (p_2 : Int) (s_8 : UInt32 × UInt32 × UInt32 × UInt32 × Int) : Option ((UInt32 × UInt32 × UInt32 × UInt32 × Int) ⊕ (UInt32 × UInt32 × UInt32 × UInt32)) :=
  cond (decide (s_8.2.2.2.2 < p_2)) (Option.bind (mix_words_turned (A4.mk s_8.1 s_8.2.1 s_8.2.2.1 s_8.2.2.2.1)) fun x_12 => some (.inl (x_12.e0, x_12.e1, x_12.e2, x_12.e3, w64 (s_8.2.2.2.2 + 1)))) (some (.inr (s_8.1, s_8.2.1, s_8.2.2.1, s_8.2.2.2.1)))

def mix_words_often (p_1 : A4 UInt32) (p_2 : Int) : Option (A4 UInt32) :=
  Option.bind (loop (mix_words_often_l1 p_2) (p_1.e0, p_1.e1, p_1.e2, p_1.e3, 0)) (fun t_5 => some (A4.mk t_5.1 t_5.2.1 t_5.2.2.1 t_5.2.2.2))

def mix_four_r2 (y_36 : List UInt8) (s_35 : UInt32 × UInt32 × UInt32 × UInt32) : Option ((UInt32 × UInt32 × UInt32 × UInt32) ⊕ Unit) :=
  Option.bind (slc y_36 0 4 fun m_45 => Option.bind (mix_number m_45) fun x_49 => some (s_35.1 ^^^ x_49)) (fun t_42 => slc y_36 4 (y_36.length : Int) fun m_56 => Option.bind (mix_number m_56) fun x_60 => Option.bind (mix_words_often (A4.mk t_42 s_35.2.1 (s_35.2.2.1 ^^^ x_60) s_35.2.2.2) 4) fun x_63 => some (.inl (x_63.e0, x_63.e1, x_63.e2, x_63.e3)))

def mix_four_l1 (s_22 : List UInt8) : Option ((List UInt8) ⊕ (List UInt8)) :=
  cond (!decide (((s_22.length : Int).tmod 8) = 0)) (app s_22 ([(0 : UInt8)]) fun q_28 => some (.inl q_28)) (some (.inr s_22))

def mix_four (p_1 : List UInt8) : Option (A4 UInt32) :=
  Option.bind (slices_Clone_byte p_1) fun x_5 => Option.bind (slices_Clip_byte x_5) fun x_10 => app x_10 ([(1 : UInt8)]) fun q_15 => Option.bind (loop mix_four_l1 q_15) (fun t_19 => Option.bind (slices_Chunk_byte t_19 8) fun x_28 => Option.bind (forL mix_four_r2 (chunks (8 : Int).toNat t_19.length t_19) ((1 : UInt32), (2 : UInt32), (3 : UInt32), (4 : UInt32))) (fun t_32 => Sum.elim (fun s_35 => Option.bind (mix_words_often (A4.mk s_35.1 (s_35.2.1 ^^^ (u32i (p_1.length : Int))) s_35.2.2.1 s_35.2.2.2) 8) fun x_42 => some x_42) (fun _ => none) t_32))

def mix_Sum (p_1 : List UInt8) : Option UInt32 :=
  Option.bind (mix_four p_1) fun x_3 => some x_3.e0

def bytes_Clone (p_1 : List UInt8) : Option (List UInt8) := app [] p_1 fun q => some q

def dev_Twin_l3 (p_1 : Disk) (s_30 : List Write × Nat) : Option ((List Write × Nat) ⊕ (List Write)) :=
  cond (decide (((s_30.2 : Nat) : Int) < (p_1.Waits.length : Int))) (idx p_1.Waits ((s_30.2 : Nat) : Int) fun y_36 => Option.bind (bytes_Clone y_36.Data) fun x_48 => app s_30.1 ([Write.mk y_36.At x_48]) fun q_54 => some (.inl (q_54, s_30.2 + 1))) (some (.inr s_30.1))

def dev_Twin_l2 (p_1 : Disk) (s_22 : List (List UInt8) × Nat) : Option ((List (List UInt8) × Nat) ⊕ (List (List UInt8))) :=
  cond (decide (((s_22.2 : Nat) : Int) < (p_1.Blocks.length : Int))) (idx p_1.Blocks ((s_22.2 : Nat) : Int) fun y_27 => idx s_22.1 ((s_22.2 : Nat) : Int) fun y_38 => chk (y_27.length = y_38.length) <| setI s_22.1 ((s_22.2 : Nat) : Int) y_27 fun m_51 => some (.inl (m_51, s_22.2 + 1))) (some (.inr s_22.1))

def dev_Twin_l1 (p_1 : Disk) (s_9 : List Int × Nat) : Option ((List Int × Nat) ⊕ (List Int)) :=
  cond (decide (((s_9.2 : Nat) : Int) < (p_1.Blocks.length : Int))) (idx p_1.Blocks ((s_9.2 : Nat) : Int) fun y_14 => app s_9.1 ([(y_14.length : Int)]) fun q_26 => some (.inl (q_26, s_9.2 + 1))) (some (.inr s_9.1))

def dev_Twin (p_1 : Disk) : Option Disk :=
  Option.bind (loop (dev_Twin_l1 p_1) (([] : List Int), 0)) (fun t_6 => Option.bind (dev_cut t_6) fun x_15 => Option.bind (loop (dev_Twin_l2 p_1) (x_15, 0)) (fun t_19 => Option.bind (loop (dev_Twin_l3 p_1) (([] : List Write), 0)) (fun t_27 => some (Disk.mk t_19 t_27))))

def ptr_Check (p_1 : Ptr) : Option Int :=
  cond (decide (p_1.At = 0) && (decide (p_1.Birth = (0 : UInt32)) && (decide (p_1.Iv = (0 : UInt32)) && (decide (p_1.Tag = (0 : UInt32)) && (decide (p_1.Sum = (0 : UInt32)) && true))))) (some 0) (cond (decide (p_1.At < 12)) (some 8) (cond (decide (256 ≤ p_1.At)) (some 8) (cond (decide (p_1.Birth < (1 : UInt32))) (some 8) (cond (decide ((16777215 : UInt32) < p_1.Birth)) (some 8) (some 0)))))

def slices_Clone_byte_L (p_1 : List (List UInt8)) : Option (List (List UInt8)) := app [] p_1 fun q => some q

def dev_all (p_1 : Int) : Option Bool :=
  some true

def dev_lasts_l1 (p_1 : Disk) (s_9 : (List (Int × Write)) × Nat) : Option (((List (Int × Write)) × Nat) ⊕ (List (Int × Write))) :=
  cond (decide (((s_9.2 : Nat) : Int) < (p_1.Waits.length : Int))) (idx p_1.Waits ((s_9.2 : Nat) : Int) fun y_14 => Option.bind (dev_all ((s_9.2 : Nat) : Int)) fun x_26 => cond x_26 (some (.inl ((putM s_9.1 y_14.At y_14), s_9.2 + 1))) (some (.inl (s_9.1, s_9.2 + 1)))) (some (.inr s_9.1))

def dev_lasts (p_1 : Disk) : Option (List (Int × Write)) :=
  Option.bind (loop (dev_lasts_l1 p_1) (([] : List (Int × Write)), 0)) (fun t_6 => some t_6)

def dev_left (p_1 : Disk) : Option Disk :=
  Option.bind (Option.bind (slices_Clone_byte_L p_1.Blocks) fun x_9 => some x_9) (fun t_6 => Option.bind (dev_lasts (Disk.mk t_6 p_1.Waits)) fun x_22 => layR (fun y : Write => y.Data) t_6 x_22 fun m_30 => Option.bind (dev_Twin (Disk.mk m_30 ([] : List Write))) fun x_50 => some x_50)

def dev_Read_1 (p_2 : Disk) : Option (Disk × Disk) :=
  Option.bind (dev_left p_2) fun x_6 => some (x_6, p_2)

def dev_guarded_v2 (p_1 : Disk) (p_4 : Bool) (p_6 : Disk) : Option (Disk × Int × Disk) :=
  Option.bind (dev_Check p_1) fun x_11 => cond (!decide (x_11 = 0)) (some (Disk.mk ([] : List (List UInt8)) ([] : List Write), x_11, p_6)) (cond (!p_4) (some (Disk.mk ([] : List (List UInt8)) ([] : List Write), 2, p_6)) (Option.bind (dev_Read_1 p_6) fun x_16 => some (x_16.1, 0, x_16.2)))

def dev_Read (p_1 : Disk) (p_4 : Int) : Option (List UInt8 × Int) :=
  Option.bind (Option.bind (dev_place p_4) fun x_9 => Option.bind (dev_guarded_v2 p_1 x_9 p_1) fun x_12 => some (x_12.1.Blocks, x_12.1.Waits, x_12.2.1)) (fun t_6 => cond (!decide (t_6.2.2 = 0)) (some (([] : List UInt8), t_6.2.2)) (idx t_6.1 p_4 fun y_25 => some (y_25, 0)))

def store_Look (p_1 : Store) (p_5 : Ptr) : Option (List UInt8 × Int) :=
  Option.bind (store_Check p_1) fun x_8 => cond (!decide (x_8 = 0)) (some (([] : List UInt8), 8)) (Option.bind (ptr_Check p_5) fun x_12 => cond (!decide (x_12 = 0)) (some (([] : List UInt8), 8)) (cond (decide (p_5.At = 0) && (decide (p_5.Birth = (0 : UInt32)) && (decide (p_5.Iv = (0 : UInt32)) && (decide (p_5.Tag = (0 : UInt32)) && (decide (p_5.Sum = (0 : UInt32)) && true))))) (some (([] : List UInt8), 6)) (Option.bind (dev_Read (Disk.mk p_1.Disk.Blocks p_1.Disk.Waits) p_5.At) fun x_17 => Option.bind (cond (decide (x_17.2 = 0)) (Option.bind (mix_Sum x_17.1) fun x_25 => cond (!decide (x_25 = p_5.Sum)) (some (([] : List UInt8), 130)) (some (x_17.1, x_17.2))) (some (x_17.1, x_17.2))) (fun t_21 => some (t_21.1, t_21.2)))))

def ref09_Great_l2 (p_1 : Disk) (s_22 : Int × Nat) : Option ((Int × Nat) ⊕ Int) :=
  cond (decide (((s_22.2 : Nat) : Int) < (p_1.Waits.length : Int))) (cond (decide (s_22.1 < 2000000)) (idx p_1.Waits ((s_22.2 : Nat) : Int) fun y_27 => some (.inl (w64 (s_22.1 + (y_27.Data.length : Int)), s_22.2 + 1))) (some (.inr s_22.1))) (some (.inr s_22.1))

def ref09_Great_l1 (p_1 : Disk) (s_16 : Int × Nat) : Option ((Int × Nat) ⊕ Int) :=
  cond (decide (((s_16.2 : Nat) : Int) < (p_1.Blocks.length : Int))) (cond (decide (s_16.1 < 2000000)) (idx p_1.Blocks ((s_16.2 : Nat) : Int) fun y_21 => some (.inl (w64 (s_16.1 + (y_21.length : Int)), s_16.2 + 1))) (some (.inr s_16.1))) (some (.inr s_16.1))

def ref09_Great (p_1 : Disk) : Option Bool :=
  Option.bind (cond (decide (500 < (p_1.Blocks.length : Int))) (some (.inr ())) (cond (decide (500 < (p_1.Waits.length : Int))) (cond (decide ((p_1.Waits.length : Int) < 4096)) (some (.inr ())) (cond (decide (4106 < (p_1.Waits.length : Int))) (some (.inr ())) (some (.inl ())))) (cond (decide (4106 < (p_1.Waits.length : Int))) (some (.inr ())) (some (.inl ()))))) (fun t_5 => Sum.elim (fun t_5a => Option.bind (loop (ref09_Great_l1 p_1) (0, 0)) (fun t_13 => Option.bind (loop (ref09_Great_l2 p_1) (t_13, 0)) (fun t_19 => some (decide (2000000 ≤ t_19))))) (fun t_5b => some true) t_5)

def ref13_Great (p_1 : Store) : Option Bool :=
  Option.bind (Option.bind (ref09_Great (Disk.mk p_1.Disk.Blocks p_1.Disk.Waits)) fun x_9 => cond x_9 (some true) (some (decide (10000 < (p_1.Space.length : Int))))) (fun t_6 => some t_6)

end Go.Ow

/- that new memory's bytes do not matter to bytes.Repeat. -/
namespace Go.Ow
set_option linter.unusedVariables false
set_option linter.unusedSimpArgs false

theorem run_go {σ τ : Type} {body : σ → Option (σ ⊕ τ)} {n : Nat} {s s' : σ} (h : body s = some (.inl s')) : run body (n + 1) s = run body n s' := by
  show Option.bind (body s) _ = _
  rw [h]; rfl
end Go.Ow

/- plain functions: what the code computes. -/
namespace Go.Ow
set_option linter.unusedVariables false
set_option linter.unusedSimpArgs false

end Go.Ow

/- plain functions: what the code computes. -/
namespace Go.Ow
set_option linter.unusedVariables false
set_option linter.unusedSimpArgs false

def obj_Check_1 (p_1 : Int) (p_2 : Int) (p_3 : Int) : Option Bool :=
  Option.bind (cond (decide (p_2 ≤ p_1)) (some (decide (p_1 ≤ p_3))) (some false)) (fun t_4 => some t_4)

def obj_Check_2 (p_1 : Ptr) : Option Bool :=
  Option.bind (ptr_Check p_1) fun x_3 => some (!decide (x_3 = 0))

def slices_IndexFunc_Ptr_l1 (p_1 : List Ptr) (s_6 : Nat) : Option (Nat ⊕ (Unit ⊕ Int)) :=
  cond (decide (((s_6 : Nat) : Int) < (p_1.length : Int))) (idx p_1 ((s_6 : Nat) : Int) fun y_10 => Option.bind (obj_Check_2 y_10) fun x_19 => cond x_19 (some (.inr (.inr ((s_6 : Nat) : Int)))) (some (.inl (s_6 + 1)))) (some (.inr (.inl ())))

def slices_IndexFunc_Ptr (p_1 : List Ptr) : Option Int :=
  Option.bind (loop (slices_IndexFunc_Ptr_l1 p_1) 0) (fun t_3 => Sum.elim (fun t_3a => some (-1)) (fun t_3b => some t_3b) t_3)

def slices_ContainsFunc_Ptr (p_1 : List Ptr) : Option Bool :=
  Option.bind (slices_IndexFunc_Ptr p_1) fun x_3 => some (decide (0 ≤ x_3))

def obj_Check (p_1 : Object) : Option Int :=
  Option.bind (obj_Check_1 (p_1.Kind.toNat : Int) 1 7) fun x_4 => cond (!x_4) (some 8) (Option.bind (obj_Check_1 p_1.Links 0 255) fun x_8 => cond (!x_8) (some 8) (Option.bind (obj_Check_1 p_1.Size 0 3840) fun x_12 => cond (!x_12) (some 8) (cond (!decide ((p_1.Data.length : Int) = 15)) (some 8) (Option.bind (slices_ContainsFunc_Ptr p_1.Data) fun x_17 => cond x_17 (some 8) (some 0)))))

def ptr_sizes : Option (A5 Int) :=
  some (A5.mk 1 3 4 4 4)

def set_young (p_1 : Store) (p_5 : Ptr) (p_6 : UInt32) (p_8 : Int) : Option ((Int × UInt32 × UInt32 × UInt32 × UInt32 × UInt32 × List (List UInt8) × List Write × List UInt8 × UInt32 × UInt32) × Int) :=
  some ((p_5.At, p_5.Birth, p_5.Iv, p_5.Tag, p_5.Sum, p_6, p_1.Disk.Blocks, p_1.Disk.Waits, p_1.Space, p_1.Epoch, p_1.Count), p_8)

def ptr_Read_l1 (p_1 : List UInt8) (x_6 : A5 Int) (s_12 : Int × Int × Int × Int × Int × Int × Nat) : Option ((Int × Int × Int × Int × Int × Int × Nat) ⊕ (Int × Int × Int × Int × Int)) :=
  cond (decide (((s_12.2.2.2.2.2.2 : Nat) : Int) < 5)) (idx x_6.l ((s_12.2.2.2.2.2.2 : Nat) : Int) fun y_17 => Option.bind (code_Get p_1 s_12.2.2.2.2.2.1 y_17) fun x_19 => chk (0 ≤ ((s_12.2.2.2.2.2.2 : Nat) : Int) ∧ ((s_12.2.2.2.2.2.2 : Nat) : Int).toNat < 5) <| A5.setI (A5.mk s_12.1 s_12.2.1 s_12.2.2.1 s_12.2.2.2.1 s_12.2.2.2.2.1) ((s_12.2.2.2.2.2.2 : Nat) : Int) x_19.1 fun m_23 => some (.inl (m_23.e0, m_23.e1, m_23.e2, m_23.e3, m_23.e4, w64 (s_12.2.2.2.2.2.1 + y_17), s_12.2.2.2.2.2.2 + 1))) (some (.inr (s_12.1, s_12.2.1, s_12.2.2.1, s_12.2.2.2.1, s_12.2.2.2.2.1)))

def ptr_Read (p_1 : List UInt8) : Option (Ptr × Int) :=
  cond (!decide ((p_1.length : Int) = 16)) (some (Ptr.mk 0 (0 : UInt32) (0 : UInt32) (0 : UInt32) (0 : UInt32), 3)) (Option.bind (ptr_sizes) fun x_6 => Option.bind (loop (ptr_Read_l1 p_1 x_6) (0, 0, 0, 0, 0, 0, 0)) (fun t_9 => Option.bind (ptr_Check (Ptr.mk t_9.1 (u32i t_9.2.1) (u32i t_9.2.2.1) (u32i t_9.2.2.2.1) (u32i t_9.2.2.2.2))) fun x_17 => cond (!decide (x_17 = 0)) (some (Ptr.mk 0 (0 : UInt32) (0 : UInt32) (0 : UInt32) (0 : UInt32), x_17)) (some (Ptr.mk t_9.1 (u32i t_9.2.1) (u32i t_9.2.2.1) (u32i t_9.2.2.2.1) (u32i t_9.2.2.2.2), 0))))

def ptr_Rows_r1 (y_14 : List UInt8) (s_13 : List Ptr) : Option ((List Ptr) ⊕ Int) :=
  Option.bind (ptr_Read y_14) fun x_21 => cond (!decide (x_21.2 = 0)) (some (.inr x_21.2)) (app s_13 ([x_21.1]) fun q_27 => some (.inl q_27))

def ptr_Rows (p_1 : List UInt8) : Option (List Ptr × Int) :=
  cond (!decide ((p_1.length : Int) = 256)) (some (([] : List Ptr), 3)) (Option.bind (slices_Chunk_byte p_1 16) fun x_6 => Option.bind (forL ptr_Rows_r1 (chunks (16 : Int).toNat p_1.length p_1) ([] : List Ptr)) (fun t_10 => Sum.elim (fun s_13 => some (s_13, 0)) (fun t_10e0 => some (([] : List Ptr), t_10e0)) t_10))

def set_Ptrs (p_1 : Store) (p_5 : Ptr) : Option (List Ptr × Int) :=
  Option.bind (store_Check p_1) fun x_8 => cond (!decide (x_8 = 0)) (some (([] : List Ptr), 8)) (Option.bind (ptr_Check p_5) fun x_12 => cond (!decide (x_12 = 0)) (some (([] : List Ptr), 8)) (cond (decide (p_5.At = 0) && (decide (p_5.Birth = (0 : UInt32)) && (decide (p_5.Iv = (0 : UInt32)) && (decide (p_5.Tag = (0 : UInt32)) && (decide (p_5.Sum = (0 : UInt32)) && true))))) (mks 16 (Ptr.mk 0 (0 : UInt32) (0 : UInt32) (0 : UInt32) (0 : UInt32)) fun x_19 => some (x_19, 0)) (Option.bind (store_Look p_1 p_5) fun x_21 => cond (!decide (x_21.2 = 0)) (some (([] : List Ptr), x_21.2)) (Option.bind (ptr_Rows x_21.1) fun x_26 => cond (!decide (x_26.2 = 0)) (some (([] : List Ptr), 8)) (some (x_26.1, 0))))))

def obj_Read (p_1 : List UInt8) : Option (Object × Int) :=
  cond (!decide ((p_1.length : Int) = 256)) (some (Object.mk (0 : UInt8) 0 0 ([] : List Ptr), 3)) (A16.first 0 p_1 fun m_5 => slc p_1 16 (p_1.length : Int) fun m_14 => app m_14 (List.replicate 16 (0 : UInt8)) fun q_18 => Option.bind (ptr_Rows q_18) fun x_25 => cond (!decide (x_25.2 = 0)) (some (Object.mk (0 : UInt8) 0 0 ([] : List Ptr), 8)) (cond (!decide (([m_5.e4, m_5.e5, m_5.e6, m_5.e7, m_5.e8, m_5.e9, m_5.e10, m_5.e11, m_5.e12, m_5.e13, m_5.e14, m_5.e15] : List UInt8) = [(0 : UInt8), (0 : UInt8), (0 : UInt8), (0 : UInt8), (0 : UInt8), (0 : UInt8), (0 : UInt8), (0 : UInt8), (0 : UInt8), (0 : UInt8), (0 : UInt8), (0 : UInt8)])) (some (Object.mk (0 : UInt8) 0 0 ([] : List Ptr), 8)) (Option.bind (code_Get p_1 2 2) fun x_32 => slc x_25.1 0 15 fun m_36 => Option.bind (obj_Check (Object.mk m_5.e0 (m_5.e1.toNat : Int) x_32.1 m_36)) fun x_40 => cond (!decide (x_40 = 0)) (some (Object.mk (0 : UInt8) 0 0 ([] : List Ptr), 8)) (some (Object.mk m_5.e0 (m_5.e1.toNat : Int) x_32.1 m_36, 0)))))

def set_one (p_1 : Store) (p_5 : Ptr) : Option (Object × Int) :=
  Option.bind (store_Look p_1 p_5) fun x_9 => cond (!decide (x_9.2 = 0)) (some (Object.mk (0 : UInt8) 0 0 ([] : List Ptr), x_9.2)) (Option.bind (obj_Read x_9.1) fun x_14 => cond (!decide (x_14.2 = 0)) (some (Object.mk (0 : UInt8) 0 0 ([] : List Ptr), 8)) (some (x_14.1, 0)))

def set_young_1_l1 {σ τ : Type} (p_1 : Ptr → σ → Option (σ ⊕ τ)) (p_6 : UInt32) (x_52 : Object × Int) (s_67 : σ × Nat) : Option ((σ × Nat) ⊕ (σ ⊕ τ)) :=
  cond (decide (((s_67.2 : Nat) : Int) < (x_52.1.Data.length : Int))) (idx x_52.1.Data ((s_67.2 : Nat) : Int) fun y_74 => cond (decide (p_6 < y_74.Birth)) (Option.bind (p_1 y_74 s_67.1) fun out_85 => Sum.elim (fun s_87 => some (.inl (s_87, s_67.2 + 1))) (fun t_88 => some (.inr (.inr t_88))) out_85) (some (.inl ((s_67.1), s_67.2 + 1)))) (some (.inr (.inl (s_67.1))))

def set_young_1_l2 {σ τ : Type} (p_1 : Ptr → σ → Option (σ ⊕ τ)) (p_6 : UInt32) (p_8 : Store) (x_16 : List Ptr × Int) (s_31 : σ × Int × Nat) : Option ((σ × Int × Nat) ⊕ ((σ × Int) ⊕ ((σ ⊕ τ) × Int))) :=
  cond (decide (((s_31.2.2 : Nat) : Int) < (x_16.1.length : Int))) (idx x_16.1 ((s_31.2.2 : Nat) : Int) fun y_38 => cond (decide (y_38.Birth ≤ p_6)) (some (.inl ((s_31.1), s_31.2.1, s_31.2.2 + 1))) (Option.bind (set_one p_8 y_38) fun x_52 => cond (!decide (x_52.2 = 0)) (some (.inr (.inr (.inl (s_31.1), x_52.2)))) (Option.bind (p_1 y_38 s_31.1) fun out_57 => Sum.elim (fun s_59 => Option.bind (loop (set_young_1_l1 p_1 p_6 x_52) (s_59, 0)) (fun t_64 => Sum.elim (fun t_64a => some (.inl ((t_64a), x_52.2, s_31.2.2 + 1))) (fun t_64b => some (.inr (.inr (.inr (t_64b), x_52.2)))) t_64)) (fun t_60 => some (.inr (.inr (.inr t_60, x_52.2)))) out_57))) (some (.inr (.inl ((s_31.1), s_31.2.1))))

def set_young_1 {σ τ : Type} (p_1 : Ptr → σ → Option (σ ⊕ τ)) (p_2 : σ) (p_4 : Ptr) (p_6 : UInt32) (p_8 : Store) (p_14 : Int) : Option ((σ ⊕ τ) × Int) :=
  cond (decide (p_4.Birth ≤ p_6)) (some (.inl p_2, p_14)) (Option.bind (set_Ptrs p_8 p_4) fun x_16 => cond (!decide (x_16.2 = 0)) (some (.inl p_2, x_16.2)) (Option.bind (p_1 p_4 p_2) fun out_21 => Sum.elim (fun s_23 => Option.bind (loop (set_young_1_l2 p_1 p_6 p_8 x_16) (s_23, x_16.2, 0)) (fun t_28 => Sum.elim (fun t_28a => some (.inl (t_28a.1), t_28a.2)) (fun t_28b => some (t_28b.1, t_28b.2)) t_28)) (fun t_24 => some (.inr t_24, x_16.2)) out_21))

def slices_AppendSeq_Ptr_r1 (y_20 : Ptr) (s_19 : List Ptr) : Option ((List Ptr) ⊕ Unit) :=
  app s_19 ([y_20]) fun q_33 => some (.inl q_33)

def slices_AppendSeq_Ptr (p_1 : List Ptr) (p_4 : Ptr) (p_6 : UInt32) (p_8 : Store) (p_14 : Int) : Option (List Ptr × Ptr × UInt32 × Store × Int) :=
  Option.bind (set_young_1 slices_AppendSeq_Ptr_r1 p_1 p_4 p_6 p_8 p_14) (fun t_16 => Sum.elim (fun s_19 => some (s_19, p_4, p_6, p_8, t_16.2)) (fun _ => none) t_16.1)

def slices_Collect_Ptr (p_2 : Ptr) (p_4 : UInt32) (p_6 : Store) (p_12 : Int) : Option (List Ptr × Ptr × UInt32 × Store × Int) :=
  Option.bind (slices_AppendSeq_Ptr ([] : List Ptr) p_2 p_4 p_6 p_12) fun x_14 => some (x_14.1, x_14.2.1, x_14.2.2.1, x_14.2.2.2.1, x_14.2.2.2.2)

def set_Walk (p_1 : Store) (p_5 : Ptr) (p_6 : UInt32) : Option (List Ptr × Int) :=
  Option.bind (store_Check p_1) fun x_9 => cond (!decide (x_9 = 0)) (some (([] : List Ptr), 8)) (Option.bind (ptr_Check p_5) fun x_13 => cond (!decide (x_13 = 0)) (some (([] : List Ptr), 8)) (Option.bind (set_young p_1 p_5 p_6 0) fun x_18 => Option.bind (slices_Collect_Ptr (Ptr.mk x_18.1.1 x_18.1.2.1 x_18.1.2.2.1 x_18.1.2.2.2.1 x_18.1.2.2.2.2.1) x_18.1.2.2.2.2.2.1 (Store.mk (Disk.mk x_18.1.2.2.2.2.2.2.1 x_18.1.2.2.2.2.2.2.2.1) x_18.1.2.2.2.2.2.2.2.2.1 x_18.1.2.2.2.2.2.2.2.2.2.1 x_18.1.2.2.2.2.2.2.2.2.2.2) x_18.2) fun x_28 => cond (!decide (x_28.2.2.2.2 = 0)) (some (([] : List Ptr), x_28.2.2.2.2)) (some (x_28.1, 0))))

def set_Object (p_1 : Store) (p_5 : Ptr) (p_6 : Int) : Option (Object × Int) :=
  Option.bind (store_Check p_1) fun x_10 => cond (!decide (x_10 = 0)) (some (Object.mk (0 : UInt8) 0 0 ([] : List Ptr), 8)) (Option.bind (ptr_Check p_5) fun x_14 => cond (!decide (x_14 = 0)) (some (Object.mk (0 : UInt8) 0 0 ([] : List Ptr), 8)) (cond (decide (p_6 < 0)) (some (Object.mk (0 : UInt8) 0 0 ([] : List Ptr), 2)) (cond (decide (16 ≤ p_6)) (some (Object.mk (0 : UInt8) 0 0 ([] : List Ptr), 2)) (Option.bind (set_Ptrs p_1 p_5) fun x_20 => cond (!decide (x_20.2 = 0)) (some (Object.mk (0 : UInt8) 0 0 ([] : List Ptr), x_20.2)) (idx x_20.1 p_6 fun y_25 => Option.bind (set_one p_1 y_25) fun x_36 => some (x_36.1, x_36.2))))))

end Go.Ow

/- plain functions: what the code computes. -/
namespace Go.Ow
set_option linter.unusedVariables false
set_option linter.unusedSimpArgs false

def ref09_Twin_l2 (p_1 : Disk) (s_44 : List WriteO × Nat) : Option ((List WriteO × Nat) ⊕ (List WriteO)) :=
  cond (decide (((s_44.2 : Nat) : Int) < (p_1.Waits.length : Int))) (idx p_1.Waits ((s_44.2 : Nat) : Int) fun y_50 => idx s_44.1 ((s_44.2 : Nat) : Int) fun y_61 => setI s_44.1 ((s_44.2 : Nat) : Int) (WriteO.mk y_50.At y_61.Data) fun m_74 => idx p_1.Waits ((s_44.2 : Nat) : Int) fun y_78 => idx m_74 ((s_44.2 : Nat) : Int) fun y_89 => chkN y_89.Data <| app ([] : List UInt8) y_78.Data fun q_104 => idx m_74 ((s_44.2 : Nat) : Int) fun y_108 => setI m_74 ((s_44.2 : Nat) : Int) (WriteO.mk y_108.At (some q_104)) fun m_122 => some (.inl (m_122, s_44.2 + 1))) (some (.inr s_44.1))

def ref09_Twin_l1 (p_1 : Disk) (s_34 : List (Option (List UInt8)) × Nat) : Option ((List (Option (List UInt8)) × Nat) ⊕ (List (Option (List UInt8)))) :=
  cond (decide (((s_34.2 : Nat) : Int) < (p_1.Blocks.length : Int))) (idx p_1.Blocks ((s_34.2 : Nat) : Int) fun y_40 => idx s_34.1 ((s_34.2 : Nat) : Int) fun y_51 => chkN y_51 <| app ([] : List UInt8) y_40 fun q_66 => chk (0 ≤ ((s_34.2 : Nat) : Int) ∧ ((s_34.2 : Nat) : Int).toNat < s_34.1.length) <| setI s_34.1 ((s_34.2 : Nat) : Int) (some q_66) fun m_75 => some (.inl (m_75, s_34.2 + 1))) (some (.inr s_34.1))

def ref09_Twin (p_1 : Disk) : Option Disk :=
  Option.bind (mks (p_1.Blocks.length : Int) (none : Option (List UInt8)) fun x_11 => mks (p_1.Waits.length : Int) (WriteO.mk 0 (none : Option (List UInt8))) fun x_15 => some (x_11, x_15)) (fun t_6 => Option.bind (loop (ref09_Twin_l1 p_1) (t_6.1, 0)) (fun t_31 => Option.bind (loop (ref09_Twin_l2 p_1) (t_6.2, 0)) (fun t_41 => some (Disk.mk ((t_31).map (fun y => y.getD [])) ((t_41).map WriteO.w)))))

def ref13_Twin (p_1 : Store) : Option Store :=
  Option.bind (ref09_Twin (Disk.mk p_1.Disk.Blocks p_1.Disk.Waits)) fun x_7 => app ([] : List UInt8) p_1.Space fun q_13 => some (Store.mk (Disk.mk x_7.Blocks x_7.Waits) q_13 p_1.Epoch p_1.Count)

def ref09_place (p_1 : Int) : Option Bool :=
  Option.bind (cond (decide (0 ≤ p_1)) (some (decide (p_1 < 256))) (some false)) (fun t_2 => some t_2)

def ref09_May_l2 (p_1 : Disk) (s_14 : Int × Nat) : Option ((Int × Nat) ⊕ Int) :=
  cond (decide (((s_14.2 : Nat) : Int) < (p_1.Waits.length : Int))) (cond (decide (((s_14.2 : Nat) : Int) ≤ 4096)) (idx p_1.Waits ((s_14.2 : Nat) : Int) fun y_19 => cond (!decide ((y_19.Data.length : Int) = 256)) (some (.inl (w64 (s_14.1 + 1), s_14.2 + 1))) (idx p_1.Waits ((s_14.2 : Nat) : Int) fun y_31 => Option.bind (ref09_place y_31.At) fun x_42 => cond (!x_42) (some (.inl (w64 (s_14.1 + 1), s_14.2 + 1))) (some (.inl (s_14.1, s_14.2 + 1))))) (some (.inr s_14.1))) (some (.inr s_14.1))

def ref09_May_l1 (p_1 : Disk) (s_8 : Int × Nat) : Option ((Int × Nat) ⊕ Int) :=
  cond (decide (((s_8.2 : Nat) : Int) < (p_1.Blocks.length : Int))) (cond (decide (((s_8.2 : Nat) : Int) ≤ 256)) (idx p_1.Blocks ((s_8.2 : Nat) : Int) fun y_13 => cond (!decide ((y_13.length : Int) = 256)) (some (.inl (w64 (s_8.1 + 1), s_8.2 + 1))) (some (.inl (s_8.1, s_8.2 + 1)))) (some (.inr s_8.1))) (some (.inr s_8.1))

def ref09_May (p_1 : Disk) : Option Bool :=
  Option.bind (loop (ref09_May_l1 p_1) (0, 0)) (fun t_5 => Option.bind (loop (ref09_May_l2 p_1) (t_5, 0)) (fun t_11 => Option.bind (cond (decide (t_11 = 0)) (cond (decide ((p_1.Blocks.length : Int) = 256)) (some (decide ((p_1.Waits.length : Int) ≤ 4096))) (some false)) (some false)) (fun t_17 => some t_17)))

def ref12_May_l1 (p_1 : List UInt8) (s_7 : Nat) : Option (Nat ⊕ (Unit ⊕ Unit)) :=
  cond (decide (((s_7 : Nat) : Int) < 256)) (idx p_1 ((s_7 : Nat) : Int) fun y_11 => cond (decide ((2 : UInt8) < y_11)) (some (.inr (.inr ()))) (cond (decide (((s_7 : Nat) : Int) < 12)) (idx p_1 ((s_7 : Nat) : Int) fun y_22 => cond (!decide (y_22 = (1 : UInt8))) (some (.inr (.inr ()))) (some (.inl (s_7 + 1)))) (some (.inl (s_7 + 1))))) (some (.inr (.inl ())))

def ref12_May (p_1 : List UInt8) : Option Bool :=
  cond (!decide ((p_1.length : Int) = 256)) (some false) (Option.bind (loop (ref12_May_l1 p_1) 0) (fun t_4 => Sum.elim (fun t_4a => some true) (fun t_4b => some false) t_4))

def ref13_May (p_1 : Store) : Option Bool :=
  Option.bind (Option.bind (ref09_May (Disk.mk p_1.Disk.Blocks p_1.Disk.Waits)) fun x_9 => cond x_9 (Option.bind (ref12_May p_1.Space) fun x_13 => cond x_13 (cond (decide ((1 : UInt32) ≤ p_1.Epoch)) (cond (decide (p_1.Epoch ≤ (65535 : UInt32))) (some (decide (p_1.Count ≤ (65535 : UInt32)))) (some false)) (some false)) (some false)) (some false)) (fun t_6 => some t_6)

def ref10_None (p_1 : Ptr) : Option Bool :=
  some (decide (p_1.At = 0) && (decide (p_1.Birth = (0 : UInt32)) && (decide (p_1.Iv = (0 : UInt32)) && (decide (p_1.Tag = (0 : UInt32)) && (decide (p_1.Sum = (0 : UInt32)) && true)))))

def ref10_May (p_1 : Ptr) : Option Bool :=
  Option.bind (Option.bind (ref10_None p_1) fun x_6 => cond x_6 (some true) (cond (decide (12 ≤ p_1.At)) (cond (decide (p_1.At < 256)) (cond (decide ((1 : UInt32) ≤ p_1.Birth)) (some (decide (p_1.Birth ≤ (16777215 : UInt32)))) (some false)) (some false)) (some false))) (fun t_3 => some t_3)

def ref15_may (p_1 : Store) (p_5 : Ptr) : Option Bool :=
  Option.bind (Option.bind (ref13_May p_1) fun x_11 => cond x_11 (Option.bind (ref10_May p_5) fun x_15 => some x_15) (some false)) (fun t_8 => some t_8)

def ref09_last_l1 (p_1 : Disk) (p_4 : List Bool) (p_6 : Int) (s_11 : Int) : Option (Int ⊕ Int) :=
  Option.bind (cond (decide (0 ≤ s_11)) (idx p_1.Waits s_11 fun y_18 => cond (decide (y_18.At = p_6)) (cond (decide ((p_4.length : Int) = 0)) (some (.inr ())) (idx p_4 s_11 fun y_31 => cond (!y_31) (some (.inl ())) (some (.inr ())))) (some (.inl ()))) (some (.inr ()))) (fun t_14 => Sum.elim (fun t_14a => some (.inl (w64 (s_11 - 1)))) (fun t_14b => some (.inr s_11)) t_14)

def ref09_last (p_1 : Disk) (p_4 : List Bool) (p_6 : Int) : Option Int :=
  Option.bind (loop (ref09_last_l1 p_1 p_4 p_6) (w64 ((p_1.Waits.length : Int) - 1))) (fun t_8 => some t_8)

def ref09_left (p_1 : Disk) (p_4 : List Bool) (p_6 : Int) : Option (List UInt8) :=
  Option.bind (ref09_last p_1 p_4 p_6) fun x_8 => cond (decide (x_8 < 0)) (idx p_1.Blocks p_6 fun y_12 => app ([] : List UInt8) y_12 fun q_24 => some q_24) (idx p_1.Waits x_8 fun y_28 => app ([] : List UInt8) y_28.Data fun q_40 => some q_40)

def ref09_Seen (p_1 : Disk) (p_4 : Int) : Option (List UInt8) :=
  Option.bind (ref09_left p_1 ([] : List Bool) p_4) fun x_6 => some x_6

def ref02_byteAt (p_1 : List UInt8) (p_3 : Int) : Option UInt32 :=
  cond (decide (p_3 < (p_1.length : Int))) (idx p_1 p_3 fun y_5 => some y_5.toUInt32) (cond (decide (p_3 = (p_1.length : Int))) (some (1 : UInt32)) (some (0 : UInt32)))

def ref02_word (p_1 : List UInt8) (p_3 : Int) : Option UInt32 :=
  Option.bind (ref02_byteAt p_1 p_3) fun x_4 => Option.bind (ref02_byteAt p_1 (w64 (p_3 + 1))) fun x_7 => Option.bind (ref02_byteAt p_1 (w64 (p_3 + 2))) fun x_10 => Option.bind (ref02_byteAt p_1 (w64 (p_3 + 3))) fun x_13 => some (((x_4 + ((256 : UInt32) * x_7)) + ((65536 : UInt32) * x_10)) + ((16777216 : UInt32) * x_13))

def ref02_plus (p_1 : UInt32) (p_2 : UInt32) : Option UInt32 :=
  some (u32i ((w64 ((p_1.toNat : Int) + (p_2.toNat : Int))).tmod 4294967296))

def ref02_left_l1 (p_2 : Int) (s_6 : Int × Int) : Option ((Int × Int) ⊕ Int) :=
  cond (decide (s_6.2 < p_2)) (some (.inl (w64 (((w64 (s_6.1 * 2)).tmod 4294967296) + (w64 ((w64 (s_6.1 * 2)).tdiv 4294967296))), w64 (s_6.2 + 1)))) (some (.inr s_6.1))

def ref02_left (p_1 : UInt32) (p_2 : Int) : Option UInt32 :=
  Option.bind (loop (ref02_left_l1 p_2) ((p_1.toNat : Int), 0)) (fun t_3 => some (u32i t_3))

def ref02_Turn (p_1 : A4 UInt32) : Option (A4 UInt32) :=
  Option.bind (ref02_plus p_1.e0 p_1.e1) fun x_4 => Option.bind (ref02_left (p_1.e3 ^^^ x_4) 15) fun x_7 => Option.bind (ref02_plus p_1.e2 x_7) fun x_10 => Option.bind (ref02_left (p_1.e1 ^^^ x_10) 11) fun x_13 => Option.bind (ref02_plus x_4 x_13) fun x_16 => Option.bind (ref02_left (x_7 ^^^ x_16) 9) fun x_19 => Option.bind (ref02_plus x_10 x_19) fun x_22 => Option.bind (ref02_left (x_13 ^^^ x_22) 6) fun x_25 => some (A4.mk x_16 x_25 x_22 x_19)

def ref02_Four_l1 (p_1 : List UInt8) (s_8 : UInt32 × UInt32 × UInt32 × UInt32 × Int) : Option ((UInt32 × UInt32 × UInt32 × UInt32 × Int) ⊕ (UInt32 × UInt32 × UInt32 × UInt32)) :=
  cond (decide (s_8.2.2.2.2 ≤ (p_1.length : Int))) (Option.bind (Option.bind (ref02_word p_1 s_8.2.2.2.2) fun x_15 => some (s_8.1 ^^^ x_15)) (fun t_12 => Option.bind (Option.bind (ref02_word p_1 (w64 (s_8.2.2.2.2 + 4))) fun x_24 => some (s_8.2.2.1 ^^^ x_24)) (fun t_21 => Option.bind (ref02_Turn (A4.mk t_12 s_8.2.1 t_21 s_8.2.2.2.1)) fun x_30 => Option.bind (ref02_Turn x_30) fun x_33 => Option.bind (ref02_Turn x_33) fun x_36 => Option.bind (ref02_Turn x_36) fun x_39 => some (.inl (x_39.e0, x_39.e1, x_39.e2, x_39.e3, w64 (s_8.2.2.2.2 + 8)))))) (some (.inr (s_8.1, s_8.2.1, s_8.2.2.1, s_8.2.2.2.1)))

def ref02_Four (p_1 : List UInt8) : Option (A4 UInt32) :=
  Option.bind (loop (ref02_Four_l1 p_1) ((1 : UInt32), (2 : UInt32), (3 : UInt32), (4 : UInt32), 0)) (fun t_5 => Option.bind (ref02_Turn (A4.mk t_5.1 (t_5.2.1 ^^^ (u32i (p_1.length : Int))) t_5.2.2.1 t_5.2.2.2)) fun x_11 => Option.bind (ref02_Turn x_11) fun x_14 => Option.bind (ref02_Turn x_14) fun x_17 => Option.bind (ref02_Turn x_17) fun x_20 => Option.bind (ref02_Turn x_20) fun x_23 => Option.bind (ref02_Turn x_23) fun x_26 => Option.bind (ref02_Turn x_26) fun x_29 => Option.bind (ref02_Turn x_29) fun x_32 => some x_32)

def ref02_Sum (p_1 : List UInt8) : Option UInt32 :=
  Option.bind (ref02_Four p_1) fun x_3 => some x_3.e0

def ref13_Seen (p_1 : Store) (p_5 : Ptr) : Option (List UInt8 × Int) :=
  Option.bind (ref10_None p_5) fun x_8 => cond x_8 (some (([] : List UInt8), 6)) (Option.bind (ref09_Seen (Disk.mk p_1.Disk.Blocks p_1.Disk.Waits) p_5.At) fun x_12 => Option.bind (ref02_Sum x_12) fun x_19 => cond (!decide (x_19 = p_5.Sum)) (some (([] : List UInt8), 130)) (app ([] : List UInt8) x_12 fun q_23 => some (q_23, 0)))

def ref10_Get_l1 (p_1 : List UInt8) (s_6 : UInt32 × Int) : Option ((UInt32 × Int) ⊕ UInt32) :=
  cond (decide (0 ≤ s_6.2)) (idx p_1 s_6.2 fun y_10 => some (.inl (((256 : UInt32) * s_6.1) + y_10.toUInt32, w64 (s_6.2 - 1)))) (some (.inr s_6.1))

def ref10_Get (p_1 : List UInt8) : Option UInt32 :=
  Option.bind (loop (ref10_Get_l1 p_1) ((0 : UInt32), w64 ((p_1.length : Int) - 1))) (fun t_3 => some t_3)

def ref10_Read (p_1 : List UInt8) : Option (Ptr × Int) :=
  cond (!decide ((p_1.length : Int) = 16)) (some (Ptr.mk 0 (0 : UInt32) (0 : UInt32) (0 : UInt32) (0 : UInt32), 3)) (idx p_1 0 fun y_5 => slc p_1 1 4 fun m_14 => slc p_1 4 8 fun m_18 => slc p_1 8 12 fun m_22 => slc p_1 12 16 fun m_26 => Option.bind (ref10_Get m_14) fun x_32 => Option.bind (ref10_Get m_18) fun x_37 => Option.bind (ref10_Get m_22) fun x_42 => Option.bind (ref10_Get m_26) fun x_47 => Option.bind (ref10_May (Ptr.mk (y_5.toNat : Int) x_32 x_37 x_42 x_47)) fun x_51 => cond (!x_51) (some (Ptr.mk 0 (0 : UInt32) (0 : UInt32) (0 : UInt32) (0 : UInt32), 8)) (some (Ptr.mk (y_5.toNat : Int) x_32 x_37 x_42 x_47, 0)))

def ref10_Rows_l1 (p_1 : List UInt8) (s_7 : List Ptr × Nat) : Option ((List Ptr × Nat) ⊕ ((List Ptr) ⊕ Int)) :=
  cond (decide (((s_7.2 : Nat) : Int) < 16)) (slc p_1 (w64 (16 * ((s_7.2 : Nat) : Int))) (w64 ((w64 (16 * ((s_7.2 : Nat) : Int))) + 16)) fun m_12 => Option.bind (ref10_Read m_12) fun x_16 => cond (!decide (x_16.2 = 0)) (some (.inr (.inr x_16.2))) (app s_7.1 ([x_16.1]) fun q_22 => some (.inl (q_22, s_7.2 + 1)))) (some (.inr (.inl s_7.1)))

def ref10_Rows (p_1 : List UInt8) : Option (List Ptr × Int) :=
  cond (!decide ((p_1.length : Int) = 256)) (some (([] : List Ptr), 3)) (Option.bind (loop (ref10_Rows_l1 p_1) (([] : List Ptr), 0)) (fun t_4 => Sum.elim (fun t_4a => some (t_4a, 0)) (fun t_4b => some (([] : List Ptr), t_4b)) t_4))

def ref15_Row (p_1 : Store) (p_5 : Ptr) : Option (List Ptr × Int) :=
  Option.bind (ref10_None p_5) fun x_8 => cond x_8 (mks 16 (Ptr.mk 0 (0 : UInt32) (0 : UInt32) (0 : UInt32) (0 : UInt32)) fun x_14 => some (x_14, 0)) (Option.bind (ref13_Seen p_1 p_5) fun x_16 => cond (!decide (x_16.2 = 0)) (some (([] : List Ptr), x_16.2)) (Option.bind (ref10_Rows x_16.1) fun x_24 => cond (!decide (x_24.2 = 0)) (some (([] : List Ptr), 8)) (some (x_24.1, 0))))

def ref15_Ptrs (p_1 : Store) (p_5 : Ptr) : Option (List Ptr × Int) :=
  Option.bind (ref15_may p_1 p_5) fun x_8 => cond (!x_8) (some (([] : List Ptr), 8)) (Option.bind (ref15_Row p_1 p_5) fun x_12 => some (x_12.1, x_12.2))

def ref14_May_l1 (p_1 : Object) (s_14 : Nat) : Option (Nat ⊕ (Unit ⊕ Unit)) :=
  cond (decide (((s_14 : Nat) : Int) < 15)) (idx p_1.Data ((s_14 : Nat) : Int) fun y_18 => Option.bind (ref10_May y_18) fun x_27 => cond (!x_27) (some (.inr (.inr ()))) (some (.inl (s_14 + 1)))) (some (.inr (.inl ())))

def ref14_May (p_1 : Object) : Option Bool :=
  cond (decide (p_1.Kind < (1 : UInt8))) (some false) (cond (decide ((7 : UInt8) < p_1.Kind)) (some false) (cond (decide (p_1.Links < 0)) (some false) (cond (decide (255 < p_1.Links)) (some false) (cond (decide (p_1.Size < 0)) (some false) (cond (decide (3840 < p_1.Size)) (some false) (cond (!decide ((p_1.Data.length : Int) = 15)) (some false) (Option.bind (loop (ref14_May_l1 p_1) 0) (fun t_11 => Sum.elim (fun t_11a => some true) (fun t_11b => some false) t_11))))))))

def ref10_Number_l1 (p_2 : Int) (s_6 : UInt32 × List UInt8 × Int) : Option ((UInt32 × List UInt8 × Int) ⊕ (List UInt8)) :=
  cond (decide (s_6.2.2 < p_2)) (app s_6.2.1 ([(s_6.1 % (256 : UInt32)).toUInt8]) fun q_12 => some (.inl (s_6.1 / (256 : UInt32), q_12, w64 (s_6.2.2 + 1)))) (some (.inr s_6.2.1))

def ref10_Number (p_1 : UInt32) (p_2 : Int) : Option (List UInt8) :=
  Option.bind (loop (ref10_Number_l1 p_2) (p_1, ([] : List UInt8), 0)) (fun t_3 => some t_3)

def ref10_Bytes (p_1 : Ptr) : Option (List UInt8) :=
  Option.bind (Option.bind (ref10_Number p_1.Birth 3) fun x_7 => app ([u8i p_1.At]) x_7 fun q_11 => some q_11) (fun t_3 => Option.bind (ref10_Number p_1.Iv 4) fun x_16 => app t_3 x_16 fun q_20 => Option.bind (ref10_Number p_1.Tag 4) fun x_24 => app q_20 x_24 fun q_28 => Option.bind (ref10_Number p_1.Sum 4) fun x_32 => app q_28 x_32 fun q_36 => some q_36)

def ref14_Block_l1 (p_1 : Object) (s_15 : List UInt8 × Nat) : Option ((List UInt8 × Nat) ⊕ (List UInt8)) :=
  cond (decide (((s_15.2 : Nat) : Int) < 15)) (idx p_1.Data ((s_15.2 : Nat) : Int) fun y_20 => Option.bind (ref10_Bytes y_20) fun x_29 => app s_15.1 x_29 fun q_33 => some (.inl (q_33, s_15.2 + 1))) (some (.inr s_15.1))

def ref14_Block (p_1 : Object) : Option (List UInt8) :=
  mks 12 (0 : UInt8) fun z_7 => app ([p_1.Kind, u8i p_1.Links, u8i (p_1.Size.tmod 256), u8i (w64 (p_1.Size.tdiv 256))]) z_7 fun q_8 => Option.bind (loop (ref14_Block_l1 p_1) (q_8, 0)) (fun t_12 => some t_12)

def ref14_Read_l1 (p_1 : List UInt8) (s_45 : List Ptr × Nat) : Option ((List Ptr × Nat) ⊕ ((List Ptr) ⊕ Unit)) :=
  cond (decide (((s_45.2 : Nat) : Int) < 15)) (slc p_1 (w64 (16 + (w64 (16 * ((s_45.2 : Nat) : Int))))) (w64 (32 + (w64 (16 * ((s_45.2 : Nat) : Int))))) fun m_50 => Option.bind (ref10_Read m_50) fun x_54 => cond (!decide (x_54.2 = 0)) (some (.inr (.inr ()))) (app s_45.1 ([x_54.1]) fun q_60 => some (.inl (q_60, s_45.2 + 1)))) (some (.inr (.inl s_45.1)))

def ref14_Read (p_1 : List UInt8) : Option (Object × Int) :=
  cond (!decide ((p_1.length : Int) = 256)) (some (Object.mk (0 : UInt8) 0 0 ([] : List Ptr), 3)) (idx p_1 0 fun y_5 => idx p_1 1 fun y_14 => idx p_1 2 fun y_23 => idx p_1 3 fun y_32 => Option.bind (loop (ref14_Read_l1 p_1) (([] : List Ptr), 0)) (fun t_42 => Sum.elim (fun t_42a => Option.bind (ref14_May (Object.mk y_5 (y_14.toNat : Int) (w64 ((y_23.toNat : Int) + (w64 (256 * (y_32.toNat : Int))))) t_42a)) fun x_53 => cond (!x_53) (some (Object.mk (0 : UInt8) 0 0 ([] : List Ptr), 8)) (Option.bind (ref14_Block (Object.mk y_5 (y_14.toNat : Int) (w64 ((y_23.toNat : Int) + (w64 (256 * (y_32.toNat : Int))))) t_42a)) fun x_59 => cond (!decide (x_59 = p_1)) (some (Object.mk (0 : UInt8) 0 0 ([] : List Ptr), 8)) (some (Object.mk y_5 (y_14.toNat : Int) (w64 ((y_23.toNat : Int) + (w64 (256 * (y_32.toNat : Int))))) t_42a, 0)))) (fun t_42b => some (Object.mk (0 : UInt8) 0 0 ([] : List Ptr), 8)) t_42))

def ref15_One (p_1 : Store) (p_5 : Ptr) : Option (Object × Int) :=
  Option.bind (ref13_Seen p_1 p_5) fun x_9 => cond (!decide (x_9.2 = 0)) (some (Object.mk (0 : UInt8) 0 0 ([] : List Ptr), x_9.2)) (Option.bind (ref14_Read x_9.1) fun x_15 => cond (!decide (x_15.2 = 0)) (some (Object.mk (0 : UInt8) 0 0 ([] : List Ptr), 8)) (some (x_15.1, 0)))

def ref15_Object (p_1 : Store) (p_5 : Ptr) (p_6 : Int) : Option (Object × Int) :=
  Option.bind (ref15_may p_1 p_5) fun x_10 => cond (!x_10) (some (Object.mk (0 : UInt8) 0 0 ([] : List Ptr), 8)) (cond (decide (p_6 < 0)) (some (Object.mk (0 : UInt8) 0 0 ([] : List Ptr), 2)) (cond (decide (16 ≤ p_6)) (some (Object.mk (0 : UInt8) 0 0 ([] : List Ptr), 2)) (Option.bind (ref15_Row p_1 p_5) fun x_16 => cond (!decide (x_16.2 = 0)) (some (Object.mk (0 : UInt8) 0 0 ([] : List Ptr), x_16.2)) (idx x_16.1 p_6 fun y_21 => Option.bind (ref15_One p_1 y_21) fun x_32 => some (x_32.1, x_32.2)))))

def ref15_Young_l1 (p_6 : UInt32) (x_69 : Object × Int) (s_94 : List Ptr × Nat) : Option ((List Ptr × Nat) ⊕ (List Ptr)) :=
  cond (decide (((s_94.2 : Nat) : Int) < (x_69.1.Data.length : Int))) (idx x_69.1.Data ((s_94.2 : Nat) : Int) fun y_99 => Option.bind (ref10_None y_99) fun x_110 => cond (!x_110) (idx x_69.1.Data ((s_94.2 : Nat) : Int) fun y_114 => cond (decide (p_6 < y_114.Birth)) (idx x_69.1.Data ((s_94.2 : Nat) : Int) fun y_126 => app s_94.1 ([y_126]) fun q_138 => some (.inl (q_138, s_94.2 + 1))) (some (.inl (s_94.1, s_94.2 + 1)))) (some (.inl (s_94.1, s_94.2 + 1)))) (some (.inr s_94.1))

def ref15_Young_l2 (p_1 : Store) (p_6 : UInt32) (x_14 : List Ptr × Int) (s_23 : List Ptr × Nat) : Option ((List Ptr × Nat) ⊕ ((List Ptr) ⊕ Int)) :=
  cond (decide (((s_23.2 : Nat) : Int) < 16)) (idx x_14.1 ((s_23.2 : Nat) : Int) fun y_29 => Option.bind (ref10_None y_29) fun x_40 => cond x_40 (some (.inl (s_23.1, s_23.2 + 1))) (idx x_14.1 ((s_23.2 : Nat) : Int) fun y_44 => cond (decide (y_44.Birth ≤ p_6)) (some (.inl (s_23.1, s_23.2 + 1))) (idx x_14.1 ((s_23.2 : Nat) : Int) fun y_56 => Option.bind (ref15_One p_1 y_56) fun x_69 => cond (!decide (x_69.2 = 0)) (some (.inr (.inr x_69.2))) (idx x_14.1 ((s_23.2 : Nat) : Int) fun y_75 => app s_23.1 ([y_75]) fun q_87 => Option.bind (loop (ref15_Young_l1 p_6 x_69) (q_87, 0)) (fun t_91 => some (.inl (t_91, s_23.2 + 1))))))) (some (.inr (.inl s_23.1)))

def ref15_Young (p_1 : Store) (p_5 : Ptr) (p_6 : UInt32) : Option (List Ptr × Int) :=
  Option.bind (ref10_None p_5) fun x_9 => cond x_9 (some (([] : List Ptr), 0)) (cond (decide (p_5.Birth ≤ p_6)) (some (([] : List Ptr), 0)) (Option.bind (ref15_Row p_1 p_5) fun x_14 => cond (!decide (x_14.2 = 0)) (some (([] : List Ptr), x_14.2)) (Option.bind (loop (ref15_Young_l2 p_1 p_6 x_14) ([p_5], 0)) (fun t_20 => Sum.elim (fun t_20a => some (t_20a, 0)) (fun t_20b => some (([] : List Ptr), t_20b)) t_20))))

def ref15_Walk (p_1 : Store) (p_5 : Ptr) (p_6 : UInt32) : Option (List Ptr × Int) :=
  Option.bind (ref15_may p_1 p_5) fun x_9 => cond (!x_9) (some (([] : List Ptr), 8)) (Option.bind (ref15_Young p_1 p_5 p_6) fun x_13 => some (x_13.1, x_13.2))

def ref10_Same_l1 (p_1 : List Ptr) (p_3 : List Ptr) (s_9 : Nat) : Option (Nat ⊕ (Unit ⊕ Unit)) :=
  cond (decide (((s_9 : Nat) : Int) < (p_1.length : Int))) (idx p_1 ((s_9 : Nat) : Int) fun y_13 => idx p_3 ((s_9 : Nat) : Int) fun y_22 => cond (!(decide (y_13.At = y_22.At) && (decide (y_13.Birth = y_22.Birth) && (decide (y_13.Iv = y_22.Iv) && (decide (y_13.Tag = y_22.Tag) && (decide (y_13.Sum = y_22.Sum) && true)))))) (some (.inr (.inr ()))) (some (.inl (s_9 + 1)))) (some (.inr (.inl ())))

def ref10_Same (p_1 : List Ptr) (p_3 : List Ptr) : Option Bool :=
  cond (!decide ((p_1.length : Int) = (p_3.length : Int))) (some false) (Option.bind (loop (ref10_Same_l1 p_1 p_3) 0) (fun t_6 => Sum.elim (fun t_6a => some true) (fun t_6b => some false) t_6))

def ref14_Same (p_1 : Object) (p_3 : Object) : Option Bool :=
  Option.bind (cond (decide (p_1.Kind = p_3.Kind)) (cond (decide (p_1.Links = p_3.Links)) (cond (decide (p_1.Size = p_3.Size)) (Option.bind (ref10_Same p_1.Data p_3.Data) fun x_13 => some x_13) (some false)) (some false)) (some false)) (fun t_7 => some t_7)

def ref09_Same_l2 (p_1 : Disk) (p_4 : Disk) (s_20 : Int × Nat) : Option ((Int × Nat) ⊕ Int) :=
  cond (decide (((s_20.2 : Nat) : Int) < (p_1.Waits.length : Int))) (idx p_1.Waits ((s_20.2 : Nat) : Int) fun y_24 => idx p_4.Waits ((s_20.2 : Nat) : Int) fun y_36 => cond (!decide (y_24.At = y_36.At)) (some (.inl (w64 (s_20.1 + 1), s_20.2 + 1))) (cond (!decide (y_24.Data = y_36.Data)) (some (.inl (w64 (s_20.1 + 1), s_20.2 + 1))) (some (.inl (s_20.1, s_20.2 + 1))))) (some (.inr s_20.1))

def ref09_Same_l1 (p_1 : Disk) (p_4 : Disk) (s_14 : Int × Nat) : Option ((Int × Nat) ⊕ Int) :=
  cond (decide (((s_14.2 : Nat) : Int) < (p_1.Blocks.length : Int))) (idx p_1.Blocks ((s_14.2 : Nat) : Int) fun y_18 => idx p_4.Blocks ((s_14.2 : Nat) : Int) fun y_29 => cond (!decide (y_18 = y_29)) (some (.inl (w64 (s_14.1 + 1), s_14.2 + 1))) (some (.inl (s_14.1, s_14.2 + 1)))) (some (.inr s_14.1))

def ref09_Same (p_1 : Disk) (p_4 : Disk) : Option Bool :=
  cond (!decide ((p_1.Blocks.length : Int) = (p_4.Blocks.length : Int))) (some false) (cond (!decide ((p_1.Waits.length : Int) = (p_4.Waits.length : Int))) (some false) (Option.bind (loop (ref09_Same_l1 p_1 p_4) (0, 0)) (fun t_11 => Option.bind (loop (ref09_Same_l2 p_1 p_4) (t_11, 0)) (fun t_17 => some (decide (t_17 = 0))))))

def ref13_Same (p_1 : Store) (p_5 : Store) : Option Bool :=
  Option.bind (Option.bind (ref09_Same (Disk.mk p_1.Disk.Blocks p_1.Disk.Waits) (Disk.mk p_5.Disk.Blocks p_5.Disk.Waits)) fun x_14 => cond x_14 (cond (decide (p_1.Space = p_5.Space)) (cond (decide (p_1.Epoch = p_5.Epoch)) (some (decide (p_1.Count = p_5.Count))) (some false)) (some false)) (some false)) (fun t_11 => some t_11)

def law15_SetTells (p_1 : Store) (p_5 : Ptr) (p_6 : Int) (p_7 : UInt32) : Option Bool :=
  Option.bind (ref13_Great p_1) fun x_10 => cond x_10 (some true) (Option.bind (ref13_Twin p_1) fun x_14 => Option.bind (set_Ptrs x_14 p_5) fun x_24 => Option.bind (ref15_Ptrs p_1 p_5) fun x_29 => Option.bind (set_Object x_14 p_5 p_6) fun x_36 => Option.bind (ref15_Object p_1 p_5 p_6) fun x_41 => Option.bind (set_Walk x_14 p_5 p_7) fun x_46 => Option.bind (ref15_Walk p_1 p_5 p_7) fun x_50 => Option.bind (Option.bind (ref10_Same x_24.1 x_29.1) fun x_60 => cond x_60 (cond (decide (x_24.2 = x_29.2)) (Option.bind (ref14_Same x_36.1 x_41.1) fun x_67 => cond x_67 (cond (decide (x_36.2 = x_41.2)) (Option.bind (ref10_Same x_46.1 x_50.1) fun x_74 => cond x_74 (cond (decide (x_46.2 = x_50.2)) (Option.bind (ref13_Same x_14 p_1) fun x_78 => some x_78) (some false)) (some false)) (some false)) (some false)) (some false)) (some false)) (fun t_54 => some t_54))
end Go.Ow

/-
  What is proved here: loops over the elements of a list, told by recursion over the list: plain lists alone.
-/
namespace Go.Ow
set_option linter.unusedVariables false
set_option linter.unusedSimpArgs false
variable {α σ ρ τ : Type}

/-- how a loop that goes on behind the element ends -/
def goesOn (st : ρ → σ) : ρ ⊕ τ → Option (σ ⊕ τ)
  | .inl r => some (.inl (st r))
  | .inr t => some (.inr t)
def ends (fin : ρ → τ) : ρ ⊕ τ → Option τ
  | .inl r => some (fin r)
  | .inr t => some t
/-- a loop over the elements of a list: what is carried is told by a recursion over the list -/
theorem loop_each (l : List α) (st : Nat → ρ → σ) {body : σ → Option (σ ⊕ τ)} (f : α → ρ → Option (ρ ⊕ τ)) (fin : ρ → τ) (I : Nat → ρ → Prop)
    (step : ∀ i (h : i < l.length) r, I i r → body (st i r) = Option.bind (f l[i] r) (goesOn (st (i + 1)))) (inv : ∀ i (h : i < l.length) r r', I i r → f l[i] r = some (.inl r') → I (i + 1) r')
    (stop : ∀ r, I l.length r → body (st l.length r) = some (.inr (fin r))) (hl : l.length < FUEL) {r0 : ρ} (h0 : I 0 r0) :
    loop body (st 0 r0) = Option.bind (forL f l r0) (ends fin) := by
  have key : ∀ (k i : Nat) (r : ρ) (n : Nat), i + k = l.length → k < n → I i r → run body n (st i r) = Option.bind (forL f (l.drop i) r) (ends fin) := by
    intro k
    induction k with
    | zero =>
      intro i r n hi hn hI
      obtain rfl : i = l.length := by omega
      obtain ⟨n, rfl⟩ : ∃ m, n = m + 1 := ⟨n - 1, by omega⟩
      show Option.bind (body (st l.length r)) _ = _
      rw [stop r hI, List.drop_length]; rfl
    | succ k ih =>
      intro i r n hi hn hI
      have hlt : i < l.length := by omega
      obtain ⟨n, rfl⟩ : ∃ m, n = m + 1 := ⟨n - 1, by omega⟩
      show Option.bind (body (st i r)) _ = _
      rw [step i hlt r hI, List.drop_eq_getElem_cons hlt]
      show _ = Option.bind (Option.bind (f l[i] r) _) _
      cases hf : f l[i] r with
      | none => rfl
      | some o =>
        cases o with
        | inl r' => exact ih (i + 1) r' n (by omega) (by omega) (inv i hlt r r' hI hf)
        | inr t => rfl
  have := key l.length 0 r0 FUEL (by omega) hl h0
  simpa [loop] using this
/-- the same, where nothing is known of what is carried -/
theorem loop_each' (l : List α) (st : Nat → ρ → σ) {body : σ → Option (σ ⊕ τ)} (f : α → ρ → Option (ρ ⊕ τ)) (fin : ρ → τ)
    (step : ∀ i (h : i < l.length) r, body (st i r) = Option.bind (f l[i] r) (goesOn (st (i + 1)))) (stop : ∀ r, body (st l.length r) = some (.inr (fin r))) (hl : l.length < FUEL) (r0 : ρ) :
    loop body (st 0 r0) = Option.bind (forL f l r0) (ends fin) :=
  loop_each l st f fin (fun _ _ => True) (fun i h r _ => step i h r) (fun _ _ _ _ _ _ => trivial) (fun r _ => stop r) hl trivial
theorem forL_map (g : ρ → α → ρ) : ∀ (l : List α) (r : ρ), forL (fun y r => some (.inl (g r y) : ρ ⊕ τ)) l r = some (.inl (l.foldl g r))
  | [], r => rfl
  | y :: l, r => by rw [forL_cons (s' := g r y) rfl, forL_map g l]; rfl
theorem lt_fuel {n m : Nat} (h : n ≤ m) (hm : Nat.blt m FUEL = true) : n < FUEL := Nat.lt_of_le_of_lt h (by simpa using hm)
theorem cI {n m : Nat} {β : Type} {a b : β} : (bif decide ((n : Int) < (m : Int)) then a else b) = if n < m then a else b := by
  by_cases h : n < m
  · rw [if_pos h, decide_eq_true (by omega)]; rfl
  · rw [if_neg h, decide_eq_false (by omega)]; rfl
end Go.Ow

/-
  What is proved here: the disk in plain words: what may be, a twin, a write, what is seen.
-/
namespace Go.Ow
set_option linter.unusedVariables false
set_option linter.unusedSimpArgs false

def okW (w : Write) : Bool := decide (0 ≤ w.At ∧ w.At < 256) && decide (w.Data.length = 256)
def OKD (d : Disk) : Prop := d.Blocks.length = 256 ∧ d.Waits.length ≤ 4096 ∧ (∀ b ∈ d.Blocks, b.length = 256) ∧ ∀ w ∈ d.Waits, okW w = true
instance (d : Disk) : Decidable (OKD d) := by unfold OKD; infer_instance
/-- no disk is larger than the machine's numbers -/
structure Sized (d : Disk) : Prop where
  blocks : d.Blocks.length ≤ 9223372036854775807
  waits : d.Waits.length ≤ 9223372036854775807
  at' : ∀ w ∈ d.Waits, InI64 w.At

theorem dev_place_eq {n : Int} (h : InI64 n) : dev_place n = some (decide (0 ≤ n ∧ n < 256)) := by
  unfold dev_place u64i
  congr 1
  apply decide_eq_decide.2
  rw [UInt64.lt_iff_toNat_lt, UInt64.toNat_ofNat']
  obtain ⟨h1, h2⟩ := h
  show _ % 18446744073709551616 < (256 : UInt64).toNat ↔ _
  rw [show (256 : UInt64).toNat = 256 from rfl]
  omega
theorem small_lt {n : Nat} (h : n ≤ 9223372036854775807) : n < FUEL := Nat.lt_of_le_of_lt h (by decide)

theorem check_l1 (d : Disk) (ok : Bool) (h : d.Blocks.length ≤ 9223372036854775807) : loop (dev_Check_l1 d) (ok, 0) = some (ok && d.Blocks.all fun b => decide (b.length = 256)) := by
  rw [loop_each' d.Blocks (fun i (r : Bool) => (r, i)) (fun b r => some (.inl (r && decide (b.length = 256)))) (fun r => r) (fun i hi r => ?_) (fun r => ?_) (small_lt h) ok, forL_map]
  · show some _ = some _
    congr 1
    generalize d.Blocks = l
    induction l generalizing ok with
    | nil => simp
    | cons b l ih => simp only [List.foldl_cons, ih, List.all_cons, Bool.and_assoc]
  · unfold dev_Check_l1
    rw [cI, if_pos hi, Zk _ hi]
    cases r
    · rfl
    · simp only [cond_true, Option.bind_some, goesOn, Bool.true_and]
      rw [show decide ((d.Blocks[i].length : Int) = 256) = decide (d.Blocks[i].length = 256) from decide_eq_decide.2 (by omega)]
  · unfold dev_Check_l1
    rw [cI, if_neg (by omega)]
theorem check_l2 (d : Disk) (ok : Bool) (h : Sized d) : loop (dev_Check_l2 d) (ok, 0) = some (ok && d.Waits.all okW) := by
  rw [loop_each' d.Waits (fun i (r : Bool) => (r, i)) (fun w r => some (.inl (r && (okW w)))) (fun r => r) (fun i hi r => ?_) (fun r => ?_) (small_lt h.waits) ok, forL_map]
  · show some _ = some _
    congr 1
    generalize d.Waits = l
    induction l generalizing ok with
    | nil => simp
    | cons b l ih => simp only [List.foldl_cons, ih, List.all_cons, Bool.and_assoc]
  · unfold dev_Check_l2
    rw [cI, if_pos hi, Zk _ hi]
    cases r
    · rfl
    · simp only [cond_true, Option.bind_some, goesOn, Bool.true_and]
      rw [dev_place_eq (h.at' _ (List.getElem_mem hi))]
      unfold okW
      by_cases c : 0 ≤ d.Waits[i].At ∧ d.Waits[i].At < 256
      · rw [decide_eq_true c]
        simp only [Option.bind_some, cond_true, Bool.true_and]
        rw [show decide ((d.Waits[i].Data.length : Int) = 256) = decide (d.Waits[i].Data.length = 256) from decide_eq_decide.2 (by omega)]
      · rw [decide_eq_false c]
        rfl
  · unfold dev_Check_l2
    rw [cI, if_neg (by omega)]
theorem dev_Check_eq {d : Disk} (h : Sized d) : dev_Check d = some (if OKD d then 0 else 8) := by
  unfold dev_Check
  rw [show (bif decide ((d.Blocks.length : Int) = 256) then some (decide ((d.Waits.length : Int) ≤ 4096)) else some false) = some (decide (d.Blocks.length = 256) && decide (d.Waits.length ≤ 4096)) from by
    by_cases c : d.Blocks.length = 256
    · rw [decide_eq_true (show (d.Blocks.length : Int) = 256 by omega), decide_eq_true c]
      simp only [cond_true, Bool.true_and]
      congr 1
      simp only [decide_eq_decide]; omega
    · rw [decide_eq_false (show ¬ (d.Blocks.length : Int) = 256 by omega), decide_eq_false c]; rfl]
  simp only [Option.bind_some]
  rw [check_l1 d _ h.blocks]
  simp only [Option.bind_some]
  rw [check_l2 d _ h]
  simp only [Option.bind_some]
  by_cases c : OKD d
  · rw [if_pos c]
    obtain ⟨c1, c2, c3, c4⟩ := c
    rw [show (decide (d.Blocks.length = 256) && decide (d.Waits.length ≤ 4096) && (d.Blocks.all fun b => decide (b.length = 256)) && d.Waits.all okW) = true from by
      simp only [Bool.and_eq_true, decide_eq_true_eq, List.all_eq_true]; exact ⟨⟨⟨c1, c2⟩, c3⟩, c4⟩]
    rfl
  · rw [if_neg c]
    rw [show (decide (d.Blocks.length = 256) && decide (d.Waits.length ≤ 4096) && (d.Blocks.all fun b => decide (b.length = 256)) && d.Waits.all okW) = false from by
      rw [Bool.eq_false_iff]; intro e
      simp only [Bool.and_eq_true, decide_eq_true_eq, List.all_eq_true] at e
      exact c ⟨e.1.1.1, e.1.1.2, e.1.2, e.2⟩]
    rfl

/-! ### A twin -/
structure Mid (d : Disk) : Prop where
  blocks : d.Blocks.length ≤ 1000
  waits : d.Waits.length ≤ 5000
  eb : ∀ b ∈ d.Blocks, b.length ≤ 1000
  ew : ∀ w ∈ d.Waits, w.Data.length ≤ 1000
theorem OKD.mid {d : Disk} (h : OKD d) : Mid d := ⟨by rw [h.1]; omega, by have := h.2.1; omega, fun b hb => by rw [h.2.2.1 b hb]; omega, fun w hw => by
  have := h.2.2.2 w hw
  simp only [okW, Bool.and_eq_true, decide_eq_true_eq] at this
  omega⟩
theorem OKD.sized {d : Disk} (h : OKD d) : Sized d := ⟨by rw [h.1]; omega, by have := h.2.1; omega, fun w hw => by
  have := h.2.2.2 w hw
  simp only [okW, Bool.and_eq_true, decide_eq_true_eq] at this
  exact ⟨by omega, by omega⟩⟩
theorem sum_le_mul {l : List Nat} {k : Nat} (h : ∀ x ∈ l, x ≤ k) : l.sum ≤ l.length * k := by
  induction l with
  | nil => simp
  | cons x l ih =>
    have := h x (by simp); have := ih (fun y hy => h y (by simp [hy]))
    simp only [List.sum_cons, List.length_cons, Nat.add_mul, Nat.one_mul]; omega
theorem twin_l1 (d : Disk) (h : d.Blocks.length ≤ 1000) : loop (dev_Twin_l1 d) (([] : List Int), 0) = some (d.Blocks.map fun b => (b.length : Int)) := by
  rw [loop_each d.Blocks (fun i (r : List Int) => (r, i)) (fun b r => some (.inl (r ++ [(b.length : Int)]))) (fun r => r) (fun i r => r.length = i) (fun i hi r hr => ?_) (fun i hi r r' hr e => ?_) (fun r _ => ?_) (small_lt (by omega)) rfl, forL_map]
  · show some _ = some _
    congr 1
    suffices H : ∀ (l : List (List UInt8)) (a : List Int), l.foldl (fun r b => r ++ [(b.length : Int)]) a = a ++ l.map fun b => (b.length : Int) by simpa using H d.Blocks []
    intro l
    induction l with
    | nil => simp
    | cons b l ih => intro a; simp [ih]
  · unfold dev_Twin_l1
    rw [cI, if_pos hi, Zk _ hi, app_eq (by simp only [List.length_cons, List.length_nil, LIM]; omega)]
    rfl
  · simp only [Option.some.injEq, Sum.inl.injEq] at e; subst e; simp [hr]
  · unfold dev_Twin_l1
    rw [cI, if_neg (by omega)]
theorem dev_cut_eq (bs : List (List UInt8)) (h : bs.length ≤ 1000) (hb : ∀ b ∈ bs, b.length ≤ 1000) : dev_cut (bs.map fun b => (b.length : Int)) = some (bs.map fun b => List.replicate b.length 0) := by
  unfold dev_cut
  have e1 : (bs.map fun b => (b.length : Int)).map Int.toNat = bs.map List.length := by rw [List.map_map]; rfl
  have e2 := sum_le_mul (l := bs.map List.length) (k := 1000) (fun x hx => by obtain ⟨b, h1, rfl⟩ := List.mem_map.1 hx; exact hb b h1)
  rw [List.length_map] at e2
  rw [if_pos ⟨fun n hn => by obtain ⟨b, _, rfl⟩ := List.mem_map.1 hn; omega, by rw [e1]; simp only [LIM]; omega, by simp only [List.length_map, LIM]; omega⟩, List.map_map]
  rfl
theorem twin_l2 (d : Disk) (h : d.Blocks.length ≤ 1000) : loop (dev_Twin_l2 d) (d.Blocks.map (fun b => List.replicate b.length (0 : UInt8)), 0) = some d.Blocks := by
  obtain ⟨t, h1, h2⟩ := loop_rule (body := dev_Twin_l2 d) (fun s => s.2 ≤ d.Blocks.length ∧ s.1 = d.Blocks.take s.2 ++ (d.Blocks.drop s.2).map (fun b => List.replicate b.length (0 : UInt8))) (fun s => d.Blocks.length - s.2) (fun t => t = d.Blocks) (by
    rintro ⟨r, i⟩ ⟨hi, hr⟩
    simp only at hi hr
    subst hr
    unfold dev_Twin_l2
    dsimp only
    rw [cI]
    rcases Nat.lt_or_ge i d.Blocks.length with hlt | hge
    · left
      have hl : (d.Blocks.take i ++ (d.Blocks.drop i).map (fun b => List.replicate b.length (0 : UInt8))).length = d.Blocks.length := by simp; omega
      have hg : (d.Blocks.take i ++ (d.Blocks.drop i).map (fun b => List.replicate b.length (0 : UInt8)))[i]'(by omega) = List.replicate d.Blocks[i].length 0 := by
        rw [List.getElem_append_right (by simp; omega)]
        simp [Nat.min_eq_left (Nat.le_of_lt hlt)]
      rw [if_pos hlt, Zk _ hlt, Zk _ (by omega), chk_eq (by rw [hg]; simp), setI_eq (by omega) (by simpa using (by omega : i < (d.Blocks.take i ++ (d.Blocks.drop i).map (fun b => List.replicate b.length (0 : UInt8))).length))]
      refine ⟨_, rfl, ⟨hlt, ?_⟩, by simp only; omega⟩
      simp only [Int.toNat_natCast]
      rw [List.set_append_right _ _ (by simp only [List.length_take]; omega), List.drop_eq_getElem_cons hlt]
      simp only [List.map_cons, List.length_take, Nat.min_eq_left (Nat.le_of_lt hlt), Nat.sub_self, List.set_cons_zero]
      rw [List.take_add_one, List.getElem?_eq_getElem hlt]
      simp only [Option.toList_some, List.append_assoc, List.singleton_append]
    · right
      rw [if_neg (by omega)]
      refine ⟨_, rfl, ?_⟩
      rw [List.take_of_length_le hge, List.drop_of_length_le hge]; simp) (s := (d.Blocks.map (fun b => List.replicate b.length (0 : UInt8)), 0)) ⟨Nat.zero_le _, by simp⟩ (small_lt (by simp only; omega))
  rw [h1, h2]
theorem bytes_Clone_eq {l : List UInt8} (h : l.length ≤ 1000) : bytes_Clone l = some l := by
  unfold bytes_Clone; rw [app_eq (by simp only [List.length_nil, LIM]; omega)]; rfl
theorem twin_l3 (d : Disk) (h : d.Waits.length ≤ 5000) (hw : ∀ w ∈ d.Waits, w.Data.length ≤ 1000) : loop (dev_Twin_l3 d) (([] : List Write), 0) = some d.Waits := by
  rw [loop_each d.Waits (fun i (r : List Write) => (r, i)) (fun b r => some (.inl (r ++ [b]))) (fun r => r) (fun i r => r.length = i) (fun i hi r hr => ?_) (fun i hi r r' hr e => ?_) (fun r _ => ?_) (small_lt (by omega)) rfl, forL_map]
  · show some _ = some _
    congr 1
    suffices H : ∀ (l : List Write) (a : List Write), l.foldl (fun r b => r ++ [b]) a = a ++ l by simpa using H d.Waits []
    intro l
    induction l with
    | nil => simp
    | cons b l ih => intro a; simp [ih]
  · unfold dev_Twin_l3
    rw [cI, if_pos hi, Zk _ hi, bytes_Clone_eq (hw _ (List.getElem_mem hi))]
    simp only [Option.bind_some]
    rw [app_eq (by simp only [List.length_cons, List.length_nil, LIM]; omega)]
    rfl
  · simp only [Option.some.injEq, Sum.inl.injEq] at e; subst e; simp [hr]
  · unfold dev_Twin_l3
    rw [cI, if_neg (by omega)]
theorem dev_Twin_eq {d : Disk} (h : Mid d) : dev_Twin d = some d := by
  unfold dev_Twin
  rw [twin_l1 d h.blocks]
  simp only [Option.bind_some]
  rw [dev_cut_eq _ h.blocks h.eb]
  simp only [Option.bind_some]
  rw [twin_l2 d h.blocks]
  simp only [Option.bind_some]
  rw [twin_l3 d h.waits h.ew]
  rfl
end Go.Ow

/-
  What is proved here: what is written, what is seen, what a crash leaves: the disk in plain words.
-/
namespace Go.Ow
set_option linter.unusedVariables false
set_option linter.unusedSimpArgs false

def noD : Disk := ⟨[], []⟩
theorem inI64_of {n : Int} (h : 0 ≤ n ∧ n < 256) : InI64 n := ⟨by omega, by omega⟩
/-! ### What is left of the writes -/
def layW (B : List (List UInt8)) (ws : List Write) : List (List UInt8) := ws.foldl (fun B w => B.set w.At.toNat w.Data) B
def KeysOk (M : List (Int × Write)) : Prop := (M.map (·.1)).Nodup ∧ ∀ p ∈ M, 0 ≤ p.1
theorem mem_putM {M : List (Int × Write)} {k : Int} {y : Write} {p : Int × Write} (h : p ∈ putM M k y) : p ∈ M ∨ p = (k, y) := by
  induction M with
  | nil => simp [putM] at h; exact .inr h
  | cons q r ih =>
    simp only [putM] at h
    split at h
    · rcases List.mem_cons.1 h with h' | h'
      · exact .inr h'
      · exact .inl (by simp [h'])
    · rcases List.mem_cons.1 h with h' | h'
      · exact .inl (by simp [h'])
      · exact (ih h').imp (fun z => by simp [z]) id
theorem keys_putM {M : List (Int × Write)} {k : Int} {y : Write} (h : (M.map (·.1)).Nodup) : ((putM M k y).map (·.1)).Nodup := by
  induction M with
  | nil => simp [putM]
  | cons q r ih =>
    simp only [List.map_cons, List.nodup_cons] at h
    simp only [putM]
    split
    · rename_i e
      simp only [List.map_cons, List.nodup_cons]; rw [← e]; exact h
    · rename_i e
      simp only [List.map_cons, List.nodup_cons]
      refine ⟨fun hm => ?_, ih h.2⟩
      obtain ⟨p, hp, hpe⟩ := List.mem_map.1 hm
      rcases mem_putM hp with h' | h'
      · exact h.1 (List.mem_map.2 ⟨p, h', hpe⟩)
      · subst h'; exact e hpe.symm
theorem KeysOk.put {M : List (Int × Write)} {k : Int} {y : Write} (h : KeysOk M) (hk : 0 ≤ k) : KeysOk (putM M k y) :=
  ⟨keys_putM h.1, fun p hp => (mem_putM hp).elim (h.2 p) (fun e => by subst e; exact hk)⟩
theorem layM_set {M : List (Int × Write)} {L : List (List UInt8)} {j : Nat} {v : List UInt8} (h : ∀ p ∈ M, p.1.toNat ≠ j) :
    layM (fun y : Write => y.Data) (L.set j v) M = (layM (fun y : Write => y.Data) L M).set j v := by
  unfold layM
  induction M generalizing L with
  | nil => rfl
  | cons p r ih =>
    simp only [List.foldl_cons]
    rw [List.set_comm _ _ (fun e => h p (by simp) e.symm), ih (fun q hq => h q (by simp [hq]))]
theorem layM_put {M : List (Int × Write)} {L : List (List UInt8)} {k : Int} {y : Write} (h : KeysOk M) (hk : 0 ≤ k) :
    layM (fun y : Write => y.Data) L (putM M k y) = (layM (fun y : Write => y.Data) L M).set k.toNat y.Data := by
  induction M generalizing L with
  | nil => rfl
  | cons p r ih =>
    obtain ⟨h1, h2⟩ := h
    simp only [List.map_cons, List.nodup_cons] at h1
    simp only [putM]
    split
    · rename_i e
      have hr : ∀ q ∈ r, q.1.toNat ≠ k.toNat := fun q hq e' => h1.1 (List.mem_map.2 ⟨q, hq, by have := h2 q (by simp [hq]); omega⟩)
      show layM _ (L.set k.toNat y.Data) r = (layM _ (L.set p.1.toNat p.2.Data) r).set k.toNat y.Data
      rw [← layM_set hr, e, List.set_set]
    · exact ih ⟨h1.2, fun q hq => h2 q (by simp [hq])⟩
def lastM (ws : List Write) : List (Int × Write) := ws.foldl (fun M w => putM M w.At w) []
theorem lastM_snoc (ws : List Write) (w : Write) : lastM (ws ++ [w]) = putM (lastM ws) w.At w := by simp [lastM]
theorem lastM_spec (ws : List Write) (L : List (List UInt8)) (h : ∀ w ∈ ws, 0 ≤ w.At) : KeysOk (lastM ws) ∧ layM (fun y : Write => y.Data) L (lastM ws) = layW L ws ∧ ∀ p ∈ lastM ws, ∃ w ∈ ws, p.1 = w.At := by
  suffices H : ∀ (n : Nat) (ws : List Write), ws.length = n → (∀ w ∈ ws, 0 ≤ w.At) → KeysOk (lastM ws) ∧ layM (fun y : Write => y.Data) L (lastM ws) = layW L ws ∧ ∀ p ∈ lastM ws, ∃ w ∈ ws, p.1 = w.At from H _ ws rfl h
  intro n
  induction n with
  | zero => intro ws hn _; obtain rfl := List.length_eq_zero_iff.1 hn; exact ⟨⟨by simp [lastM], by simp [lastM]⟩, rfl, by simp [lastM]⟩
  | succ n ih =>
    intro ws hn h
    obtain ⟨ws', w, rfl⟩ : ∃ a b, ws = a ++ [b] := ⟨ws.dropLast, ws.getLast (by intro e; subst e; simp at hn), (List.dropLast_concat_getLast _).symm⟩
    obtain ⟨h1, h2, h3⟩ := ih ws' (by simpa using hn) (fun w hw => h w (by simp [hw]))
    have hw := h w (by simp)
    rw [lastM_snoc]
    refine ⟨h1.put hw, ?_, fun p hp => ?_⟩
    · rw [layM_put h1 hw, h2]; simp [layW]
    · rcases mem_putM hp with h' | h'
      · obtain ⟨w', a, b⟩ := h3 p h'; exact ⟨w', by simp [a], b⟩
      · subst h'; exact ⟨w, by simp, rfl⟩
theorem layW_length (B : List (List UInt8)) (ws : List Write) : (layW B ws).length = B.length := by
  unfold layW
  induction ws generalizing B with
  | nil => rfl
  | cons w ws ih => simp only [List.foldl_cons, ih, List.length_set]
theorem layW_all {B : List (List UInt8)} {ws : List Write} (h : ∀ b ∈ B, b.length = 256) (hw : ∀ w ∈ ws, w.Data.length = 256) : ∀ b ∈ layW B ws, b.length = 256 := by
  unfold layW
  induction ws generalizing B with
  | nil => exact h
  | cons w ws ih =>
    simp only [List.foldl_cons]
    refine ih (fun b hb => ?_) (fun w' hw' => hw w' (by simp [hw']))
    rcases List.mem_or_eq_of_mem_set hb with h' | h'
    · exact h b h'
    · rw [h']; exact hw w (by simp)
theorem okW_at {w : Write} (h : okW w = true) : 0 ≤ w.At ∧ w.At < 256 := by
  simp only [okW, Bool.and_eq_true, decide_eq_true_eq] at h; exact h.1
theorem okW_data {w : Write} (h : okW w = true) : w.Data.length = 256 := by
  simp only [okW, Bool.and_eq_true, decide_eq_true_eq] at h; exact h.2
theorem clone45 {l : List (List UInt8)} (h : l.length ≤ 1000) : slices_Clone_byte_L l = some l := by
  unfold slices_Clone_byte_L; rw [app_eq (by simp only [List.length_nil, LIM]; omega)]; rfl
theorem lasts_loop (d : Disk) (h : d.Waits.length ≤ 5000) : dev_lasts d = some (lastM d.Waits) := by
  unfold dev_lasts
  rw [loop_each' d.Waits (fun i (r : List (Int × Write)) => (r, i)) (fun w r => some (.inl (putM r w.At w))) (fun r => r) (fun i hi r => ?_) (fun r => ?_) (small_lt (by omega)) [], forL_map]
  · rfl
  · unfold dev_lasts_l1
    rw [cI, if_pos hi, Zk _ hi]
    rfl
  · unfold dev_lasts_l1
    rw [cI, if_neg (by omega)]
/-- the blocks as the writes leave them -/
def seenB (d : Disk) : List (List UInt8) := layW d.Blocks d.Waits
theorem okd_lay {d : Disk} (h : OKD d) (ws : List Write) (hw : ∀ w ∈ ws, w ∈ d.Waits) : OKD ⟨layW d.Blocks ws, []⟩ :=
  ⟨by simp only [layW_length]; exact h.1, by simp, layW_all h.2.2.1 (fun w hw' => okW_data (h.2.2.2 w (hw w hw'))), by simp⟩
theorem lay_range {d : Disk} (h : OKD d) {ws : List Write} (hw : ∀ w ∈ ws, w ∈ d.Waits) : ∀ p ∈ lastM ws, 0 ≤ p.1 ∧ p.1.toNat < d.Blocks.length := fun p hp => by
  obtain ⟨w, h1, h2⟩ := (lastM_spec ws [] (fun w hw' => (okW_at (h.2.2.2 w (hw w hw'))).1)).2.2 p hp
  have := okW_at (h.2.2.2 w (hw w h1))
  rw [h2, h.1]; omega
theorem dev_left_eq {d : Disk} (h : OKD d) : dev_left d = some ⟨seenB d, []⟩ := by
  unfold dev_left
  rw [clone45 h.mid.blocks]
  simp only [Option.bind_some]
  rw [lasts_loop _ h.mid.waits]
  simp only [Option.bind_some]
  unfold layR
  rw [if_pos (lay_range h (fun w hw => hw)), (lastM_spec d.Waits d.Blocks (fun w hw => (okW_at (h.2.2.2 w hw)).1)).2.1]
  dsimp only
  rw [dev_Twin_eq (okd_lay h d.Waits (fun w hw => hw)).mid]
  rfl
theorem guarded2_eq {d : Disk} (h : Sized d) (is : Bool) : dev_guarded_v2 d is d = some (if OKD d then (if is = true then (⟨seenB d, []⟩, 0, d) else (noD, 2, d)) else (noD, 8, d)) := by
  unfold dev_guarded_v2
  rw [dev_Check_eq h]
  simp only [Option.bind_some]
  by_cases c : OKD d
  · rw [if_pos c, if_pos c]
    cases is
    · rfl
    · unfold dev_Read_1; rw [dev_left_eq c]; rfl
  · rw [if_neg c, if_neg c]; rfl
theorem seenB_length {d : Disk} (h : OKD d) : (seenB d).length = 256 := by unfold seenB; rw [layW_length]; exact h.1
theorem dev_Read_eq {d : Disk} (h : OKD d) {i : Nat} (hi : i < 256) : dev_Read d (i : Int) = some ((seenB d)[i]'(by rw [seenB_length h]; exact hi), 0) := by
  unfold dev_Read
  rw [dev_place_eq (inI64_of (by omega))]
  simp only [Option.bind_some]
  rw [guarded2_eq h.sized, if_pos h, decide_eq_true (show 0 ≤ (i : Int) ∧ (i : Int) < 256 by omega), if_pos rfl]
  simp only [Option.bind_some, decide_true, Bool.not_true, cond_false]
  rw [Zk _ (by rw [seenB_length h]; exact hi)]
end Go.Ow

/-
  What is proved here: numbers as bytes and back; a sum is always told; pointers as bytes: in plain words.
-/
namespace Go.Ow
set_option linter.unusedVariables false
set_option linter.unusedSimpArgs false

/-- a number's bytes, the lowest first -/
def leB (n : Nat) : Nat → List UInt8
  | 0 => []
  | k + 1 => UInt8.ofNat n :: leB (n / 256) k
theorem leB_length (n k : Nat) : (leB n k).length = k := by
  induction k generalizing n with
  | zero => rfl
  | succ k ih => simp [leB, ih]
def numB : List UInt8 → Nat
  | [] => 0
  | b :: r => b.toNat + 256 * numB r
theorem numB_lt (m : List UInt8) : numB m < 256 ^ m.length := by
  induction m with
  | nil => simp [numB]
  | cons b r ih =>
    have := b.toNat_lt
    simp only [numB, List.length_cons, Nat.pow_succ]; omega
theorem numB_leB {n k : Nat} (h : n < 256 ^ k) : numB (leB n k) = n := by
  induction k generalizing n with
  | zero => simp at h; subst h; rfl
  | succ k ih =>
    simp only [leB, numB]
    rw [ih (by rw [Nat.pow_succ] at h; omega), UInt8.toNat_ofNat']
    omega
theorem u8i_nat (n : Nat) : u8i (n : Int) = UInt8.ofNat n := by
  unfold u8i
  apply UInt8.toNat_inj.1
  rw [UInt8.toNat_ofNat', UInt8.toNat_ofNat']
  omega
theorem sized_eq (k : Int) : code_sized k = some (decide (0 < k ∧ k ≤ 4)) := by
  unfold code_sized
  by_cases h : 0 < k
  · rw [decide_eq_true h]
    simp only [cond_true, Option.bind_some]
    congr 1; simp only [decide_eq_decide]; omega
  · rw [decide_eq_false h]
    simp only [cond_false, Option.bind_some]
    congr 1; rw [decide_eq_false (fun e => h e.1)]
theorem numB_snoc (p : List UInt8) (c : UInt8) : numB (p ++ [c]) = numB p + 256 ^ p.length * c.toNat := by
  induction p with
  | nil => simp [numB]
  | cons b p ih => simp only [List.cons_append, numB, ih, List.length_cons, Nat.pow_succ]; rw [Nat.mul_add, ← Nat.mul_assoc, Nat.mul_comm 256 (256 ^ p.length)]; omega
theorem bwd_length' (m : List UInt8) (k : Nat) : (bwd m k).length = k := by induction k with | zero => rfl | succ k ih => simp [bwd, ih]
theorem bwd_fold (m : List UInt8) : ∀ (k a : Nat), k ≤ m.length → (bwd m k).foldl (fun n y => 256 * n + y.2.toNat) a = numB (m.take k) + 256 ^ k * a := by
  intro k
  induction k with
  | zero => intro a _; simp [bwd, numB]
  | succ k ih =>
    intro a hk
    simp only [bwd, List.foldl_cons]
    rw [ih _ (by omega), List.take_succ_eq_append_getElem (by omega), numB_snoc, List.length_take, Nat.min_eq_left (by omega), List.getD_eq_getElem?_getD, List.getElem?_eq_getElem (by omega), Option.getD_some, Nat.pow_succ, Nat.mul_add, ← Nat.mul_assoc]
    omega
theorem get_loop : ∀ (l : List (Nat × UInt8)) (a j : Nat), a < 256 ^ j → j + l.length ≤ 4 → forL code_Get_r1 l (a : Int) = some (.inl ((l.foldl (fun n y => 256 * n + y.2.toNat) a : Nat) : Int))
  | [], a, j, _, _ => rfl
  | y :: l, a, j, ha, hj => by
    have hy := y.2.toNat_lt
    have hp : (256 : Nat) ^ (j + 1) ≤ 256 ^ 4 := Nat.pow_le_pow_right (by omega) (by simp at hj; omega)
    have h2 : 256 * a + y.2.toNat < 256 ^ (j + 1) := by rw [Nat.pow_succ]; omega
    rw [forL_cons (s' := ((256 * a + y.2.toNat : Nat) : Int)) (by
      have e4 : (256 : Nat) ^ 4 = 4294967296 := by decide
      rw [e4] at hp
      generalize (256 : Nat) ^ (j + 1) = N at hp h2
      show some (Sum.inl (w64 ((w64 (256 * (a : Int))) + (y.2.toNat : Int)))) = _
      rw [YF (n := 256 * (a : Int)) (by omega) (by omega), YF (by omega) (by omega)]
      rw [show (256 * (a : Int) + (y.2.toNat : Int)) = ((256 * a + y.2.toNat : Nat) : Int) by omega]), get_loop l _ (j + 1) h2 (by simp at hj; omega)]
    rfl
theorem cut_len {l : List UInt8} {a b : Nat} (h1 : a ≤ b) (h2 : b ≤ l.length) : (cut l (a : Int) (b : Int)).length = b - a := by
  unfold cut; simp only [List.length_take, List.length_drop]; omega
theorem get_core {b : List UInt8} {at' k : Nat} (h4 : k ≤ 4) (hl : at' + k ≤ b.length) :
    (slc b (at' : Int) ((at' + k : Nat) : Int) fun m_16 => Option.bind (slices_Backward_byte m_16) fun x_20 => Option.bind (forL code_Get_r1 (bwd m_16 m_16.length) 0) (fun t_24 => Sum.elim (fun s_27 => some (s_27, (0 : Int))) (fun _ => none) t_24)) = some ((numB ((b.drop at').take k) : Int), 0) := by
  rw [slc_eq (by omega) (by omega) (by omega)]
  have hm : (cut b (at' : Int) ((at' + k : Nat) : Int)).length = k := by rw [cut_len (by omega) (by omega)]; omega
  have he : cut b (at' : Int) ((at' + k : Nat) : Int) = (b.drop at').take k := by unfold cut; rw [Int.toNat_natCast, Int.toNat_natCast, Nat.add_sub_cancel_left]
  rw [he] at hm ⊢
  have := get_loop (bwd ((b.drop at').take k) ((b.drop at').take k).length) 0 0 (by decide) (by rw [bwd_length', hm]; omega)
  unfold slices_Backward_byte
  rw [Option.bind_some]
  rw [show ((0 : Nat) : Int) = 0 from rfl] at this
  rw [this, bwd_fold _ _ _ (Nat.le_refl _), List.take_length, Nat.mul_zero, Nat.add_zero]
  rfl
theorem get_cond {b : List UInt8} {a q k : Int} {K : Option (Int × Int)} (hk : 0 < k ∧ k ≤ 4) (h0 : 0 ≤ a) (h1 : a ≤ b.length) (h2 : q ≤ b.length) :
    (Option.bind (code_sized k) fun x_5 => Option.bind (cond (!x_5) (some true) (cond (decide (a < 0)) (some true) (some (decide ((b.length : Int) < a))))) (fun t_8 => cond t_8 (some (0, 2)) (cond (decide ((b.length : Int) < q)) (some (0, 8)) K))) = K := by
  rw [sized_eq, Option.bind_some, decide_eq_true hk, decide_eq_false (show ¬ a < 0 by omega), decide_eq_false (show ¬ (b.length : Int) < a by omega), decide_eq_false (show ¬ (b.length : Int) < q by omega)]
  rfl
theorem code_Get_eq {b : List UInt8} {at' k : Nat} (h1 : 1 ≤ k) (h4 : k ≤ 4) (hl : at' + k ≤ b.length) (hb : b.length ≤ 1000000) : code_Get b (at' : Int) (k : Int) = some ((numB ((b.drop at').take k) : Int), 0) := by
  unfold code_Get
  have hw : w64 ((at' : Int) + (k : Int)) = ((at' + k : Nat) : Int) := by rw [YF (by omega) (by omega)]; omega
  rw [hw]
  exact (get_cond ⟨by omega, by omega⟩ (by omega) (by omega) (by omega)).trans (get_core h4 hl)

/-! ### A sum is always told -/
theorem rot_tot (a : UInt32) (n : Int) : ∃ r, math_bits_RotateLeft32 a n = some r := ⟨_, rfl⟩
theorem turned1_tot (a b : Int) (x : A4 UInt32) : ∃ r, mix_words_turned_1 a b x = some r := by
  unfold mix_words_turned_1
  obtain ⟨r, h⟩ := rot_tot (x.e3 ^^^ (x.e0 + x.e1)) a
  rw [h]
  simp only [Option.bind_some]
  obtain ⟨r', h'⟩ := rot_tot (x.e1 ^^^ (x.e2 + r)) b
  rw [h']
  exact ⟨_, rfl⟩
theorem turned_tot (x : A4 UInt32) : ∃ r, mix_words_turned x = some r := by
  unfold mix_words_turned
  obtain ⟨r, h⟩ := turned1_tot 15 11 x
  rw [h]
  simp only [Option.bind_some]
  obtain ⟨r', h'⟩ := turned1_tot 9 6 r
  rw [h']
  exact ⟨_, rfl⟩
theorem often_tot (x : A4 UInt32) (n : Int) (hn : n ≤ 100) : ∃ r, mix_words_often x n = some r := by
  unfold mix_words_often
  obtain ⟨t, h1, -⟩ := loop_rule (body := mix_words_often_l1 n) (fun s => 0 ≤ s.2.2.2.2 ∧ s.2.2.2.2 ≤ 100) (fun s => 100 - s.2.2.2.2.toNat) (fun _ => True) (by
    rintro ⟨a, b, c, d, i⟩ ⟨hi, hi'⟩
    simp only at hi hi'
    unfold mix_words_often_l1
    dsimp only
    by_cases h : i < n
    · left
      rw [decide_eq_true h]
      obtain ⟨r, hr⟩ := turned_tot (A4.mk a b c d)
      simp only [cond_true]
      rw [hr]
      refine ⟨_, rfl, ?_, ?_⟩
      · simp only; rw [YF (by omega) (by omega)]; omega
      · simp only; rw [YF (by omega) (by omega)]; omega
    · right
      rw [decide_eq_false h]
      exact ⟨_, rfl, trivial⟩) (s := (x.e0, x.e1, x.e2, x.e3, 0)) ⟨by simp, by simp⟩ (Nat.lt_of_le_of_lt (Nat.sub_le _ _) (small_lt (by omega)))
  rw [h1]
  exact ⟨_, rfl⟩
theorem number_tot {b : List UInt8} (h : b.length = 4) : ∃ r, mix_number b = some r := by
  unfold mix_number
  rw [show (0 : Int) = ((0 : Nat) : Int) from rfl, show (4 : Int) = ((4 : Nat) : Int) from rfl, code_Get_eq (by omega) (by omega) (by omega) (by omega)]
  exact ⟨_, rfl⟩
theorem forL_tot {α σ τ : Type} {body : α → σ → Option (σ ⊕ τ)} : ∀ {l : List α} {s : σ}, (∀ y ∈ l, ∀ s, ∃ s', body y s = some (.inl s')) → ∃ s', forL body l s = some (.inl s')
  | [], s, _ => ⟨s, rfl⟩
  | y :: l, s, h => by
    obtain ⟨s', h1⟩ := h y (by simp) s
    rw [forL_cons h1]
    exact forL_tot (fun y hy => h y (by simp [hy]))
theorem chunks_len {n : Nat} (hn : 0 < n) : ∀ (f : Nat) (l : List UInt8), l.length ≤ f → l.length % n = 0 → ∀ y ∈ chunks n f l, y.length = n
  | 0, l, h, _, y, hy => by simp [chunks] at hy
  | f + 1, l, h, hm, y, hy => by
    by_cases c : l = []
    · subst c; simp [chunks] at hy
    · rw [chunks_step c] at hy
      have hpos := List.length_pos_iff.2 c
      have hge : n ≤ l.length := by
        rcases Nat.lt_or_ge l.length n with h' | h'
        · rw [Nat.mod_eq_of_lt h'] at hm; omega
        · exact h'
      rcases List.mem_cons.1 hy with rfl | hy
      · simp only [List.length_take]; omega
      · refine chunks_len hn f _ (by simp only [List.length_drop]; omega) ?_ y hy
        rw [List.length_drop, ← Nat.mod_eq_sub_mod hge]; exact hm
def pad8 (n : Nat) : Nat := (8 - n % 8) % 8
theorem pad8_step {n : Nat} (h : n % 8 ≠ 0) : pad8 (n + 1) + 1 = pad8 n := by
  unfold pad8
  have : n % 8 = 1 ∨ n % 8 = 2 ∨ n % 8 = 3 ∨ n % 8 = 4 ∨ n % 8 = 5 ∨ n % 8 = 6 ∨ n % 8 = 7 := by omega
  rcases this with h | h | h | h | h | h | h <;> rw [Nat.add_mod, h]
theorem pad8_le (n : Nat) : pad8 n ≤ 8 := by unfold pad8; omega
theorem four_l1 {l : List UInt8} (h : l.length ≤ 100000) : ∃ t, loop mix_four_l1 l = some t ∧ t.length % 8 = 0 ∧ t.length ≤ 100016 := by
  obtain ⟨t, h1, h2⟩ := loop_rule (body := mix_four_l1) (fun s => s.length + pad8 s.length ≤ 100008) (fun s => pad8 s.length) (fun t => t.length % 8 = 0 ∧ t.length ≤ 100016) (by
    intro s hs
    unfold mix_four_l1
    rw [Int.tmod_eq_emod_of_nonneg (by omega)]
    by_cases c : s.length % 8 = 0
    · right
      rw [decide_eq_true (show (s.length : Int) % 8 = 0 by omega)]
      exact ⟨_, rfl, c, by omega⟩
    · left
      have := pad8_step c
      rw [decide_eq_false (show ¬ (s.length : Int) % 8 = 0 by omega)]
      simp only [Bool.not_false, cond_true]
      rw [app_eq (by simp only [List.length_cons, List.length_nil, LIM]; omega)]
      exact ⟨_, rfl, by simp only [List.length_append, List.length_cons, List.length_nil, Nat.zero_add]; omega, by simp only [List.length_append, List.length_cons, List.length_nil, Nat.zero_add]; omega⟩) (s := l) (by have := pad8_le l.length; omega) (Nat.lt_of_le_of_lt (pad8_le _) (small_lt (by omega)))
  exact ⟨t, h1, h2⟩
theorem mix_Sum_tot {b : List UInt8} (h : b.length ≤ 10000) : ∃ r, mix_Sum b = some r := by
  unfold mix_Sum mix_four slices_Clone_byte slices_Clip_byte
  rw [app_eq (by simp only [List.length_nil, LIM]; omega)]
  simp only [Option.bind_some, List.nil_append]
  rw [slc_eq (by omega) (by omega) (by omega)]
  simp only [Option.bind_some]
  have hc : cut b 0 (b.length : Int) = b := by simp [cut]
  rw [hc, app_eq (by simp only [List.length_cons, List.length_nil, LIM]; omega)]
  obtain ⟨t, h1, h2, h3⟩ := four_l1 (l := b ++ [1]) (by simp; omega)
  rw [h1]
  simp only [Option.bind_some]
  unfold slices_Chunk_byte
  rw [if_pos ⟨by omega, by omega, by simp only [LIM]; omega⟩]
  simp only [Option.bind_some]
  obtain ⟨s, hs⟩ := forL_tot (body := mix_four_r2) (l := chunks (8 : Int).toNat t.length t) (s := ((1 : UInt32), (2 : UInt32), (3 : UInt32), (4 : UInt32))) (fun y hy s => by
    have hy8 : y.length = 8 := chunks_len (n := 8) (by omega) t.length t (Nat.le_refl _) h2 y hy
    unfold mix_four_r2
    rw [slc_eq (by omega) (by omega) (by omega)]
    obtain ⟨n1, e1⟩ := number_tot (b := cut y 0 4) (by rw [show (0 : Int) = ((0 : Nat) : Int) from rfl, show (4 : Int) = ((4 : Nat) : Int) from rfl, cut_len (by omega) (by omega)])
    rw [e1]
    simp only [Option.bind_some]
    rw [slc_eq (by omega) (by omega) (by omega)]
    obtain ⟨n2, e2⟩ := number_tot (b := cut y 4 (y.length : Int)) (by rw [show (4 : Int) = ((4 : Nat) : Int) from rfl, cut_len (by omega) (by omega)]; omega)
    rw [e2]
    simp only [Option.bind_some]
    obtain ⟨w, e3⟩ := often_tot (A4.mk (s.1 ^^^ n1) s.2.1 (s.2.2.1 ^^^ n2) s.2.2.2) 4 (by omega)
    rw [e3]
    exact ⟨_, rfl⟩)
  rw [hs]
  simp only [Option.bind_some, Sum.elim_inl]
  obtain ⟨w, e3⟩ := often_tot (A4.mk s.1 (s.2.1 ^^^ (u32i (b.length : Int))) s.2.2.1 s.2.2.2) 8 (by omega)
  rw [e3]
  exact ⟨_, rfl⟩
def sumOf (b : List UInt8) : UInt32 := (mix_Sum b).getD 0
theorem mix_Sum_eq {b : List UInt8} (h : b.length ≤ 10000) : mix_Sum b = some (sumOf b) := by
  obtain ⟨r, hr⟩ := mix_Sum_tot h
  unfold sumOf; rw [hr]; rfl
end Go.Ow

/-
  What is proved here: pointers and labels as bytes, and back: in plain words.
-/
namespace Go.Ow
set_option linter.unusedVariables false
set_option linter.unusedSimpArgs false

theorem run_st {σ τ : Type} {body : σ → Option (σ ⊕ τ)} {n : Nat} {s s' : σ} (h : body s = some (.inl s')) : run body (n + 1) s = run body n s' := by
  show Option.bind (body s) _ = _; rw [h]; rfl
theorem run_en {σ τ : Type} {body : σ → Option (σ ⊕ τ)} {n : Nat} {s : σ} {t : τ} (h : body s = some (.inr t)) : run body (n + 1) s = some t := by
  show Option.bind (body s) _ = _; rw [h]; rfl
theorem six_fuel : 6 ≤ FUEL := by decide
theorem run5 {σ τ : Type} {body : σ → Option (σ ⊕ τ)} {s0 s1 s2 s3 s4 s5 : σ} {t : τ} (h0 : body s0 = some (.inl s1)) (h1 : body s1 = some (.inl s2)) (h2 : body s2 = some (.inl s3)) (h3 : body s3 = some (.inl s4)) (h4 : body s4 = some (.inl s5)) (h5 : body s5 = some (.inr t)) :
    loop body s0 = some t := loop_of six_fuel (by rw [run_st h0, run_st h1, run_st h2, run_st h3, run_st h4, run_en h5])

def isNone (p : Ptr) : Prop := p.At = 0 ∧ p.Birth = 0 ∧ p.Iv = 0 ∧ p.Tag = 0 ∧ p.Sum = 0
instance (p : Ptr) : Decidable (isNone p) := by unfold isNone; infer_instance
/-- a pointer that is one -/
def okR (p : Ptr) : Prop := 12 ≤ p.At ∧ p.At < 256 ∧ (1 : UInt32) ≤ p.Birth ∧ p.Birth ≤ 16777215
instance (p : Ptr) : Decidable (okR p) := by unfold okR; infer_instance
theorem none_dec (p : Ptr) : (decide (p.At = 0) && (decide (p.Birth = (0 : UInt32)) && (decide (p.Iv = (0 : UInt32)) && (decide (p.Tag = (0 : UInt32)) && (decide (p.Sum = (0 : UInt32)) && true))))) = decide (isNone p) := by
  rw [Bool.eq_iff_iff]
  simp only [Bool.and_eq_true, decide_eq_true_eq, and_true]
  exact Iff.rfl
theorem ptr_Check_eq' (p : Ptr) : ptr_Check p = some (if isNone p ∨ okR p then 0 else 8) := by
  unfold ptr_Check
  rw [none_dec]
  by_cases h0 : isNone p
  · rw [decide_eq_true h0, if_pos (.inl h0)]; rfl
  rw [decide_eq_false h0]
  by_cases h : okR p
  · rw [if_pos (.inr h)]
    obtain ⟨h1, h2, h3, h4⟩ := h
    rw [decide_eq_false (show ¬ p.At < 12 by omega), decide_eq_false (show ¬ 256 ≤ p.At by omega), decide_eq_false (show ¬ p.Birth < 1 from UInt32.not_lt.2 h3), decide_eq_false (show ¬ (16777215 : UInt32) < p.Birth from UInt32.not_lt.2 h4)]
    rfl
  · rw [if_neg (fun e => e.elim h0 h)]
    by_cases h1 : p.At < 12
    · rw [decide_eq_true h1]; rfl
    by_cases h2 : 256 ≤ p.At
    · rw [decide_eq_false h1, decide_eq_true h2]; rfl
    by_cases h3 : p.Birth < 1
    · rw [decide_eq_false h1, decide_eq_false h2, decide_eq_true h3]; rfl
    by_cases h4 : (16777215 : UInt32) < p.Birth
    · rw [decide_eq_false h1, decide_eq_false h2, decide_eq_false h3, decide_eq_true h4]; rfl
    exact absurd ⟨by omega, by omega, UInt32.not_lt.1 h3, UInt32.not_lt.1 h4⟩ h


end Go.Ow

/-
  What is proved here: what stands behind a put or a write; one label stands on a new disk: in plain words.
-/
namespace Go.Ow
set_option linter.unusedVariables false
set_option linter.unusedSimpArgs false

end Go.Ow

/-
  What is proved here: tables of blocks (space), in plain words.
-/
namespace Go.Ow
set_option linter.unusedVariables false
set_option linter.unusedSimpArgs false

def okS (s : List UInt8) : Prop := s.length = 256 ∧ (∀ b ∈ s, b ≤ 2) ∧ ∀ b ∈ s.take 12, b = 1
instance (s : List UInt8) : Decidable (okS s) := by unfold okS; infer_instance

theorem maxB_le {a b c : UInt8} : maxB a b ≤ c ↔ a ≤ c ∧ b ≤ c := by
  unfold maxB
  simp only [UInt8.le_iff_toNat_le, UInt8.lt_iff_toNat_lt]
  split <;> omega
theorem max_loop (s : List UInt8) (h : s.length ≤ 1000) (a : UInt8) : loop (slices_Max_byte_l1 s) (a, 1) = some ((s.drop 1).foldl maxB a) := by
  have := loop_each' (s.drop 1) (fun i r => (r, i + 1)) (body := slices_Max_byte_l1 s) (τ := UInt8) (fun y r => some (.inl (maxB r y))) (fun r => r)
    (fun i hi r => by
      have hi' : i + 1 < s.length := by rw [List.length_drop] at hi; omega
      unfold slices_Max_byte_l1
      rw [cI, if_pos hi', Zk _ hi']
      simp only [List.getElem_drop, Nat.add_comm 1 i]
      rfl)
    (fun r => by
      unfold slices_Max_byte_l1
      rw [cI, if_neg (by rw [List.length_drop]; omega)])
    (Nat.lt_of_le_of_lt (by rw [List.length_drop]; omega) (show 1000 < FUEL by decide)) a
  rw [this, forL_map]; rfl
theorem foldl_max (l : List UInt8) (a c : UInt8) : l.foldl maxB a ≤ c ↔ a ≤ c ∧ ∀ b ∈ l, b ≤ c := by
  induction l generalizing a with
  | nil => simp
  | cons b l ih => rw [List.foldl_cons, ih, maxB_le]; simp [and_assoc]
theorem max_eq {s : List UInt8} (h : s.length ≤ 1000) (h0 : 0 < s.length) : ∃ m, slices_Max_byte s = some m ∧ ∀ c, m ≤ c ↔ ∀ b ∈ s, b ≤ c := by
  refine ⟨(s.drop 1).foldl maxB s[0], ?_, fun c => ?_⟩
  · unfold slices_Max_byte
    rw [decide_eq_false (by omega), cond_false, show (0 : Int) = ((0 : Nat) : Int) from rfl, Zk _ h0, max_loop s h, Option.bind_some]
  · rw [foldl_max]
    cases s with
    | nil => simp at h0
    | cons a l => simp
theorem cnt_all (l : List UInt8) (k : Nat) : l.foldl (fun n x => if x == (1 : UInt8) then n + 1 else n) k ≤ k + l.length ∧ (l.foldl (fun n x => if x == (1 : UInt8) then n + 1 else n) k = k + l.length ↔ ∀ b ∈ l, b = 1) := by
  induction l generalizing k with
  | nil => simp
  | cons b l ih =>
    rw [List.foldl_cons]
    by_cases c : b = 1
    · subst c
      have := ih (k + 1)
      simp only [beq_self_eq_true, if_true, List.length_cons, List.forall_mem_cons, true_and]
      exact ⟨by omega, by rw [← this.2]; omega⟩
    · have := ih k
      rw [if_neg (by simpa using c)]
      simp only [List.length_cons, List.forall_mem_cons]
      exact ⟨by omega, ⟨fun e => by omega, fun e => absurd e.1 c⟩⟩
theorem space_Check_eq (s : List UInt8) : space_Check s = some (if okS s then 0 else 8) := by
  unfold space_Check
  by_cases hl : s.length = 256
  · rw [show (!decide ((s.length : Int) = 256)) = false by rw [decide_eq_true (by omega)]; rfl, cond_false]
    obtain ⟨m, hm, hmc⟩ := max_eq (s := s) (by omega) (by omega)
    rw [hm, Option.bind_some]
    by_cases hb : ∀ b ∈ s, b ≤ 2
    · have := (hmc 2).2 hb
      rw [decide_eq_false (by rw [UInt8.lt_iff_toNat_lt]; rw [UInt8.le_iff_toNat_le] at this; omega), cond_false, slc_eq (by omega) (by omega) (by omega)]
      have hc : cut s 0 12 = s.take 12 := by simp [cut]
      rw [hc]
      unfold bytes_Count
      rw [decide_eq_false (by simp), cond_false, decide_eq_true (by simp), cond_true, show (0 : Int) = ((0 : Nat) : Int) from rfl, Zk _ (by simp), Option.bind_some]
      have hk := cnt_all (s.take 12) 0
      have hlt : (s.take 12).length = 12 := by rw [List.length_take]; omega
      rw [hlt] at hk
      obtain ⟨q, hq⟩ : ∃ q, q = cntB (s.take 12) ([(1 : UInt8)][0]) := ⟨_, rfl⟩
      rw [← hq]
      have hq' : q = (s.take 12).foldl (fun n x => if x == (1 : UInt8) then n + 1 else n) 0 := hq
      by_cases h1 : ∀ b ∈ s.take 12, b = 1
      · have e := hk.2.2 h1
        rw [if_pos ⟨hl, hb, h1⟩, decide_eq_true (by omega)]; rfl
      · have e : ¬ q = 12 := fun e => h1 (hk.2.1 (by omega))
        rw [if_neg (fun h => h1 h.2.2), decide_eq_false (by omega)]; rfl
    · have : ¬ m ≤ 2 := fun h => hb ((hmc 2).1 h)
      rw [decide_eq_true (by rw [UInt8.lt_iff_toNat_lt]; rw [UInt8.le_iff_toNat_le] at this; omega), cond_true, if_neg (fun h => hb h.2.1)]
  · rw [show (!decide ((s.length : Int) = 256)) = true by rw [decide_eq_false (by omega)]; rfl, cond_true, if_neg (fun h => hl h.1)]

/-! ### Free blocks -/
/-- the first nought from place i on -/
def freeFrom (s : List UInt8) (i : Nat) : Option Nat := (List.range' i (s.length - i)).find? fun j => s.getD j 1 == 0
theorem freeFrom_some {s : List UInt8} {i j : Nat} (h : freeFrom s i = some j) : i ≤ j ∧ j < s.length ∧ s[j]? = some 0 := by
  unfold freeFrom at h
  have h1 := List.mem_of_find?_eq_some h
  have h2 := List.find?_some h
  rw [List.mem_range'_1] at h1
  have hj : j < s.length := by omega
  refine ⟨h1.1, hj, ?_⟩
  rw [List.getD_eq_getElem?_getD, List.getElem?_eq_getElem hj] at h2
  rw [List.getElem?_eq_getElem hj]
  simpa using h2
end Go.Ow

/-
  What is proved here: keys, streams of bytes, tags and seals (mix, mac, cipher, seal), in plain words: which values they have is left open.
-/
namespace Go.Ow
set_option linter.unusedVariables false
set_option linter.unusedSimpArgs false

theorem lim_le {n : Nat} (h : n ≤ 1000000) : n ≤ LIM := Nat.le_trans h (by decide)
/-! ### Texts one behind the other -/
/-! ### Keys -/
/-! ### Tags -/
/-! ### Streams -/
end Go.Ow

/-
  What is proved here: blocks laid, sealed, looked at, opened (store), in plain words.
-/
namespace Go.Ow
set_option linter.unusedVariables false
set_option linter.unusedSimpArgs false

def noP : Ptr := ⟨0, 0, 0, 0, 0⟩
def OKSt (s : Store) : Prop := OKD s.Disk ∧ okS s.Space ∧ (1 : UInt32) ≤ s.Epoch ∧ s.Epoch ≤ 65535 ∧ s.Count ≤ 65535
instance (s : Store) : Decidable (OKSt s) := by unfold OKSt; infer_instance
theorem ndec {e : Int} (h : e ≠ 0) : (!decide (e = 0)) = true := by rw [decide_eq_false h]; rfl
theorem zdec : (!decide ((0 : Int) = 0)) = false := rfl
theorem d32lt (a b : UInt32) : decide (a < b) = !decide (b ≤ a) := by
  rw [← decide_not]; apply decide_eq_decide.2; rw [UInt32.lt_iff_toNat_lt, UInt32.le_iff_toNat_le]; omega
theorem store_Check_eq {s : Store} (h : Sized s.Disk) : store_Check s = some (if OKSt s then 0 else 8) := by
  unfold store_Check
  rw [dev_Check_eq h, Option.bind_some]
  by_cases c1 : OKD s.Disk
  · rw [if_pos c1, zdec, cond_false, space_Check_eq, Option.bind_some]
    by_cases c2 : okS s.Space
    · rw [if_pos c2, zdec, cond_false, d32lt, d32lt, d32lt]
      by_cases c3 : (1 : UInt32) ≤ s.Epoch
      · by_cases c4 : s.Epoch ≤ 65535
        · by_cases c5 : s.Count ≤ 65535
          · rw [if_pos ⟨c1, c2, c3, c4, c5⟩, decide_eq_true c3, decide_eq_true c4, decide_eq_true c5]; rfl
          · rw [if_neg (fun h => c5 h.2.2.2.2), decide_eq_true c3, decide_eq_true c4, decide_eq_false c5]; rfl
        · rw [if_neg (fun h => c4 h.2.2.2.1), decide_eq_true c3, decide_eq_false c4]; rfl
      · rw [if_neg (fun h => c3 h.2.2.1), decide_eq_false c3]; rfl
    · rw [if_neg c2, ndec (by omega), cond_true, if_neg (fun h => c2 h.2.1)]
  · rw [if_neg c1, ndec (by omega), cond_true, if_neg (fun h => c1 h.1)]
theorem OKSt.sized {s : Store} (h : OKSt s) : Sized s.Disk := h.1.sized

/-! ### What is asked -/
def birthOk (b : UInt32) : Prop := (1 : UInt32) ≤ b ∧ b ≤ 16777215
instance (b : UInt32) : Decidable (birthOk b) := by unfold birthOk; infer_instance
/-! ### A block is laid -/
structure PutAt (s : Store) (p : Ptr) (b : List UInt8) (t : Store) (q : Ptr) (j : Nat) : Prop where
  ok : OKSt s
  len : b.length = 256
  free : freeFrom s.Space 0 = some j
  room : s.Disk.Waits.length ≠ 4096
  out : t = ⟨⟨s.Disk.Blocks, s.Disk.Waits ++ [⟨(j : Int), b⟩]⟩, s.Space.set j 1, s.Epoch, s.Count⟩
  ptr : q = ⟨(j : Int), p.Birth, p.Iv, p.Tag, sumOf b⟩
theorem free_high {s : List UInt8} (h : okS s) {j : Nat} (hj : s[j]? = some 0) : 12 ≤ j ∧ j < 256 := by
  have hlt : j < s.length := (List.getElem?_eq_some_iff.1 hj).1
  rw [h.1] at hlt
  refine ⟨?_, hlt⟩
  apply Nat.le_of_not_lt
  intro hc
  have : (s.take 12)[j]? = some 0 := by rw [List.getElem?_take, if_pos hc]; exact hj
  have := h.2.2 0 (List.mem_of_getElem? this)
  cases this
theorem PutAt.place {s : Store} {p : Ptr} {b : List UInt8} {t : Store} {q : Ptr} {j : Nat} (h : PutAt s p b t q j) : 12 ≤ j ∧ j < 256 := free_high h.ok.2.1 (freeFrom_some h.free).2.2
theorem PutAt.seen {s : Store} {p : Ptr} {b : List UInt8} {t : Store} {q : Ptr} {j : Nat} (h : PutAt s p b t q j) : seenB t.Disk = (seenB s.Disk).set j b := by
  rw [h.out]
  simp only [seenB, layW, List.foldl_append, List.foldl_cons, List.foldl_nil, Int.toNat_natCast]
/-! ### A block is sealed -/
def more (s : Store) : Store := ⟨s.Disk, s.Space, s.Epoch, s.Count + 1⟩
/-! ### A block is looked at, and opened -/
def lookS (s : Store) (p : Ptr) : List UInt8 × Int :=
  if OKSt s ∧ (isNone p ∨ okR p) then (if isNone p then ([], 6) else (if sumOf ((seenB s.Disk).getD p.At.toNat []) = p.Sum then ((seenB s.Disk).getD p.At.toNat [], 0) else ([], 130))) else ([], 8)
theorem seen_mem {d : Disk} (h : OKD d) {i : Nat} (hi : i < 256) : ((seenB d).getD i []).length = 256 := by
  have hl := seenB_length h
  rw [List.getD_eq_getElem?_getD, List.getElem?_eq_getElem (by omega), Option.getD_some]
  exact layW_all h.2.2.1 (fun w hw => okW_data (h.2.2.2 w hw)) _ (List.getElem_mem _)
theorem none_dec' (p : Ptr) : (decide (p.At = 0) && (decide (p.Birth = (0 : UInt32)) && (decide (p.Iv = (0 : UInt32)) && (decide (p.Tag = (0 : UInt32)) && (decide (p.Sum = (0 : UInt32)) && true))))) = decide (isNone p) := none_dec p
theorem store_Look_eq {s : Store} (h : Sized s.Disk) (p : Ptr) : store_Look s p = some (lookS s p) := by
  unfold store_Look lookS
  rw [store_Check_eq h, Option.bind_some]
  by_cases c1 : OKSt s
  · rw [if_pos c1, zdec, cond_false, ptr_Check_eq', Option.bind_some]
    by_cases c2 : isNone p ∨ okR p
    · rw [if_pos c2, zdec, cond_false, none_dec', if_pos ⟨c1, c2⟩]
      by_cases c3 : isNone p
      · rw [if_pos c3, decide_eq_true c3]; rfl
      · rw [if_neg c3, decide_eq_false c3, cond_false]
        have hr := c2.resolve_left c3
        obtain ⟨i, hi⟩ := Int.eq_ofNat_of_zero_le (show 0 ≤ p.At by have := hr.1; omega)
        have hi2 : i < 256 := by have := hr.2.1; omega
        have hl := seenB_length c1.1
        rw [show (Disk.mk s.Disk.Blocks s.Disk.Waits) = s.Disk from rfl, hi, dev_Read_eq c1.1 hi2, Option.bind_some]
        dsimp only
        have hm := seen_mem c1.1 hi2
        have e : (seenB s.Disk).getD i [] = (seenB s.Disk)[i]'(by omega) := by rw [List.getD_eq_getElem?_getD, List.getElem?_eq_getElem (by omega), Option.getD_some]
        rw [Int.toNat_natCast, e] 
        rw [e] at hm
        rw [show decide ((0 : Int) = 0) = true from rfl, cond_true, mix_Sum_eq (by omega), Option.bind_some]
        by_cases c4 : sumOf ((seenB s.Disk)[i]'(by omega)) = p.Sum
        · rw [if_pos c4, decide_eq_true c4]; rfl
        · rw [if_neg c4, decide_eq_false c4]; rfl
    · rw [if_neg c2, ndec (by omega), if_neg (fun h => c2 h.2)]; rfl
  · rw [if_neg c1, ndec (by omega), if_neg (fun h => c1 h.1)]; rfl
theorem lookS_ok {s : Store} {p : Ptr} (h : (lookS s p).2 = 0) : OKSt s ∧ ¬ isNone p ∧ okR p ∧ (lookS s p).1 = (seenB s.Disk).getD p.At.toNat [] ∧ sumOf ((seenB s.Disk).getD p.At.toNat []) = p.Sum := by
  unfold lookS at h ⊢
  by_cases c1 : OKSt s ∧ (isNone p ∨ okR p)
  · rw [if_pos c1] at h ⊢
    by_cases c2 : isNone p
    · rw [if_pos c2] at h; simp at h
    · rw [if_neg c2] at h ⊢
      by_cases c3 : sumOf ((seenB s.Disk).getD p.At.toNat []) = p.Sum
      · rw [if_pos c3]; exact ⟨c1.1, c2, c1.2.resolve_left c2, rfl, c3⟩
      · rw [if_neg c3] at h; simp at h
  · rw [if_neg c1] at h; simp at h
end Go.Ow

/-
  What is proved here: a store that is new; what was laid is seen, what was sealed is opened; an example.
-/
namespace Go.Ow
set_option linter.unusedVariables false
set_option linter.unusedSimpArgs false

theorem forL_tot' {α σ τ : Type} {f : α → σ → Option (σ ⊕ τ)} : ∀ {l : List α} {s : σ}, (∀ y s, ∃ o, f y s = some o) → ∃ o, forL f l s = some o
  | [], s, _ => ⟨_, rfl⟩
  | y :: l, s, h => by
    obtain ⟨o, h1⟩ := h y s
    cases o with
    | inl s' => rw [forL_cons h1]; exact forL_tot' h
    | inr e => rw [forL_stop h1]; exact ⟨_, rfl⟩
def greatF (n : Nat) (r : Int) : Option (Int ⊕ Int) := if r < 2000000 then some (.inl (w64 (r + (n : Int)))) else some (.inr r)
theorem great_tot {d : Disk} (h : Sized d) : ∃ g, ref09_Great d = some g := by
  have L1 : ∀ r0, ∃ t, loop (ref09_Great_l1 d) (r0, 0) = some t := fun r0 => by
    rw [loop_each' d.Blocks (fun i (r : Int) => (r, i)) (fun b r => greatF b.length r) (fun r => r) (fun i hi r => ?_) (fun r => ?_) (small_lt h.blocks) r0]
    · obtain ⟨o, ho⟩ := forL_tot' (f := fun (b : List UInt8) (r : Int) => greatF b.length r) (l := d.Blocks) (s := r0) (fun y s => by unfold greatF; split <;> exact ⟨_, rfl⟩)
      rw [ho]; cases o <;> exact ⟨_, rfl⟩
    · unfold ref09_Great_l1 greatF
      rw [cI, if_pos hi]
      by_cases c : r < 2000000
      · rw [decide_eq_true c, if_pos c, cond_true, Zk _ hi]; rfl
      · rw [decide_eq_false c, if_neg c]; rfl
    · unfold ref09_Great_l1
      rw [cI, if_neg (by omega)]
  have L2 : ∀ r0, ∃ t, loop (ref09_Great_l2 d) (r0, 0) = some t := fun r0 => by
    rw [loop_each' d.Waits (fun i (r : Int) => (r, i)) (fun b r => greatF b.Data.length r) (fun r => r) (fun i hi r => ?_) (fun r => ?_) (small_lt h.waits) r0]
    · obtain ⟨o, ho⟩ := forL_tot' (f := fun (b : Write) (r : Int) => greatF b.Data.length r) (l := d.Waits) (s := r0) (fun y s => by unfold greatF; split <;> exact ⟨_, rfl⟩)
      rw [ho]; cases o <;> exact ⟨_, rfl⟩
    · unfold ref09_Great_l2 greatF
      rw [cI, if_pos hi]
      by_cases c : r < 2000000
      · rw [decide_eq_true c, if_pos c, cond_true, Zk _ hi]; rfl
      · rw [decide_eq_false c, if_neg c]; rfl
    · unfold ref09_Great_l2
      rw [cI, if_neg (by omega)]
  unfold ref09_Great
  have key : ∃ t, (cond (decide (500 < (d.Blocks.length : Int))) (some (.inr ())) (cond (decide (500 < (d.Waits.length : Int))) (cond (decide ((d.Waits.length : Int) < 4096)) (some (.inr ())) (cond (decide (4106 < (d.Waits.length : Int))) (some (.inr ())) (some (.inl ())))) (cond (decide (4106 < (d.Waits.length : Int))) (some (.inr ())) (some (.inl ()))))) = some (t : Unit ⊕ Unit) := by
    generalize decide (500 < (d.Blocks.length : Int)) = b1
    generalize decide (500 < (d.Waits.length : Int)) = b2
    generalize decide ((d.Waits.length : Int) < 4096) = b3
    generalize decide (4106 < (d.Waits.length : Int)) = b4
    cases b1 <;> cases b2 <;> cases b3 <;> cases b4 <;> exact ⟨_, rfl⟩
  obtain ⟨t, ht⟩ := key
  rw [ht, Option.bind_some]
  cases t with
  | inl _ =>
    obtain ⟨t1, h1⟩ := L1 0
    obtain ⟨t2, h2⟩ := L2 t1
    simp only [Sum.elim_inl]
    rw [h1, Option.bind_some, h2, Option.bind_some]
    exact ⟨_, rfl⟩
  | inr _ => exact ⟨_, rfl⟩

theorem great13_tot {s : Store} (h : Sized s.Disk) : ∃ g, ref13_Great s = some g := by
  obtain ⟨g, hg⟩ := great_tot h
  unfold ref13_Great
  rw [show ref09_Great (Disk.mk s.Disk.Blocks s.Disk.Waits) = some g from hg, Option.bind_some]
  cases g <;> exact ⟨_, rfl⟩

/-! ### What was laid is seen -/
theorem PutAt.okR {s : Store} {p : Ptr} {b : List UInt8} {t : Store} {q : Ptr} {j : Nat} (h : PutAt s p b t q j) (hb : birthOk p.Birth) : okR q ∧ ¬ isNone q := by
  have hp := h.place
  rw [h.ptr]
  exact ⟨⟨by show (12 : Int) ≤ (j : Int); omega, by show (j : Int) < 256; omega, hb.1, hb.2⟩, fun hn => by have : (j : Int) = 0 := hn.1; omega⟩
theorem getD_set {B : List (List UInt8)} {j : Nat} (hj : j < B.length) (b : List UInt8) (i : Nat) : (B.set j b).getD i [] = if i = j then b else B.getD i [] := by
  rw [List.getD_eq_getElem?_getD, List.getElem?_set]
  by_cases c : i = j
  · subst c; rw [if_pos rfl, if_pos hj, if_pos rfl]; rfl
  · rw [if_neg (fun e => c e.symm), if_neg c, List.getD_eq_getElem?_getD]
theorem PutAt.at {s : Store} {p : Ptr} {b : List UInt8} {t : Store} {q : Ptr} {j : Nat} (h : PutAt s p b t q j) (i : Nat) : (seenB t.Disk).getD i [] = if i = j then b else (seenB s.Disk).getD i [] := by
  have hp := h.place
  rw [h.seen, getD_set (by rw [seenB_length h.ok.1]; omega)]
/-! ### A new store -/
end Go.Ow

/-
  What is proved here: no two blocks are sealed by one number; limits, errors, examples: the laws, in plain words.
-/
namespace Go.Ow
set_option linter.unusedVariables false
set_option linter.unusedSimpArgs false

theorem noP_none : isNone noP := ⟨rfl, rfl, rfl, rfl, rfl⟩
/-! ### Examples -/
end Go.Ow

/-
  What is proved here: where there is room a block is laid; where a byte is turned, it is found: the laws, in plain words.
-/
namespace Go.Ow
set_option linter.unusedVariables false
set_option linter.unusedSimpArgs false

/-! ### The next free block -/
/-! ### A byte that is turned -/
def turned (B : List (List UInt8)) (j i : Nat) (by' : UInt8) : List (List UInt8) := B.set j ((B.getD j []).set i (((B.getD j []).getD i 0) ^^^ by'))
end Go.Ow

/-
  What is proved here: what was laid is seen, what was sealed is opened, no other block changes; what was given up is looked at as before: the laws, in plain words.
-/
namespace Go.Ow
set_option linter.unusedVariables false
set_option linter.unusedSimpArgs false

theorem nbeq {α : Type} [DecidableEq α] {a b : α} (h : a = b) : (!decide (a = b)) = false := by rw [decide_eq_true h]; rfl
theorem nbne {α : Type} [DecidableEq α] {a b : α} (h : ¬ a = b) : (!decide (a = b)) = true := by rw [decide_eq_false h]; rfl
/-! ### A block is given up -/
/-! ### What was given up -/
end Go.Ow
