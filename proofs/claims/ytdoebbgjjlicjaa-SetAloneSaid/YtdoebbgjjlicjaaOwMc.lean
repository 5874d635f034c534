import Derived.Test.YtdoebbgjjlicjaaOwMb
import Derived.ChangeKeysEq
import Derived.Test.YtdoebbgjjlicjaaOwMa
/-
  What is proved here: rows with a room of noughts behind them: 'make' with a length and a greater room, appends within it, the row with its noughts; over OwZE.
-/
namespace Go.Ow
open Go.RowKit
set_option linter.unusedVariables false
set_option linter.unusedSimpArgs false

variable {x : Cx} {ops : Array Oper} {Q : Exit → Act → World → Prop} {rest : List Oper} {l : Slots} {own : List Own} {H HF : Heaplet}
variable {ty : TypeId} {d : Nat} {pos : String} {aft : Array Edge} {p q : Operand} {t : TypeId}

/-- behind the row of n bytes there is room for N in all, and it holds noughts -/
def Spare (v : Value) (K : Own) (N : Nat) : Prop := ∃ g n cur E, v = .slice (some ⟨g, 0, none⟩) n N ∧ K = [(g, Obj.cells cur E (0, 0))] ∧ n ≤ N ∧ N ≤ cur.size ∧ (cur.toList.drop n).take (N - n) = List.replicate (N - n) (.int .u8 0)
theorem JL.mkS {E : TypeId} {N : Nat} {kl kc : IntKind} (hu : x.P.underlying t = some (.slice E)) (he : eInfo x.P E = some (.int .u8 0, 1, 1)) (h1 : evo l p = some (.int kl 0)) (h2 : evo l q = some (.int kc (N : Int)))
    (hN : N ≤ LIM) (hd : Nat.blt d x.n = true)
    (h : ∀ v' K', RowOf HF RU8 x.w0.heap.size E 1 v' [] K' → Spare v' K' N → JL x ops Q rest ((d, v') :: l) (K' :: own) H) : JL x ops Q (⟨some d, .makeSlice t p q, ty, pos, aft, none⟩ :: rest) l own H := fun a w hh => by
  simp only [wpLs, wanted_none, if_true]
  refine ⟨fun _ _ => trivial, ?_⟩
  obtain ⟨i, hi, hz, hsz, hby, hzs, hpos⟩ := eInfo_parts he
  have hm := lim_max hN
  have hNL : N ≤ 1099511627776 := hN
  have hrun := run_make (P := x.P) w t E i (.int .u8 0) hu hi hz kl kc 0 N (by omega) (by omega) (by rw [hby]; omega) (by simp only [maxLen] at hm; omega)
  simp only [Int.toNat_natCast, Int.toNat_zero] at hrun
  have e1 := eval_of hh h1
  have e2 := eval_of hh h2
  generalize a.eval = ρ at e1 e2
  have hrun' : (execOp ρ ⟨some d, .makeSlice t p q, ty, pos, aft, none⟩).run x.P w = .ok (.value (.slice (some ⟨w.heap.size, 0, none⟩) 0 N)) (w.alloc (.cells (madeCells (Value.int .u8 0).cells (N * i.size)) E)) := by
    simp only [execOp, e1, e2]; exact run_v hrun
  rw [semAt_of rfl, hrun']
  have hmc : (madeCells (Value.int .u8 0).cells (N * i.size)).toList = List.replicate N (.int .u8 0) := by
    have := madeCells_flat (Value.int .u8 0).cells N (by decide)
    rw [hsz]
    simpa [Value.cells] using this
  have hsize : (madeCells (Value.int .u8 0).cells (N * i.size)).size = N := by rw [← Array.length_toList, hmc, List.length_replicate]
  refine h _ [(w.heap.size, .cells (madeCells (Value.int .u8 0).cells (N * i.size)) E (0, 0))]
    ⟨[], ⟨by simp, .inr ⟨w.heap.size, N, _, rfl, rfl, hh.mem.kept.size, by simp, hm, by rw [hsize]; omega, by simp⟩⟩, rfl, fun _ h => by cases h⟩
    ⟨w.heap.size, 0, _, E, rfl, rfl, by omega, by rw [hsize]; exact Nat.le_refl _, by rw [hmc]; simp⟩ _ _ (Holds.put (x := x) (l := l) ?_ hd _)
  exact ⟨hh.size, hh.ds, hh.slots, by simpa using hh.mem.go0 (K' := [[(w.heap.size, .cells (madeCells (Value.int .u8 0).cells (N * i.size)) E (0, 0))]]) (by simpa using Mem.alloc hh.mem.agr (.cells (madeCells (Value.int .u8 0).cells (N * i.size)) E (0, 0)))⟩
theorem Flat.bytes_eq {H : Heaplet} : ∀ {l : List UInt8} {cells : List Value}, Flat H RU8 1 cells l → cells = bvs l
  | [], cells, h => h
  | b :: l, cells, h => by
    obtain ⟨cs, more, rfl, h1, h2, h3⟩ := h
    rw [Flat.bytes_eq h3, show cs = [.int .u8 (b.toNat : Int)] from h2]; rfl
/-- the row with its noughts -/
theorem RowOf.spare {B : Nat} {E : TypeId} {v : Value} {m m' : List UInt8} {K : Own} {N : Nat} {b : Int} (h : RowOf HF RU8 B E 1 v m K) (hs : Spare v K N) (hm : m' = m ++ List.replicate (b.toNat - m.length) 0) (hb : (m.length : Int) ≤ b ∧ b ≤ N) :
    ∃ g0, v = .slice (some ⟨g0, 0, none⟩) m.length N ∧ RowOf HF RU8 B E 1 (.slice (some ⟨g0, 0, none⟩) b.toNat N) m' K := by
  obtain ⟨g, n, cur, E', rfl, rfl, h1, h2, h3⟩ := hs
  obtain ⟨cells, ⟨h0, hr⟩, hf, ho⟩ := h
  rcases hr with ⟨e, -⟩ | ⟨g', cap, cur', e1, e2, e3, e4, e5, e6, e7⟩
  · cases e
  simp only [Value.slice.injEq, Option.some.injEq, Addr.mk.injEq] at e1
  obtain ⟨⟨rfl, -, -⟩, rfl, rfl⟩ := e1
  simp only [List.cons.injEq, Prod.mk.injEq, Obj.cells.injEq, and_true, true_and] at e2
  obtain ⟨rfl, rfl⟩ := e2
  have hml : m'.length = b.toNat := by rw [hm, List.length_append, List.length_replicate]; omega
  refine ⟨_, rfl, bvs m', ⟨by rw [hml]; simp [bvs, hml], .inr ⟨g, N, cur, by rw [hml], rfl, e3, by rw [hml]; omega, e5, by omega, ?_⟩⟩, Flat.bytes m', (Flat.bytes (H := HF) m').one' RU8.one⟩
  rw [hml, Nat.mul_one]
  have hc : cells = bvs m := Flat.bytes_eq hf
  have e : cur.toList.take b.toNat = cur.toList.take m.length ++ ((cur.toList.drop m.length).take (b.toNat - m.length)) := by
    conv => lhs; rw [show b.toNat = m.length + (b.toNat - m.length) by omega, List.take_add]
  have e8 : (cur.toList.drop m.length).take (b.toNat - m.length) = List.replicate (b.toNat - m.length) (.int .u8 0) := by
    have := congrArg (List.take (b.toNat - m.length)) h3
    rw [List.take_take, Nat.min_eq_left (by omega), List.take_replicate, Nat.min_eq_left (by omega)] at this
    exact this
  rw [Nat.mul_one] at e7
  rw [e, e8, e7, hc, hm]
  simp [bvs]
theorem append_spare {P : Program} {w : World} {H : Heaplet} {t tx ty E : TypeId} (hu : P.underlying t = some (.slice E)) (he : eInfo P E = some (.int .u8 0, 1, 1))
    {B N : Nat} {v y : Value} {ls ms : List UInt8} {K : Own} (ha : Agrees H w) (hk : OwnOk H K w) (hr : RowOf HF RU8 B E 1 v ls K) (hsp : Spare v K N) (hs : Src P 1 tx y ms.length (bvs ms) w) (hl : ls.length + ms.length ≤ N) :
    ∃ v' K' w', (Builtin.append_ #[t, tx] ty #[v, y]).run P w = .ok v' w' ∧ RowOf HF RU8 B E 1 v' (ls ++ ms) K' ∧ Spare v' K' N ∧ Mem w H (ids K) K' H w' := by
  obtain ⟨i, hi, hz, hsz, hby, hzs, hpos⟩ := eInfo_parts he
  by_cases hm0 : ms.length = 0
  · have hn : ms = [] := List.length_eq_zero_iff.1 hm0
    subst hn
    refine ⟨v, K, w, ?_, by simpa using hr, hsp, Mem.same ha hk⟩
    obtain ⟨g, n, cur, E', rfl, -, h1, -⟩ := hsp
    rw [← hsz] at hs
    exact run_append_nothing w t tx ty E i hu hi _ n N h1 y hs
  · obtain ⟨g, n, cur, E', rfl, rfl, h1, h2, h3⟩ := hsp
    obtain ⟨cells, ⟨h0, hr⟩, hf, ho⟩ := hr
    rcases hr with ⟨e, -⟩ | ⟨g', cap, cur', e1, e2, e3, e4, e5, e6, e7⟩
    · cases e
    simp only [Value.slice.injEq, Option.some.injEq, Addr.mk.injEq] at e1
    obtain ⟨⟨rfl, -, -⟩, rfl, rfl⟩ := e1
    simp only [List.cons.injEq, Prod.mk.injEq, Obj.cells.injEq, and_true, true_and] at e2
    obtain ⟨rfl, rfl⟩ := e2
    have hg : w.heap[g]? = some (.cells cur E' (0, 0)) := hk.here (g, .cells cur E' (0, 0)) (by simp)
    have hbl : (bvs ms).length = ms.length := bvs_length ms
    have hst := run_storeCells_at P g ls.length E' (bvs ms) 0 cur w hg (by omega) hs.one
    simp only [Nat.add_zero] at hst
    obtain ⟨C, hC⟩ : ∃ C, C = (cur.toList.take ls.length ++ bvs ms ++ cur.toList.drop (ls.length + (bvs ms).length)).toArray := ⟨_, rfl⟩
    rw [← hC] at hst
    have hcells := hs.cells
    have hrun : (Builtin.append_ #[t, tx] ty #[.slice (some ⟨g, 0, none⟩) ls.length N, y]).run P w = .ok (.slice (some ⟨g, 0, none⟩) (ls.length + ms.length) N) (w.setRow g C) := by
      rcases hs.kind with ⟨e', hk'⟩ | hk' <;> simp [Builtin.append_, run_underlying hu, run_underlying hk', sizeOf, typeInfo, hi, hsz, hs.len, hl, hcells, Addr.add_lit, hst]
    have hcl : cur.toList.length = cur.size := by simp
    have hCl : C.toList.length = cur.size := by rw [hC]; simp only [List.toList_toArray, List.length_append, List.length_take, List.length_drop, hcl, hbl]; omega
    have hc : cells = bvs ls := Flat.bytes_eq hf
    rw [Nat.mul_one, hc] at e7
    have htk : C.toList.take (ls.length + ms.length) = bvs (ls ++ ms) := by
      rw [hC, List.toList_toArray, e7, show ls.length + ms.length = (bvs ls ++ bvs ms).length by simp [bvs_length], List.take_left, bvs_append]
    refine ⟨_, [(g, .cells C E' (0, 0))], _, hrun, ⟨bvs (ls ++ ms), ⟨by simp [bvs_length], .inr ⟨g, N, C, by rw [List.length_append], rfl, e3, by rw [List.length_append]; exact hl, e5, by rw [← Array.length_toList, hCl]; omega, by rw [Nat.mul_one, List.length_append]; exact htk⟩⟩, Flat.bytes _, (Flat.bytes (H := HF) _).one' RU8.one⟩,
      ⟨g, _, C, E', rfl, rfl, hl, by rw [← Array.length_toList, hCl]; exact h2, ?_⟩, by simpa [ids] using Mem.setRow ha hg (fun o => hk.apart (g, .cells cur E' (0, 0)) (by simp) o) _⟩
    rw [hC, List.toList_toArray, e7, hbl]
    have h4 : (bvs ls ++ bvs ms ++ cur.toList.drop (ls.length + ms.length)).drop (ls.length + ms.length) = cur.toList.drop (ls.length + ms.length) := by
      rw [show ls.length + ms.length = (bvs ls ++ bvs ms).length by simp [bvs_length], List.drop_left]
    rw [h4]
    have h5 := congrArg (List.drop ms.length) h3
    rw [List.drop_take, List.drop_drop, List.drop_replicate] at h5
    rw [show N - (ls.length + ms.length) = N - ls.length - ms.length by omega]
    exact h5
theorem JL.appS (i : Nat) {tx E : TypeId} {y v : Value} {B N : Nat} {ls ms rs : List UInt8} {K : Own} (hu : x.P.underlying t = some (.slice E)) (he : eInfo x.P E = some (.int .u8 0, 1, 1))
    (h1 : evo l p = some v) (hi : own[i]? = some K) (hr : RowOf HF RU8 B E 1 v ls K) (hsp : Spare v K N) (h2 : evo l q = some y) (hs : SrcF x H HF own RU8 1 tx y ms)
    (hrs : rs = ls ++ ms) (hl : ls.length + ms.length ≤ N) (hd : Nat.blt d x.n = true)
    (h : ∀ v' K', RowOf HF RU8 B E 1 v' rs K' → Spare v' K' N → JL x ops Q rest ((d, v') :: l) (own.set i K') H) :
    JL x ops Q (⟨some d, .call ⟨.builtin .append, #[p, q], #[t, tx]⟩, ty, pos, aft, none⟩ :: rest) l own H := fun a w hh => by
  subst hrs
  simp only [wpLs, wanted_none, if_true]
  refine ⟨fun _ _ => trivial, ?_⟩
  obtain ⟨news, hfn, honen, hsrc⟩ := hs
  obtain rfl := Flat.bytes_eq hfn
  obtain ⟨v', K', w', hrun, hrow', hsp', hm⟩ := append_spare (ty := ty) hu he hh.mem.agr (own_here hh.mem hi) hr hsp (hsrc w hh.mem) hl
  have hrun' : (execOp a.eval ⟨some d, .call ⟨.builtin .append, #[p, q], #[t, tx]⟩, ty, pos, aft, none⟩).run x.P w = .ok (.value v') w' := by
    have e1 := eval_of hh h1
    have e2 := eval_of hh h2
    have : (execOp a.eval ⟨some d, .call ⟨.builtin .append, #[p, q], #[t, tx]⟩, ty, pos, aft, none⟩).run x.P w = ((Builtin.append_ #[t, tx] ty #[v, y]).run x.P w).andThen (fun r w'' => .ok (.value r) w'') := by
      generalize a.eval = ρ at e1 e2
      have e3 : Array.map ρ #[p, q] = #[v, y] := by simp [e1, e2]
      simp only [execOp, resolve, e3, Sem.run_bind, Sem.run_pure, Result.andThen, invoke, builtin]
    rw [this, hrun]; rfl
  rw [semAt_of rfl, hrun']
  exact h v' K' hrow' hsp' _ _ (Holds.put (x := x) (l := l) ⟨hh.size, hh.ds, hh.slots, hh.mem.go1 hi hm⟩ hd v')
theorem R.slcS {N n g0 : Nat} {e : TypeId} {g : Bool} {b : Int} {hi : Operand} {v : Value} (hu : x.P.underlying t = some (.slice e)) (hs : shapeOf x.P e = some (g, 1)) (h0 : evo l p = some v) (h2 : ∃ kk, evo l hi = some (.int kk b)) (hb : 0 ≤ b ∧ b ≤ N)
    (hv : v = .slice (some ⟨g0, 0, none⟩) n N) : Runs x (.slice t p none (some hi) none) ty l own H (.slice (some ⟨g0, 0, none⟩) b.toNat N) := by
  subst hv
  have key : sliced (some (⟨g0, 0, none⟩ : Addr)) 0 b.toNat N 1 = .slice (some ⟨g0, 0, none⟩) b.toNat N := by simp [sliced]
  exact fun ρ w _ _ _ _ hρ hm => by
    simp only [execOp, hρ _ _ h0]
    rw [← key]
    refine run_v (run_slc hu hs ρ hρ none (some hi) none 0 b.toNat N rfl ?_ rfl (by omega) (by omega) (Nat.le_refl _) (.inl rfl) w)
    obtain ⟨kk, h⟩ := h2
    exact ⟨kk, _, h, by omega⟩
end Go.Ow

/-
  What is proved here: plain vocabulary of rows with a room of noughts.
-/
namespace Go.Ow
variable {α β : Type}
/-- an append that may not pass N elements -/
def appN (N : Nat) (l m : List α) (k : List α → Option β) : Option β := if l.length + m.length ≤ N then k (l ++ m) else none
theorem appN_some {N : Nat} {l m : List α} {k : List α → Option β} {r : β} (h : appN N l m k = some r) : ∃ q, q = l ++ m ∧ l.length + m.length ≤ N ∧ k q = some r := by
  unfold appN at h; split at h
  · exact ⟨_, rfl, by assumption, h⟩
  · cases h
theorem appN_eq {N : Nat} {l m : List α} {k : List α → Option β} (h : l.length + m.length ≤ N) : appN N l m k = k (l ++ m) := by unfold appN; rw [if_pos h]
/-- a row with noughts behind it, up to a place -/
def extO (N : Nat) (l : List UInt8) (b : Int) (k : List UInt8 → Option β) : Option β := if (l.length : Int) ≤ b ∧ b ≤ N then k (l ++ List.replicate (b.toNat - l.length) 0) else none
theorem extO_some {N : Nat} {l : List UInt8} {b : Int} {k : List UInt8 → Option β} {r : β} (h : extO N l b k = some r) : ∃ q, q = l ++ List.replicate (b.toNat - l.length) 0 ∧ ((l.length : Int) ≤ b ∧ b ≤ N) ∧ k q = some r := by
  unfold extO at h; split at h
  · exact ⟨_, rfl, by assumption, h⟩
  · cases h
theorem extO_eq {N : Nat} {l : List UInt8} {b : Int} {k : List UInt8 → Option β} (h : (l.length : Int) ≤ b ∧ b ≤ N) : extO N l b k = k (l ++ List.replicate (b.toNat - l.length) 0) := by unfold extO; rw [if_pos h]
end Go.Ow

/-
  What is proved here: arrays of bytes: slices of them, slices as arrays, equality; appends of noughts to a slice that is full; over OwZF.
-/
namespace Go.Ow
open Go.RowKit
set_option linter.unusedVariables false
set_option linter.unusedSimpArgs false

variable {x : Cx} {ops : Array Oper} {Q : Exit → Act → World → Prop} {rest : List Oper} {l : Slots} {own : List Own} {H HF : Heaplet}
variable {ty : TypeId} {d : Nat} {pos : String} {aft : Array Edge} {p q : Operand} {t u : TypeId}

/-- a slice of an array, with bounds that are known -/
theorem R.slcA {n e b o a c sz : Nat} {g : Bool} {lo hi : Option Operand} (hu : x.P.underlying t = some (.array n e)) (hs : shapeOf x.P e = some (g, sz)) (h0 : evo l p = some (.pointer (some ⟨b, o, none⟩)))
    (h1 : bnd l lo 0 a) (h2 : bnd l hi n c) (hac : Nat.ble a c = true) (hcn : Nat.ble c n = true) (han : Nat.blt a n = true) :
    Runs x (.slice t p lo hi none) ty l own H (.slice (some ⟨b, o + a * sz, none⟩) (c - a) (n - a)) := fun ρ w _ _ _ _ hρ hm => by
  have hac := Nat.le_of_ble_eq_true hac
  have hcn := Nat.le_of_ble_eq_true hcn
  have han : a < n := by simpa using han
  simp only [execOp, hρ _ _ h0]
  refine run_v ?_
  have hne : ¬ n = a := by omega
  have key : (Instr.sliceBounds false n n (lo.map ρ) (hi.map ρ) none).run x.P w = .ok (a, c, n) w := by
    rcases lo with _ | lo <;> rcases hi with _ | hi <;> simp only [bnd] at h1 h2
    · subst h1 h2; simp [Instr.sliceBounds, Sem.run_bind]
    · obtain ⟨k2, i2, f2, rfl⟩ := h2; subst h1
      simp [Instr.sliceBounds, hρ _ _ f2, Sem.run_bind, run_sliceBound hcn]
    · obtain ⟨k1, i1, f1, rfl⟩ := h1; subst h2
      simp [Instr.sliceBounds, hρ _ _ f1, Sem.run_bind, run_sliceBound hac]
    · obtain ⟨k1, i1, f1, rfl⟩ := h1; obtain ⟨k2, i2, f2, rfl⟩ := h2
      simp [Instr.sliceBounds, hρ _ _ f1, hρ _ _ f2, Sem.run_bind, run_sliceBound hcn, run_sliceBound hac]
  simp only [Instr.sliceAt, Instr.sureAddr, Sem.run_bind, run_underlying hu, Result.andThen, Sem.run_pure, Option.map_none, key, run_sizeOf hs, if_neg hne, add_lit]
/-- a slice as an array -/
theorem R.s2a {N e n c : Nat} {ao : Option Addr} (hu : x.P.underlying t = some (.array N e)) (h1 : evo l p = some (.slice ao n c)) (hn : N ≤ n) : Runs x (.sliceToArrayPointer t p) ty l own H (.pointer ao) := fun ρ w _ _ _ _ hρ hm => by
  simp only [execOp, hρ _ _ h1]
  refine run_v ?_
  simp only [Instr.arrayAt, Sem.run_bind, run_underlying hu, Result.andThen, if_neg (show ¬ n < N by omega), Sem.run_pure]
theorem R.s2aK {N e n c : Nat} {ao : Option Addr} (hu : x.P.underlying t = some (.array N e)) (h1 : evo l p = some (.slice ao n c)) (hn : Nat.ble N n = true) : Runs x (.sliceToArrayPointer t p) ty l own H (.pointer ao) := R.s2a hu h1 (Nat.le_of_ble_eq_true hn)
theorem R.s2aH {N e n c b o : Nat} {ao : Option Addr} (hu : x.P.underlying t = some (.array N e)) (h1 : evo l p = some (.slice ao n c)) (hn : N ≤ n) (ha : ao = some ⟨b, o, none⟩) : Runs x (.sliceToArrayPointer t p) ty l own H (.pointer (some ⟨b, o, none⟩)) := by
  subst ha; exact R.s2a hu h1 hn
theorem IsSlice.first {ao : Option Addr} {n c N : Nat} {ls m : List UInt8} (h : IsSlice HF RU8 1 (.slice ao n c) ls) (hm : m = ls.take N) (hN : N ≤ ls.length) (h0 : 0 < N) :
    ∃ b o, ao = some ⟨b, o, none⟩ ∧ N ≤ n ∧ ∀ j u, (bvs m)[j]? = some u → HF b (o + j) = some u := by
  subst hm
  obtain ⟨cells, hf, ao', cap', e, hc⟩ := h.cells
  obtain rfl := Flat.bytes_eq hf
  simp only [Value.slice.injEq] at e
  obtain ⟨rfl, rfl, rfl⟩ := e
  rcases hc with rfl | ⟨b, o, rfl, hc⟩
  · simp only [List.length_nil] at hN; omega
  · refine ⟨b, o, rfl, hN, fun j u hj => hc j u ?_⟩
    have : bvs (ls.take N) = (bvs ls).take N := by unfold bvs; rw [List.map_take]
    rw [this, List.getElem?_take] at hj
    split at hj
    · exact hj
    · cases hj

/-! ### Equality -/
theorem bvs_get {m : List UInt8} {i : Nat} (h : i < m.length) : (bvs m)[i]? = some (.int .u8 (m[i].toNat : Int)) := by
  unfold bvs; rw [List.getElem?_map, List.getElem?_eq_getElem h]; rfl
theorem run_eqItems_bytes {P : Program} {w : World} {dd e : Nat} (hu : P.underlying e = some (.int .u8)) (hs : shapeOf P e = some (false, 1)) (hc : P.cellsOf e = 1) (as bs : List UInt8) (hl : bs.length = as.length) :
    ∀ (n k : Nat), k + n = as.length → (Op.eqItems (dd + 1) e (P.cellsOf e) (bvs as).toArray (bvs bs).toArray (List.range' k n)).run P w = .ok (decide (as.drop k = bs.drop k)) w
  | 0, k, h => by
    rw [List.drop_eq_nil_of_le (by omega), List.drop_eq_nil_of_le (by omega)]
    simp [Op.eqItems]
  | n + 1, k, h => by
    have ha : k < as.length := by omega
    have hb : k < bs.length := by omega
    have h1 := run_part1 (P := P) (cs := (bvs as).toArray) (off := k) hs (by simpa using bvs_get ha) w
    have h2 := run_part1 (P := P) (cs := (bvs bs).toArray) (off := k) hs (by simpa using bvs_get hb) w
    have h3 := run_equalIn_int w dd e .u8 .u8 (as[k].toNat : Int) (bs[k].toNat : Int) hu
    have ih := run_eqItems_bytes (w := w) (dd := dd) hu hs hc as bs hl n (k + 1) (by omega)
    rw [List.range'_succ]
    simp only [Op.eqItems, Sem.run_bind, hc, Nat.mul_one, h1, h2, h3, Result.andThen]
    rw [hc] at ih
    rw [List.drop_eq_getElem_cons ha, List.drop_eq_getElem_cons hb]
    by_cases he : as[k] = bs[k]
    · have : ((as[k].toNat : Int) == (bs[k].toNat : Int)) = true := by rw [he]; simp
      rw [this]
      simp only [Bool.not_true, Bool.false_eq_true, if_false, ih, he, List.cons.injEq, true_and]
    · have : ((as[k].toNat : Int) == (bs[k].toNat : Int)) = false := by
        rw [beq_eq_false_iff_ne]; intro e; exact he (UInt8.toNat_inj.1 (by omega))
      simp only [this, Bool.not_false, if_true, Sem.run_pure, List.cons.injEq, he, false_and, decide_false]
theorem run_equalIn_bytes {P : Program} {w : World} {dd t e n : Nat} (ht : P.underlying t = some (.array n e)) (hu : P.underlying e = some (.int .u8)) (hs : shapeOf P e = some (false, 1)) (hc : P.cellsOf e = 1) (as bs : List UInt8) (ha : as.length = n) (hb : bs.length = n) :
    (Op.equalIn (dd + 2) t (.agg (bvs as).toArray) (.agg (bvs bs).toArray)).run P w = .ok (decide (as = bs)) w := by
  have hi : ∃ i, P.info? e = some i := by
    unfold shapeOf at hs
    split at hs
    · rename_i d i h1 h2; exact ⟨i, h2⟩
    · cases hs
  obtain ⟨i, hi⟩ := hi
  rw [run_equalIn_array w (dd + 1) (bvs as).toArray (bvs bs).toArray ht hi, List.range_eq_range', run_eqItems_bytes hu hs hc as bs (by omega) n 0 (by omega)]
  rfl
theorem R.neqArr {n e : Nat} (as bs : List UInt8) {xs ys : Array Value} (ht : x.P.underlying t = some (.array n e)) (hu : x.P.underlying e = some (.int .u8)) (hs : shapeOf x.P e = some (false, 1)) (hc : x.P.cellsOf e = 1) (hg : x.P.eqGuardType x.P.depth t = false)
    (h1 : evo l p = some (.agg xs)) (h2 : evo l q = some (.agg ys)) (hx : (bvs as).toArray = xs) (hy : (bvs bs).toArray = ys) (ha : as.length = n) (hb : bs.length = n) : Runs x (.binOp .neq t p q u) ty l own H (.bool (!decide (as = bs))) := fun ρ w _ _ _ _ hρ hm => by
  subst hx; subst hy
  simp only [execOp, hρ _ _ h1, hρ _ _ h2]
  refine run_v ?_
  rw [Sem.run_bind, run_eqGuard_agg w .neq t p q _ _ hg]
  simp only [Result.andThen, run_neq_struct, run_equalIn_bytes (dd := 9998) ht hu hs hc as bs ha hb]
/-! ### An own array as a row -/
theorem RowOf.arr {H1 : Heaplet} {b T N : Nat} {L : List UInt8} {xs : Array Value} {B : Nat} (hx : (bvs L).toArray = xs) (hN : L.length = N) (hB : B ≤ b) (hm : Nat.ble N 4096 = true) : RowOf H1 RU8 B T 1 (.slice (some ⟨b, 0, none⟩) N N) L [(b, .cells xs T (0, 0))] := by
  subst hx; subst hN
  have hm := Nat.le_of_ble_eq_true hm
  refine ⟨bvs L, ⟨by simp [bvs], .inr ⟨b, L.length, _, rfl, rfl, hB, Nat.le_refl _, ?_, by simp [bvs], by rw [Nat.mul_one, List.toList_toArray]; exact List.take_of_length_le (by simp [bvs])⟩⟩, Flat.bytes L, (Flat.bytes (H := H1) L).one' RU8.one⟩
  unfold maxLen; omega

/-! ### Append of noughts to a slice that is full -/
theorem append_fullz {P : Program} {w : World} {H : Heaplet} {t tn ty E : TypeId} {kn : IntKind} {z : Value} {size bytes : Nat} (hu : P.underlying t = some (.slice E)) (hun : P.underlying tn = some (.int kn)) (he : eInfo P E = some (z, size, bytes))
    {n N : Nat} {base : Option Addr} {cells : List Value} (ha : Agrees H w) (h0 : cells.length = n * size) (hold : (Builtin.firstCells size n (.slice base n n)).run P w.drew = .ok cells.toArray w.drew) (hN : 0 < N)
    (hl : n + N ≤ LIM) (hbb : Nat.ble bytes 128 = true) {B : Nat} (hB : B ≤ w.heap.size) :
    ∃ v' K' w', (Builtin.append_ #[t, tn] ty #[.slice base n n, .int .i64 (N : Int)]).run P w = .ok v' w' ∧ Row B E size v' (cells ++ (List.replicate N z.cells.toList).flatten) (n + N) K' ∧ Mem w H [] K' H w' := by
  obtain ⟨i, hi, hz, hsz, hby, hzs, hpos⟩ := eInfo_parts he
  subst hsz; subst hby
  have hnl : ((List.replicate N z.cells.toList).flatten).length = N * i.size := by simp [hzs]
  have hlen : (cells ++ (List.replicate N z.cells.toList).flatten).length = (n + N) * i.size := by rw [List.length_append, h0, hnl, Nat.add_mul]
  have hlb := lim_bytes hl hbb
  have hlb2 : N * i.bytes ≤ 140737488355328 := Nat.le_trans (Nat.mul_le_mul_right _ (by omega)) hlb
  have h48i : ¬ (281474976710656 < (N : Int) * (i.bytes : Int)) := by rw [← Int.natCast_mul]; omega
  have hzc : (Builtin.zeroCells z.cells N).toList = (List.replicate N z.cells.toList).flatten := by
    have := madeCells_flat z.cells N (by rw [hzs]; exact hpos)
    rw [← this]; simp [Builtin.zeroCells, madeCells]
  have hrun := Lib.run_append_grow_zeros (P := P) w t tn ty E i z .i64 kn hu hun hi hz base n n cells hold N (by omega) hpos (by omega) (by unfold LIM at hl; omega) (by omega) (growslice_fits (by omega) hlb)
  have hge := grownCap_ge w (n + N) n E
  have hcm : grownCap w (n + N) n E ≤ maxLen := grownCap_le_maxLen w (n + N) n E (lim_max hl)
  obtain ⟨C, hC⟩ : ∃ C, C = cells.toArray ++ Builtin.zeroCells z.cells N ++ Builtin.zeroCells z.cells (grownCap w (n + N) n E - (n + N)) := ⟨_, rfl⟩
  rw [← hC] at hrun
  refine ⟨_, [(w.heap.size, .cells C E (0, 0))], _, hrun, ⟨hlen, .inr ⟨w.heap.size, _, C, rfl, rfl, hB, hge, hcm, ?_, ?_⟩⟩, ?_⟩
  · rw [hC]; simp only [Array.size_append, List.size_toArray, size_zeroCells, hzs, h0, ← Nat.add_mul]
    refine Nat.mul_le_mul_right _ ?_; omega
  · rw [hC]; simp only [Array.toList_append, List.append_assoc, List.toList_toArray, hzc]
    rw [← List.append_assoc, ← hlen]; exact List.take_left
  · have h := Mem.alloc (w := w.drew) (H := H) (fun b o v e => ha b o v e) (.cells C E (0, 0))
    exact ⟨h.agr, h.ok, ⟨h.kept.os, h.kept.tape, h.kept.output, h.kept.size, Nat.le_trans (Nat.le_succ _) h.kept.drawn, h.kept.block⟩, h.fresh, h.le, h.grow, h.soft⟩
theorem JL.appZC {α : Type} {R : Rep α} {tn E : TypeId} {z : Value} {size bytes n N : Nat} {kn : IntKind} {ao : Option Addr} {y : α} {ls rs : List α} {H1 : Heaplet} (hu : x.P.underlying t = some (.slice E)) (hun : x.P.underlying tn = some (.int kn)) (he : eInfo x.P E = some (z, size, bytes))
    (h1 : evo l p = some (.slice ao n n)) (hR1 : R.One) (hle : Hle H1 H) (hs : IsSlice H1 R size (.slice ao n n) ls) (hF : ∀ cs y, R H1 cs y → R HF cs y) (h2 : evo l q = some (.int .i64 (N : Int))) (hR : ∀ H, R H z.cells.toList y) (hN : Nat.blt 0 N = true)
    (hrs : rs = ls ++ List.replicate N y) (hl : ls.length + N ≤ LIM) (hb : Nat.ble bytes 128 = true) (hd : Nat.blt d x.n = true)
    (h : ∀ v' K', RowOf HF R x.w0.heap.size E size v' rs K' → JL x ops Q rest ((d, v') :: l) (K' :: own) H) :
    JL x ops Q (⟨some d, .call ⟨.builtin .append, #[p, q], #[t, tn]⟩, ty, pos, aft, none⟩ :: rest) l own H := fun a w hh => by
  subst hrs
  have hN : 0 < N := by simpa using hN
  simp only [wpLs, wanted_none, if_true]
  refine ⟨fun _ _ => trivial, ?_⟩
  obtain ⟨cells, hf, ao', cap', ev, hc⟩ := hs.cells
  simp only [Value.slice.injEq] at ev
  obtain ⟨rfl, rfl, -⟩ := ev
  have hlen : cells.length = ls.length * size := hf.length
  have hold : (Builtin.firstCells size ls.length (.slice ao ls.length ls.length)).run x.P w.drew = .ok cells.toArray w.drew := by
    rcases hc with rfl | ⟨b, o, rfl, hc⟩
    · simp only [Flat] at hf; subst hf
      cases ao with
      | none => simp [Builtin.firstCells, go_sem]
      | some a => exact run_firstCells_some (P := x.P) w.drew size 0 a 0 0 [] (by simp) (fun j u h => by simp at h)
    · exact run_firstCells_some (P := x.P) w.drew size ls.length ⟨b, o, none⟩ ls.length ls.length cells hlen (fun j u h => by
        rw [add_lit]; exact hh.mem.agr _ _ _ (hle _ _ _ (hc j u h)))
  obtain ⟨v', K', w', hrun, hrow', hmem⟩ := append_fullz (ty := ty) hu hun he hh.mem.agr hlen hold hN hl hb hh.mem.kept.size
  have hrun' : (execOp a.eval ⟨some d, .call ⟨.builtin .append, #[p, q], #[t, tn]⟩, ty, pos, aft, none⟩).run x.P w = .ok (.value v') w' := by
    have e1 := eval_of hh h1
    have e2 := eval_of hh h2
    have : (execOp a.eval ⟨some d, .call ⟨.builtin .append, #[p, q], #[t, tn]⟩, ty, pos, aft, none⟩).run x.P w = ((Builtin.append_ #[t, tn] ty #[.slice ao ls.length ls.length, .int .i64 (N : Int)]).run x.P w).andThen (fun r w'' => .ok (.value r) w'') := by
      generalize a.eval = ρ at e1 e2
      have e3 : Array.map ρ #[p, q] = #[.slice ao ls.length ls.length, .int .i64 (N : Int)] := by simp [e1, e2]
      simp only [execOp, resolve, e3, Sem.run_bind, Sem.run_pure, Result.andThen, invoke, builtin]
    rw [this, hrun]; rfl
  rw [semAt_of rfl, hrun']
  have hzl : z.cells.toList.length = size := by
    obtain ⟨i, hi, hz, hsz, hby, hzs, hpos⟩ := eInfo_parts he
    simpa using hzs
  have hfl := flat_replicate (R := R) (H := HF) (size := size) (hR HF) hzl N
  refine h v' K' ⟨cells ++ (List.replicate N z.cells.toList).flatten, by simpa using hrow', Flat.append hfl (hf.conv hF), fun u hu => (List.mem_append.1 hu).elim (hf.one' hR1 u) (hfl.one' hR1 u)⟩ _ _
    (Holds.put (x := x) (l := l) ⟨hh.size, hh.ds, hh.slots, ?_⟩ hd v')
  simpa using hh.mem.go0 (K' := [K']) (by simpa using hmem)
end Go.Ow

/-
  What is proved here: cells that are made, at any time, in a region whose order Go leaves open: told apart from its other operations; over OwZG.
-/
namespace Go.Ow
open Go.RowKit
set_option linter.unusedVariables false
set_option linter.unusedSimpArgs false

variable {x : Cx} {ops : Array Oper} {Q : Exit → Act → World → Prop} {l : Slots} {own : List Own} {H : Heaplet} {so : List Own} {sH : Heaplet}

/-- an operation that makes a cell: its place, its slot -/
structure ASpec where
  i : Nat
  d : Nat
  T : TypeId
  z : Value
abbrev AM := List (ASpec × Option Nat)
def AM.sl : AM → Slots
  | [] => []
  | (s, some b) :: r => (s.d, .pointer (some ⟨b, 0, none⟩)) :: AM.sl r
  | (s, none) :: r => AM.sl r
def AM.ow : AM → List Own
  | [] => []
  | (s, some b) :: r => [(b, .cells s.z.cells s.T (0, 0))] :: AM.ow r
  | (s, none) :: r => AM.ow r
def AM.lst : AM → Array Bool → Array Bool
  | [], a => a
  | (s, some _) :: r, a => AM.lst r (a.setIfInBounds s.i true)
  | (s, none) :: r, a => AM.lst r a
def AM.left : AM → Nat
  | [] => 0
  | (_, some _) :: r => AM.left r
  | (_, none) :: r => AM.left r + 1
def AM.bs (m : AM) : List Bool := m.map (·.2.isSome)
def lstB : List ASpec → List Bool → Array Bool → Array Bool
  | s :: r, true :: bs, a => lstB r bs (a.setIfInBounds s.i true)
  | _ :: r, false :: bs, a => lstB r bs a
  | _, _, a => a
def undone : List ASpec → List Bool → List Nat
  | _ :: r, true :: bs => undone r bs
  | s :: r, false :: bs => s.i :: undone r bs
  | _, _ => []
def allB : Nat → List (List Bool)
  | 0 => [[]]
  | n + 1 => (allB n).flatMap fun bs => [true :: bs, false :: bs]
theorem allB_mem : ∀ (bs : List Bool), bs ∈ allB bs.length
  | [] => by simp [allB]
  | b :: bs => by
    simp only [List.length_cons, allB, List.mem_flatMap]
    exact ⟨bs, allB_mem bs, by cases b <;> simp⟩
theorem AM.lst_eq : ∀ (m : AM) (a : Array Bool), m.lst a = lstB (m.map (·.1)) m.bs a
  | [], _ => rfl
  | (s, some b) :: r, a => AM.lst_eq r _
  | (s, none) :: r, a => AM.lst_eq r _
theorem set_true_comm (a : Array Bool) (i j : Nat) : (a.setIfInBounds i true).setIfInBounds j true = (a.setIfInBounds j true).setIfInBounds i true := by
  by_cases h : i = j
  · subst h; rfl
  · exact Array.setIfInBounds_comm _ _ h
theorem AM.lst_set : ∀ (m : AM) (a : Array Bool) (k : Nat), (m.lst a).setIfInBounds k true = m.lst (a.setIfInBounds k true)
  | [], _, _ => rfl
  | (s, some b) :: r, a, k => by show (AM.lst r _).setIfInBounds k true = AM.lst r _; rw [AM.lst_set r, set_true_comm]
  | (s, none) :: r, a, k => AM.lst_set r a k
theorem AM.lst_none : ∀ (A : List ASpec) (a : Array Bool), AM.lst (A.map fun s => (s, none)) a = a
  | [], _ => rfl
  | s :: r, a => AM.lst_none r a
theorem AM.sl_none : ∀ (A : List ASpec), AM.sl (A.map fun s => (s, none)) = []
  | [] => rfl
  | s :: r => AM.sl_none r
theorem AM.ow_none : ∀ (A : List ASpec), AM.ow (A.map fun s => (s, none)) = []
  | [] => rfl
  | s :: r => AM.ow_none r
theorem AM.left_none : ∀ (A : List ASpec), AM.left (A.map fun s => (s, none)) = A.length
  | [] => rfl
  | s :: r => by show AM.left (r.map fun s => (s, none)) + 1 = _; rw [AM.left_none r]; rfl
/-- one that is not made yet is made -/
theorem AM.split : ∀ (m : AM) (k : Nat), k ∈ undone (m.map (·.1)) m.bs → ∃ m1 m2 s, m = m1 ++ (s, none) :: m2 ∧ s.i = k
  | (s, some b) :: r, k, h => by
    obtain ⟨m1, m2, s', rfl, e⟩ := AM.split r k h
    exact ⟨(s, some b) :: m1, m2, s', rfl, e⟩
  | (s, none) :: r, k, h => by
    have h' : k ∈ s.i :: undone (r.map (·.1)) (AM.bs r) := h
    rcases List.mem_cons.1 h' with e | e
    · exact ⟨[], r, s, rfl, e.symm⟩
    · obtain ⟨m1, m2, s', rfl, e2⟩ := AM.split r k e
      exact ⟨(s, none) :: m1, m2, s', rfl, e2⟩
theorem AM.made_left : ∀ (m1 m2 : AM) (s : ASpec) (b : Nat), (m1 ++ (s, none) :: m2).left = (m1 ++ (s, some b) :: m2).left + 1
  | [], _, _, _ => rfl
  | (_, some _) :: r, m2, s, b => AM.made_left r m2 s b
  | (_, none) :: r, m2, s, b => by show AM.left (r ++ _) + 1 = AM.left (r ++ _) + 1 + 1; rw [AM.made_left r m2 s b]
theorem AM.made_lst : ∀ (m1 m2 : AM) (s : ASpec) (b : Nat) (a : Array Bool), (m1 ++ (s, some b) :: m2).lst a = (m1 ++ (s, none) :: m2).lst (a.setIfInBounds s.i true)
  | [], _, _, _, _ => rfl
  | (t, some _) :: r, m2, s, b, a => by show AM.lst (r ++ _) _ = AM.lst (r ++ _) _; rw [AM.made_lst r m2 s b, set_true_comm]
  | (t, none) :: r, m2, s, b, a => AM.made_lst r m2 s b a
theorem AM.made_map : ∀ (m1 m2 : AM) (s : ASpec) (b : Nat), (m1 ++ (s, some b) :: m2).map (·.1) = (m1 ++ (s, none) :: m2).map (·.1) := fun m1 m2 s b => by simp
theorem AM.made_ow : ∀ (m1 m2 : AM) (s : ASpec) (b : Nat), (AM.ow (m1 ++ (s, some b) :: m2)).Perm ([(b, .cells s.z.cells s.T (0, 0))] :: AM.ow (m1 ++ (s, none) :: m2))
  | [], _, _, _ => List.Perm.refl _
  | (t, some c) :: r, m2, s, b => ((AM.made_ow r m2 s b).cons _).trans (List.Perm.swap _ _ _)
  | (t, none) :: r, m2, s, b => AM.made_ow r m2 s b
theorem lk_app : ∀ (l t : Slots) (i : Nat), lk (l ++ t) i = match lk l i with | some v => some v | none => lk t i
  | [], _, _ => rfl
  | (k, v) :: r, t, i => by
    simp only [List.cons_append, lk]
    cases h : Nat.beq k i with
    | true => rfl
    | false => exact lk_app r t i
theorem lk_appL {l t : Slots} {i : Nat} {v : Value} (h : lk l i = some v) : lk (l ++ t) i = some v := by rw [lk_app, h]
theorem evo_app {l t : Slots} {o : Operand} {v : Value} (h : evo l o = some v) : evo (l ++ t) o = some v := by
  cases o with
  | tmp k => exact lk_appL h
  | const u => exact h
  | global g => exact h
  | func f => exact h
theorem AM.made_lk : ∀ (m1 m2 : AM) (s : ASpec) (b : Nat) (i : Nat) (v : Value), ((m1 ++ (s, none) :: m2).map (fun p => p.1.d)).Nodup → lk (AM.sl (m1 ++ (s, some b) :: m2)) i = some v →
    (i = s.d ∧ v = .pointer (some ⟨b, 0, none⟩)) ∨ (i ≠ s.d ∧ lk (AM.sl (m1 ++ (s, none) :: m2)) i = some v)
  | [], m2, s, b, i, v, hn, h => by
    have h' : lk ((s.d, .pointer (some ⟨b, 0, none⟩)) :: AM.sl m2) i = some v := h
    simp only [lk] at h'
    cases hb : Nat.beq s.d i with
    | true => rw [hb] at h'; simp at h'; exact .inl ⟨(Nat.eq_of_beq_eq_true hb).symm, h'.symm⟩
    | false =>
      rw [hb] at h'
      exact .inr ⟨fun e => by subst e; simp at hb, h'⟩
  | (t, some c) :: r, m2, s, b, i, v, hn, h => by
    have h' : lk ((t.d, .pointer (some ⟨c, 0, none⟩)) :: AM.sl (r ++ (s, some b) :: m2)) i = some v := h
    have hn' : t.d ∉ (r ++ (s, none) :: m2).map (fun p => p.1.d) ∧ ((r ++ (s, none) :: m2).map (fun p => p.1.d)).Nodup := by
      rw [List.cons_append, List.map_cons, List.nodup_cons] at hn; exact hn
    have hts : t.d ≠ s.d := fun e => hn'.1 (by rw [e]; simp)
    show _ ∨ (_ ∧ lk ((t.d, .pointer (some ⟨c, 0, none⟩)) :: AM.sl (r ++ (s, none) :: m2)) i = some v)
    simp only [lk] at h' ⊢
    cases hb : Nat.beq t.d i with
    | true =>
      rw [hb] at h'
      have e : t.d = i := Nat.eq_of_beq_eq_true hb
      exact .inr ⟨by rw [← e]; exact hts, h'⟩
    | false => rw [hb] at h'; exact AM.made_lk r m2 s b i v hn'.2 h'
  | (t, none) :: r, m2, s, b, i, v, hn, h => by
    have hn' : ((r ++ (s, none) :: m2).map (fun p => p.1.d)).Nodup := by
      rw [List.cons_append, List.map_cons, List.nodup_cons] at hn; exact hn.2
    exact AM.made_lk r m2 s b i v hn' h

/-- what is asked of the list -/
def AOk (x : Cx) (ops : Array Oper) : List ASpec → Prop
  | [] => True
  | s :: r => (∃ ty pos aft, ops[s.i]? = some ⟨some s.d, .alloc s.T, ty, pos, aft, none⟩ ∧ zeroOf x.P s.T = some s.z ∧ Nat.blt s.d x.n = true) ∧ AOk x ops r
theorem AOk.at {A : List ASpec} (h : AOk x ops A) {s : ASpec} (hs : s ∈ A) : ∃ ty pos aft, ops[s.i]? = some ⟨some s.d, .alloc s.T, ty, pos, aft, none⟩ ∧ zeroOf x.P s.T = some s.z ∧ Nat.blt s.d x.n = true := by
  induction A with
  | nil => cases hs
  | cons t r ih =>
    rcases List.mem_cons.1 hs with rfl | h'
    · exact h.1
    · exact ih h.2 h'
def freeIn (l : Slots) : List ASpec → Bool
  | [] => true
  | s :: r => (lk l s.d).isNone && r.all (fun t => !Nat.beq t.d s.d) && freeIn l r
theorem freeIn.lk {A : List ASpec} (h : freeIn l A = true) {s : ASpec} (hs : s ∈ A) : lk l s.d = none := by
  induction A with
  | nil => cases hs
  | cons t r ih =>
    simp only [freeIn, Bool.and_eq_true] at h
    rcases List.mem_cons.1 hs with rfl | h'
    · simpa using h.1.1
    · exact ih h.2 h'
theorem freeIn.nodup {A : List ASpec} (h : freeIn l A = true) : (A.map (·.d)).Nodup := by
  induction A with
  | nil => exact List.nodup_nil
  | cons t r ih =>
    simp only [freeIn, Bool.and_eq_true] at h
    rw [List.map_cons, List.nodup_cons]
    refine ⟨fun hm => ?_, ih h.2⟩
    obtain ⟨s, hs, e⟩ := List.mem_map.1 hm
    have := List.all_eq_true.1 h.1.2 s hs
    simp [e] at this

def JAA (x : Cx) (ops : Array Oper) (Q : Exit → Act → World → Prop) (so : List Own) (sH : Heaplet) (A : List ASpec) (fuel : Nat) (listed : Array Bool) (l : Slots) (own : List Own) (H : Heaplet) : Prop :=
  ∀ m : AM, m.map (·.1) = A → (∀ p ∈ m, ∀ b, p.2 = some b → x.w0.heap.size ≤ b) → JA x ops Q so sH (fuel + m.left) (m.lst listed) (l ++ m.sl) (own ++ m.ow) H
def JOA (x : Cx) (ops : Array Oper) (Q : Exit → Act → World → Prop) (so : List Own) (sH : Heaplet) (A : List ASpec) (fuel : Nat) (listed : Array Bool) (i : Nat) (l : Slots) (own : List Own) (H : Heaplet) : Prop :=
  ∀ m : AM, m.map (·.1) = A → (∀ p ∈ m, ∀ b, p.2 = some b → x.w0.heap.size ≤ b) → JO x ops Q so sH (fuel + m.left) (m.lst listed) i (l ++ m.sl) (own ++ m.ow) H

theorem JAA.start (A : List ASpec) {fuel N : Nat} {listed : Array Bool} (hN : fuel + A.length = N) (h : JAA x ops Q so sH A fuel listed l own H) : JA x ops Q so sH N listed l own H := by
  have := h (A.map fun s => (s, none)) (by simp [Function.comp_def]) (fun p hp b e => by obtain ⟨s, -, rfl⟩ := List.mem_map.1 hp; cases e)
  rw [AM.lst_none, AM.sl_none, AM.ow_none, AM.left_none, hN] at this
  simpa using this
theorem SubO.app : ∀ {so own : List Own} (t : List Own), SubO so own → SubO so (own ++ t)
  | [], _, _, _ => trivial
  | s :: r, own, t, h => by
    obtain ⟨⟨i, hi⟩, h2⟩ := h
    refine ⟨⟨i, ?_⟩, SubO.app t h2⟩
    rw [List.getElem?_append_left (List.getElem?_eq_some_iff.1 hi).1]; exact hi
theorem JN.slots {K : Act → World → Prop} {l' : Slots} (h : ∀ i v, lk l' i = some v → lk l i = some v) (hk : JN x K l' own H) : JN x K l own H := fun a w hh =>
  hk a w ⟨hh.size, hh.ds, fun i v e => hh.slots i v (h i v e), hh.mem⟩
/-- a cell is made -/
theorem JOA.make {A : List ASpec} {F : Nat} {listed : Array Bool} (hA : AOk x ops A) (hle : Hle sH H) (hso : SubO so own) (hf : freeIn l A = true) {m : AM} (hm : m.map (·.1) = A) (hb : ∀ p ∈ m, ∀ b, p.2 = some b → x.w0.heap.size ≤ b)
    {k : Nat} (hk : k ∈ undone A m.bs) (ih : ∀ m' : AM, m'.left < m.left → m'.map (·.1) = A → (∀ p ∈ m', ∀ b, p.2 = some b → x.w0.heap.size ≤ b) → JA x ops Q so sH (F + m'.left) (m'.lst listed) (l ++ m'.sl) (own ++ m'.ow) H) :
    ∃ f, F + m.left = f + 1 ∧ JO x ops Q so sH f (m.lst listed) k (l ++ m.sl) (own ++ m.ow) H := by
  rw [← hm] at hk
  obtain ⟨m1, m2, s, rfl, rfl⟩ := AM.split m k hk
  have hsA : s ∈ A := by rw [← hm]; simp
  obtain ⟨ty, pos, aft, ho, hz, hd⟩ := hA.at hsA
  have hl := AM.made_left m1 m2 s 0
  refine ⟨F + AM.left (m1 ++ (s, some 0) :: m2), by omega, ?_⟩
  refine JO.step ho trivial rfl (fun K hK => ?_)
  refine JL.alloc hz hd (fun b hbb => ?_)
  refine JL.nil ?_
  have hleft : AM.left (m1 ++ (s, some b) :: m2) = AM.left (m1 ++ (s, some 0) :: m2) := by
    have := AM.made_left m1 m2 s b; omega
  have hmm : (m1 ++ (s, some b) :: m2).map (·.1) = A := by rw [AM.made_map]; exact hm
  have hJ := ih (m1 ++ (s, some b) :: m2) (by omega) hmm (fun p hp b' e => by
    rcases List.mem_append.1 hp with h | h
    · exact hb p (by simp [h]) b' e
    · rcases List.mem_cons.1 h with rfl | h
      · simp at e; subst e; exact hbb
      · exact hb p (by simp [h]) b' e)
  rw [hleft, AM.made_lst, ← AM.lst_set] at hJ
  have hnd : ((m1 ++ (s, none) :: m2).map (fun p => p.1.d)).Nodup := by
    have := freeIn.nodup hf; rw [← hm, List.map_map] at this; exact this
  have hln := freeIn.lk hf hsA
  have hsub : ∀ i v, lk (l ++ AM.sl (m1 ++ (s, some b) :: m2)) i = some v → lk ((s.d, .pointer (some ⟨b, 0, none⟩)) :: (l ++ AM.sl (m1 ++ (s, none) :: m2))) i = some v := fun i v e => by
    rw [lk_app] at e
    simp only [lk]
    cases hli : lk l i with
    | some u =>
      rw [hli] at e; simp at e; subst e
      have : Nat.beq s.d i = false := by
        cases hbq : Nat.beq s.d i with
        | false => rfl
        | true => have := Nat.eq_of_beq_eq_true hbq; rw [← this, hln] at hli; cases hli
      rw [this]; exact lk_appL hli
    | none =>
      rw [hli] at e
      rcases AM.made_lk m1 m2 s b i v hnd e with ⟨rfl, rfl⟩ | ⟨hne, h⟩
      · simp
      · have : Nat.beq s.d i = false := by
          cases hbq : Nat.beq s.d i with
          | false => rfl
          | true => exact absurd (Nat.eq_of_beq_eq_true hbq).symm hne
        rw [this, lk_app, hli]; exact h
  have hperm : ([(b, Obj.cells s.z.cells s.T (0, 0))] :: (own ++ AM.ow (m1 ++ (s, none) :: m2))).flatten.Perm (own ++ AM.ow (m1 ++ (s, some b) :: m2)).flatten := by
    refine List.Perm.flatten ?_
    refine List.Perm.trans ?_ ((AM.made_ow m1 m2 s b).symm.append_left own)
    exact List.perm_middle.symm
  refine JN.slots hsub (JN.perm hperm (hK _ _ _ ?_ hJ))
  exact stab_of hle (hso.app _)

/-- some of the others may come up, too -/
theorem JAA.many {A : List ASpec} (R : List Nat) {fuel : Nat} {listed : Array Bool} (hA : AOk x ops A) (hle : Hle sH H) (hso : SubO so own) (hf : freeIn l A = true)
    (hr : (allB A.length).all (fun bs => !(Region.ready .any ops (lstB A bs listed)).isEmpty && (Region.ready .any ops (lstB A bs listed)).all (fun k => R.contains k || (undone A bs).contains k)) = true)
    (h : ∀ i ∈ R, JOA x ops Q so sH A fuel listed i l own H) : JAA x ops Q so sH A (fuel + 1) listed l own H := by
  intro m
  obtain ⟨n, hn⟩ : ∃ n, n = m.left := ⟨_, rfl⟩
  induction n using Nat.strongRecOn generalizing m with
  | _ n ih =>
    intro hm hb a w hh
    have hmem : m.bs ∈ allB A.length := by have := allB_mem m.bs; rwa [show m.bs.length = A.length by rw [← hm]; simp [AM.bs]] at this
    have h1 := List.all_eq_true.1 hr _ hmem
    simp only [Bool.and_eq_true] at h1
    have hlst : m.lst listed = lstB A m.bs listed := by rw [AM.lst_eq, hm]
    rw [← hlst] at h1
    rw [show fuel + 1 + m.left = (fuel + m.left) + 1 by omega]
    refine ⟨fun h0 => ?_, fun k hk => ?_⟩
    · rw [h0] at h1; simp at h1
    · have hk2 := List.all_eq_true.1 h1.2 k hk
      simp only [Bool.or_eq_true, List.contains_iff_mem] at hk2
      rcases hk2 with hk2 | hk2
      · exact h k hk2 m hm hb a w hh
      · obtain ⟨f, hf1, hJ⟩ := JOA.make (F := fuel + 1) (listed := listed) (Q := Q) hA hle hso hf hm hb hk2 (fun m' hlt hm' hb' => ih m'.left (by omega) m' rfl hm' hb')
        rw [show fuel + m.left = f by omega]
        exact hJ a w hh
/-- nothing else may come up, as long as one of them is not made -/
def AllA : List ASpec → Nat → (AM → Prop) → Prop
  | [], _, P => P []
  | s :: r, N, P => ∀ b, N ≤ b → AllA r N (fun m => P ((s, some b) :: m))
theorem AllA.at : ∀ {A : List ASpec} {N : Nat} {P : AM → Prop}, AllA A N P → ∀ m : AM, m.map (·.1) = A → m.left = 0 → (∀ p ∈ m, ∀ b, p.2 = some b → N ≤ b) → P m
  | [], _, _, h, [], _, _, _ => h
  | s :: r, N, P, h, (t, some b) :: m, hm, h0, hb => by
    simp only [List.map_cons, List.cons.injEq] at hm
    obtain ⟨rfl, hm⟩ := hm
    exact AllA.at (h b (hb (t, some b) (by simp) b rfl)) m hm h0 (fun p hp => hb p (by simp [hp]))
  | s :: r, N, P, h, (t, none) :: m, hm, h0, hb => by cases h0
theorem left_undone : ∀ (m : AM), m.left ≠ 0 → m.bs.all id = false
  | [], h => absurd rfl h
  | (_, some _) :: r, h => by have := left_undone r h; simpa [AM.bs] using this
  | (_, none) :: r, h => rfl
theorem JAA.all {A : List ASpec} {fuel : Nat} {listed : Array Bool} (hA : AOk x ops A) (hle : Hle sH H) (hso : SubO so own) (hf : freeIn l A = true)
    (hr : (allB A.length).all (fun bs => bs.all id || (!(Region.ready .any ops (lstB A bs listed)).isEmpty && (Region.ready .any ops (lstB A bs listed)).all (fun k => (undone A bs).contains k))) = true)
    (h : AllA A x.w0.heap.size (fun m => JA x ops Q so sH fuel (m.lst listed) (l ++ m.sl) (own ++ m.ow) H)) : JAA x ops Q so sH A fuel listed l own H := by
  intro m
  obtain ⟨n, hn⟩ : ∃ n, n = m.left := ⟨_, rfl⟩
  induction n using Nat.strongRecOn generalizing m with
  | _ n ih =>
    intro hm hb
    by_cases h0 : m.left = 0
    · rw [h0]; exact h.at m hm h0 hb
    intro a w hh
    have hmem : m.bs ∈ allB A.length := by have := allB_mem m.bs; rwa [show m.bs.length = A.length by rw [← hm]; simp [AM.bs]] at this
    have h1 := List.all_eq_true.1 hr _ hmem
    rw [left_undone m h0] at h1
    simp only [Bool.false_or, Bool.and_eq_true] at h1
    have hlst : m.lst listed = lstB A m.bs listed := by rw [AM.lst_eq, hm]
    rw [← hlst] at h1
    obtain ⟨f, hf0⟩ : ∃ f, fuel + m.left = f + 1 := ⟨fuel + m.left - 1, by omega⟩
    rw [hf0]
    refine ⟨fun h0 => ?_, fun k hk => ?_⟩
    · rw [h0] at h1; simp at h1
    · have hk2 := List.all_eq_true.1 h1.2 k hk
      simp only [List.contains_iff_mem] at hk2
      obtain ⟨f', hf1, hJ⟩ := JOA.make (F := fuel) (listed := listed) (Q := Q) hA hle hso hf hm hb hk2 (fun m' hlt hm' hb' => ih m'.left (by omega) m' rfl hm' hb')
      rw [show f = f' by omega]
      exact hJ a w hh

/-- 'l2' is 'l1', and the tail behind it -/
inductive AppL {α : Type} (t : List α) : List α → List α → Prop
  | nil : AppL t [] t
  | cons {a : α} {l1 l2 : List α} (h : AppL t l1 l2) : AppL t (a :: l1) (a :: l2)
theorem AppL.eq {α : Type} {t l1 l2 : List α} (h : AppL t l1 l2) : l2 = l1 ++ t := by
  induction h with
  | nil => rfl
  | cons _ ih => rw [ih]; rfl
theorem guard_app {t : Slots} {g : Option (Nat × Bool)} (h : guardYes ops l g) : guardYes ops (l ++ t) g := by
  cases g with
  | none => trivial
  | some jb => obtain ⟨j, b⟩ := jb; obtain ⟨k, oj, h1, h2, h3⟩ := h; exact ⟨k, oj, h1, h2, lk_appL h3⟩
theorem JOA.step {A : List ASpec} {fuel i : Nat} {listed listed' : Array Bool} {dst : Option Tmp} {op : Op} {ty : TypeId} {pos : String} {aft : Array Edge} {g : Option (Nat × Bool)}
    (ho : ops[i]? = some ⟨dst, op, ty, pos, aft, g⟩) (hg : guardYes ops l g) (hl : listed.setIfInBounds i true = listed')
    (h : ∀ (tl : Slots) (to : List Own) (K : Act → World → Prop), (∀ {l' own' H' l2 own2}, AppL tl l' l2 → AppL to own' own2 → (∀ a w, Holds x l2 own2 H' a w → Stab so sH w) → JAA x ops Q so sH A fuel listed' l' own' H' → JN x K l2 own2 H') →
      JL x ops (fun e a w => match e with | .normal => K a w | e => Q e a w) [⟨dst, op, ty, pos, aft, none⟩] (l ++ tl) (own ++ to) H) :
    JOA x ops Q so sH A fuel listed i l own H := fun m hm hb => by
  refine JO.step ho (guard_app hg) rfl (fun K hK => h m.sl m.ow K (fun {l' own' H' l2 own2} e1 e2 hst hJ => ?_))
  have e1 := e1.eq
  have e2 := e2.eq
  subst e1; subst e2
  refine hK _ _ _ hst ?_
  have := hJ m hm hb
  rw [← hl, ← AM.lst_set] at this
  exact this
theorem Runs.app {op : Op} {ty : TypeId} {v : Value} {t : Slots} (h : Runs x op ty l own H v) : Runs x op ty (l ++ t) own H v := fun ρ w d pos aft g hρ hs => h ρ w d pos aft g (fun o u e => hρ o u (evo_app e)) hs
/-- it may be taken now, whatever was made -/
def TakeA (ops : Array Oper) (A : List ASpec) (listed : Array Bool) (i : Nat) : Bool := (allB A.length).all fun bs => (Region.ready .any ops (lstB A bs listed)).contains i && Region.free .any ops (lstB A bs listed) i
theorem TakeA.take {A : List ASpec} {listed : Array Bool} {i : Nat} (h : TakeA ops A listed i = true) {m : AM} (hm : m.map (·.1) = A) : Take ops (m.lst listed) i (m.lst (listed.setIfInBounds i true)) := by
  have hmem : m.bs ∈ allB A.length := by have := allB_mem m.bs; rwa [show m.bs.length = A.length by rw [← hm]; simp [AM.bs]] at this
  have h1 := List.all_eq_true.1 h _ hmem
  have hlst : m.lst listed = lstB A m.bs listed := by rw [AM.lst_eq, hm]
  rw [← hlst] at h1
  simp only [Bool.and_eq_true] at h1
  exact ⟨h1.1, h1.2, AM.lst_set _ _ _⟩
theorem JAA.val {A : List ASpec} {fuel i d : Nat} {listed listed' : Array Bool} {op : Op} {ty : TypeId} {pos : String} {aft : Array Edge} {g : Option (Nat × Bool)} {v : Value} (hreg : Reg ops) (hc : Calm Q)
    (ho : ops[i]? = some ⟨some d, op, ty, pos, aft, g⟩) (ht : TakeA ops A listed i = true) (hl : listed.setIfInBounds i true = listed') (hg : guardYes ops l g) (hle : Hle sH H) (hso : SubO so own) (hr : Runs x op ty l so sH v) (hd : Nat.blt d x.n = true)
    (h : JAA x ops Q so sH A fuel listed' ((d, v) :: l) own H) : JAA x ops Q so sH A (fuel + 1) listed l own H := fun m hm hb => by
  rw [show fuel + 1 + m.left = (fuel + m.left) + 1 by omega]
  subst hl
  exact JA.val hreg hc ho (TakeA.take ht hm) (guard_app hg) (stab_of hle (hso.app _)) hr.app hd (h m hm hb)
theorem JAA.no {A : List ASpec} {fuel i d j t : Nat} {b b' : Bool} {listed listed' : Array Bool} {op : Op} {ty : TypeId} {pos : String} {aft : Array Edge} {oj : Oper} (hreg : Reg ops) (hc : Calm Q)
    (ho : ops[i]? = some ⟨some d, op, ty, pos, aft, some (j, b)⟩) (ht : TakeA ops A listed i = true) (hl : listed.setIfInBounds i true = listed') (hj : ops[j]? = some oj) (htj : oj.dst = some t) (hb : lk l t = some (.bool b')) (hne : (b' == b) = false)
    (hle : Hle sH H) (hso : SubO so own) (hd : Nat.blt d x.n = true)
    (h : JAA x ops Q so sH A fuel listed' ((d, undef) :: l) own H) : JAA x ops Q so sH A (fuel + 1) listed l own H := fun m hm hb' => by
  rw [show fuel + 1 + m.left = (fuel + m.left) + 1 by omega]
  subst hl
  exact JA.no hreg hc ho (TakeA.take ht hm) hj htj (lk_appL hb) hne (stab_of hle (hso.app _)) hd (h m hm hb')
theorem JAA.gSplit {A : List ASpec} {fuel : Nat} {listed : Array Bool} {t : Nat} {b : Bool} (hb : lk l t = some (.bool b)) (ht : b = true → JAA x ops Q so sH A fuel listed ((t, .bool true) :: l) own H)
    (hf : b = false → JAA x ops Q so sH A fuel listed ((t, .bool false) :: l) own H) : JAA x ops Q so sH A fuel listed l own H := fun m hm hb' =>
  JA.gSplit (lk_appL hb) (fun e => ht e m hm hb') (fun e => hf e m hm hb')
theorem JAA.one {A : List ASpec} {fuel i : Nat} {listed : Array Bool} (hA : AOk x ops A) (hle : Hle sH H) (hso : SubO so own) (hf : freeIn l A = true)
    (hr : (allB A.length).all (fun bs => !(Region.ready .any ops (lstB A bs listed)).isEmpty && (Region.ready .any ops (lstB A bs listed)).all (fun k => [i].contains k || (undone A bs).contains k)) = true)
    (h : JOA x ops Q so sH A fuel listed i l own H) : JAA x ops Q so sH A (fuel + 1) listed l own H := JAA.many [i] hA hle hso hf hr (fun k hk => by simp at hk; subst hk; exact h)
theorem JAA.two {A : List ASpec} {fuel i j : Nat} {listed : Array Bool} (hA : AOk x ops A) (hle : Hle sH H) (hso : SubO so own) (hf : freeIn l A = true)
    (hr : (allB A.length).all (fun bs => !(Region.ready .any ops (lstB A bs listed)).isEmpty && (Region.ready .any ops (lstB A bs listed)).all (fun k => [i, j].contains k || (undone A bs).contains k)) = true)
    (h : JOA x ops Q so sH A fuel listed i l own H) (h' : JOA x ops Q so sH A fuel listed j l own H) : JAA x ops Q so sH A (fuel + 1) listed l own H := JAA.many [i, j] hA hle hso hf hr (fun k hk => by
  simp only [List.mem_cons, List.not_mem_nil, or_false] at hk
  rcases hk with rfl | rfl
  · exact h
  · exact h')
end Go.Ow

/-
  What is proved here: a range over a function whose assignments make cells; over OwZH.
-/
namespace Go.Ow
open Go.RowKit
set_option linter.unusedVariables false
set_option linter.unusedSimpArgs false
variable {x : Cx} {ops : Array Oper} {Q : Exit → Act → World → Prop} {rest : List Oper} {l : Slots} {own : List Own} {H HF : Heaplet}
variable {ty : TypeId} {d : Nat} {pos : String} {aft : Array Edge}

theorem JN.assigned2 {J : Slots → List Own → Prop} {L1 : Slots} {o1 : List Own} {Q : Exit → Act → World → Prop} (hJ : J L1 o1) (h : Sub L1 l) (ho : o1 = own) : JN x (Exit.then (fun a w => ∃ L1 o1, J L1 o1 ∧ Holds x L1 o1 H a w) Q .normal) l own H := fun a w hh => ⟨L1, o1, hJ, by rw [ho]; exact hh.sub h⟩
theorem JC.rangeG2 {α σ τ : Type} (hr : x.r = none) {g : Operand} {ps : Array Tmp} {assign body : Code} {gf : FuncId} {cap : Array Value} {RA : Heaplet → Array Value → α → Prop}
    (bd : α → σ → Option (σ ⊕ τ)) (s0 : σ) (tt : σ ⊕ τ) (I : σ → List Own → Heaplet → Prop) (X : τ → Code → List Own → Heaplet → Prop) (M : List Own → Heaplet → Prop) (mine own2 : List Own)
    (hg : evo l g = some (.func (.func gf) #[] cap)) (he : Enters x.P gf) (hown : own = mine ++ own2)
    (hit : ∀ (lr : Nat) (I' : σ → Own → Heaplet → Prop) (X' : τ → Own → Heaplet → Prop) (O : Own), YSpecG x.P lr RA bd I' X' → IX I' X' (.inl s0) O H →
      Does x.P gf (#[.func (.yield lr) #[] #[]] ++ cap) (mine ++ [O]) H (fun u K' H' => ∃ m' O', K' = m' ++ [O'] ∧ M m' H' ∧ IX I' X' tt O' H'))
    (hps : ∀ H args y, RA H args y → args.size = ps.size) (hlt : ps.toList.all (fun p => Nat.blt p x.n) = true)
    (h0 : I s0 own2 H)
    (hround : ∀ (lr : Nat) (y : α) (s : σ) (args : Array Value) (o : List Own) (H1 H' : Heaplet) (out : σ ⊕ τ), Hle H1 H' → I s o H1 → RA H' args y → bd y s = some out → ∃ J : Slots → List Own → Prop,
      (∀ wb, x.w0.heap.size ≤ wb.heap.size → JC { x with r := some lr, w0 := wb, H0 := H', S := ids o.flatten, ds := [] } assign
        (Exit.then (fun a w => ∃ L1 o1, J L1 o1 ∧ Holds { x with r := some lr, w0 := wb, H0 := H', S := ids o.flatten, ds := [] } L1 o1 H' a w) (fun _ _ _ => False)) ((ps.toList.zip args.toList).reverse ++ l) o H') ∧
      (∀ wb L1 oa, J L1 oa → x.w0.heap.size ≤ wb.heap.size → JC { x with r := some lr, w0 := wb, H0 := H', S := ids oa.flatten, ds := [] } body (RoundS I X out wb H' (ids oa.flatten)) L1 oa H'))
    (hdone : ∀ (D : Nat) (s : σ) (m' o : List Own) (H1 H' : Heaplet), x.w0.heap.size ≤ D → tt = .inl s → M m' H' → Hle H1 H' → I s o H1 → Hle H H' → JN { x with ds := mark D :: x.ds } (Q .normal) l ([(D, .deferred (some []))] :: (m' ++ o)) H')
    (hstop : ∀ (D : Nat) (c : Code) (e : τ) (m' o : List Own) (H1 H' : Heaplet), x.w0.heap.size ≤ D → tt = .inr e → M m' H' → Hle H1 H' → X e c o H1 → Hle H H' → JC { x with ds := mark D :: x.ds } c Q l ([(D, .deferred (some []))] :: (m' ++ o)) H') :
    JC x (.rangeFunc g ps assign body) Q l own H := fun a w hh => by
  have hFw : Fw x.r = Fence.wide := by rw [hr]; rfl
  rw [hFw]
  refine wpIn_rangeFunc ?_
  intro fn hfn
  -- the two blocks
  obtain ⟨rec, hrec⟩ : ∃ rec : LoopState → Option Code → Loop, rec = fun st pe => { state := st, pending := pe, fn, tmps := a.tmps, params := ps, assign, body, defers := w.heap.size } := ⟨_, rfl⟩
  have hm1 := hh.mem.go0 (K' := [[(w.heap.size, .deferred (some []))]]) (by simpa using Mem.alloc hh.mem.agr (.deferred (some [])))
  have hm2 := hm1.go0 (K' := [[((w.alloc (.deferred (some []))).heap.size, .loop (rec .ready none))]]) (by simpa using Mem.alloc hm1.agr (.loop (rec .ready none)))
  have hsz : (w.alloc (.deferred (some []))).heap.size = w.heap.size + 1 := by simp
  rw [hsz] at hm2
  obtain ⟨W, hW⟩ : ∃ W, W = (w.alloc (.deferred (some []))).alloc (.loop (rec .ready none)) := ⟨_, rfl⟩
  rw [← hW] at hm2
  let D := w.heap.size
  let lr := w.heap.size + 1
  have hD : D ≠ lr := by simp [D, lr]
  -- the invariant with its two blocks of book-keeping
  let tail : LoopState → Option Code → Own := fun st pe => [(lr, Obj.loop (rec st pe)), (D, Obj.deferred (some []))]
  let I' : σ → Own → Heaplet → Prop := fun s O H' => ∃ o : List Own, O = tail .ready none ++ o.flatten ∧ I s o H'
  let X' : τ → Own → Heaplet → Prop := fun e O H' => ∃ (o : List Own) (c : Code), O = tail .done (some c) ++ o.flatten ∧ X e c o H'
  refine ⟨lr, [mark D], W, { target := .fn (.func gf) cap, args := #[.func (.yield lr) #[] #[]] }, W, gf, #[.func (.yield lr) #[] #[]] ++ cap, W, ?_, ?_, fun _ _ => trivial, ?_, fun e => by simp [Fence.wide] at e, ?_⟩
  · rw [hW, hrec]; exact run_enterLoop_outer _ _ _ _ _
  · have e1 := eval_of hh hg
    simp only [resolve, e1]
    simp [go_sem, Act.eval, Deferred.ofValue, lr]
  · simp only [invoke]; exact he _ _
  · have hY : YSpecG x.P lr RA bd I' X' := by
      rintro y s args O H' w1 out ⟨H1', hle1, o, rfl, hI⟩ hy hbd hag hok
      have hsize := hps _ _ _ hy
      have hrecs : w1.heap[lr]? = some (.loop (rec .ready none)) := hok.here (lr, Obj.loop (rec .ready none)) (by simp [tail])
      have hapr : ∀ k, H' lr k = none := fun k => hok.apart (lr, Obj.loop (rec .ready none)) (by simp [tail]) k
      have hyld := run_yield (P := x.P) (args := args) hrecs (by rw [hrec]; exact hsize)
      rw [hrec] at hyld
      refine ⟨fn, _, assign, body, hyld, ?_⟩
      obtain ⟨J, hA, hB⟩ := hround lr y s args o H1' H' out hle1 hI hy hbd
      refine roundIn_of_wpIn (F := Fence.wide) trivial ?_
      have hput := puts_holds (x := x) (own := own) (H := H) (w := w) x.n ps.toList args.toList a.tmps l hh.size hlt hh.slots
      have hfold : ((ps.zip args).foldl (fun t (p, v) => t.setIfInBounds p v) a.tmps) = ((ps.toList.zip args.toList).foldl (fun t (p, v) => t.setIfInBounds p v) a.tmps) := by
        rw [← Array.foldl_toList]; simp
      have hok2 : OwnOk H' o.flatten w1 := by
        exact OwnOk.right hok
      have hmo : Mem w1 H' (ids o.flatten) o.flatten H' w1 := Mem.same hag hok2
      refine wpIn_mono (Q := Exit.then (fun a w => ∃ L1 o1, J L1 o1 ∧ Holds { x with r := some lr, w0 := w1, H0 := H', S := ids o.flatten, ds := [] } L1 o1 H' a w) (fun _ _ _ => False)) ?_ ?_
      · rw [hfold]
        have hDs : D < w1.heap.size := (Array.getElem?_eq_some_iff.1 (hok.here (D, Obj.deferred (some [])) (by simp [tail]))).1
        exact hA w1 (Nat.le_trans hh.mem.kept.size (Nat.le_of_lt hDs)) { tmps := _, defers := [] } w1 ⟨hput.1, rfl, hput.2, hmo⟩
      · rintro e a1 w2 hh1
        cases e with
        | normal =>
          obtain ⟨L1, oa, hJ1, hh1⟩ : ∃ L1 o1, J L1 o1 ∧ Holds { x with r := some lr, w0 := w1, H0 := H', S := ids o.flatten, ds := [] } L1 o1 H' a1 w2 := hh1
          -- the assignments have turned nothing of the book-keeping
          have hlt1 : lr < w1.heap.size := (Array.getElem?_eq_some_iff.1 hrecs).1
          have hnd := hok.nodup
          have hlro : lr ∉ ids o.flatten := fun hmem => by
            simp only [tail, ids, List.map_append, List.nodup_append] at hnd
            exact hnd.2.2 lr (by simp) lr hmem rfl
          have hDo : D ∉ ids o.flatten := fun hmem => by
            simp only [tail, ids, List.map_append, List.nodup_append] at hnd
            exact hnd.2.2 D (by simp) D hmem rfl
          have hr2 : w2.heap[lr]? = some (.loop (rec .ready none)) := by rw [hh1.mem.kept.block lr hlt1 hlro]; exact hrecs
          -- the whole memory at the round's begin, seen from w1
          have hmw1 : Mem w1 H' (ids (tail .ready none ++ o.flatten)) (tail .ready none ++ o.flatten) H' w1 := Mem.same hag hok
          have hmw2 : Mem w1 H' (ids (tail .ready none ++ o.flatten)) (oa.flatten ++ (tail .ready none)) H' w2 :=
            hmw1.go (K := o.flatten) (rst := (tail .ready none)) List.perm_append_comm hh1.mem
          have hbr := run_beginRound (P := x.P) hr2 (by rw [hrec])
          refine ⟨_, hbr, ?_⟩
          have hmw3 : Mem w1 H' (ids (tail .ready none ++ o.flatten)) ([(lr, Obj.loop { rec .ready none with state := .busy })] ++ (([(D, Obj.deferred (some []))] : Own) ++ oa.flatten)) H' (w2.putObj lr (.loop { rec .ready none with state := .busy })) := by
            refine hmw2.go (K := [(lr, Obj.loop (rec .ready none))]) (rst := [(D, Obj.deferred (some []))] ++ oa.flatten) ?_ ?_
            · simp only [tail]
              refine List.perm_append_comm.trans ?_
              simp
            · exact Mem.putObj hh1.mem.agr hr2 hapr _
          have hDs : D < w1.heap.size := (Array.getElem?_eq_some_iff.1 (hok.here (D, Obj.deferred (some [])) (by simp [tail]))).1
          have hsz2 : x.w0.heap.size ≤ (w2.putObj lr (.loop { rec .ready none with state := .busy })).heap.size := by
            have h1 := hh.mem.kept.size
            have h2 : w1.heap.size ≤ w2.heap.size := hh1.mem.kept.size
            have h5 : w.heap.size < w1.heap.size := hDs
            exact Nat.le_trans (Nat.le_trans h1 (Nat.le_trans (Nat.le_of_lt h5) h2)) (by simp)
          refine wpIn_mono (hB (w2.putObj lr (.loop { rec .ready none with state := .busy })) L1 oa hJ1 hsz2 a1 _ ⟨hh1.size, hh1.ds, hh1.slots, Mem.same hmw3.agr ?_⟩) ?_
          · exact OwnOk.right (OwnOk.right hmw3.ok)
          · -- the round's end
            have fin : ∀ (jump : Option Code) (o1 : List Own) (H1 : Heaplet) (w3 : World), Mem (w2.putObj lr (.loop { rec .ready none with state := .busy })) H' (ids oa.flatten) o1.flatten H1 w3 →
                (Instr.endRound lr jump).run x.P w3 = .ok (.bool jump.isNone) (w3.putObj lr (.loop (rec (if jump.isNone then .ready else .done) jump))) ∧
                Mem w1 H' (ids (tail .ready none ++ o.flatten)) (tail (if jump.isNone then .ready else .done) jump ++ o1.flatten) H1 (w3.putObj lr (.loop (rec (if jump.isNone then .ready else .done) jump))) := by
              intro jump o1 H1 w3 hm3
              have hm4 : Mem w1 H' (ids (tail .ready none ++ o.flatten)) (o1.flatten ++ ([(lr, Obj.loop { rec .ready none with state := .busy })] ++ [(D, Obj.deferred (some []))])) H1 w3 := by
                refine hmw3.go (K := oa.flatten) (rst := [(lr, Obj.loop { rec .ready none with state := .busy })] ++ [(D, Obj.deferred (some []))]) ?_ hm3
                rw [← List.append_assoc]; exact List.perm_append_comm
              have hl3 : w3.heap[lr]? = some (.loop { rec .ready none with state := .busy }) := hm4.ok.here (lr, Obj.loop { rec .ready none with state := .busy }) (by simp)
              have hap3 : ∀ k, H1 lr k = none := fun k => hm4.ok.apart (lr, Obj.loop { rec .ready none with state := .busy }) (by simp) k
              have hend := run_endRound (P := x.P) jump hl3
              rw [hrec] at hend ⊢
              refine ⟨hend, ?_⟩
              have := hm4.go (K := [(lr, Obj.loop { rec .ready none with state := .busy })]) (rst := o1.flatten ++ [(D, Obj.deferred (some []))]) (by
                refine (List.perm_append_comm (l₁ := o1.flatten)).trans ?_
                rw [List.append_assoc]
                exact List.Perm.append_left _ List.perm_append_comm) (Mem.putObj hm4.agr hl3 hap3 (.loop { rec .ready none with state := if jump.isNone then .ready else .done, pending := jump }))
              rw [hrec] at this
              refine Mem.perm this ?_
              simp only [tail, hrec]
              exact List.Perm.append_left [_] (List.perm_append_comm (l₁ := o1.flatten) (l₂ := [(D, Obj.deferred (some []))]))
            rintro e2 a3 w3 hp
            cases e2 with
            | normal =>
              obtain ⟨s', o1, H1, rfl, hm3, hI1⟩ := hp
              obtain ⟨hend, hm5⟩ := fin none o1 H1 w3 hm3
              exact ⟨_, _, hend, _, H1, rfl, hm5, H1, Hle.refl _, o1, rfl, hI1⟩
            | ret =>
              obtain ⟨t, o1, H1, rfl, hm3, hX1⟩ := hp
              obtain ⟨hend, hm5⟩ := fin (some .ret) o1 H1 w3 hm3
              exact ⟨_, _, hend, _, H1, rfl, hm5, H1, Hle.refl _, o1, .ret, rfl, hX1⟩
            | exit id =>
              obtain ⟨t, o1, H1, rfl, hm3, hX1⟩ := hp
              obtain ⟨hend, hm5⟩ := fin (some (.exit id)) o1 H1 w3 hm3
              exact ⟨_, _, hend, _, H1, rfl, hm5, H1, Hle.refl _, o1, .exit id, rfl, hX1⟩
            | goto t => exact hp.elim
            | panic ch => exact hp.elim
            | outgrown => exact hp.elim
        | exit id => exact hh1.elim
        | goto t => exact hh1.elim
        | ret => exact hh1.elim
        | panic ch => exact hh1.elim
        | outgrown => exact hh1.elim
    -- the iterator
    have hD0 := hit lr I' X' (tail .ready none ++ own2.flatten) hY ⟨H, Hle.refl _, own2, rfl, h0⟩
    have hmW : Mem x.w0 x.H0 x.S (mine ++ [tail .ready none ++ own2.flatten]).flatten H W := by
      refine (show Mem x.w0 x.H0 x.S (tail .ready none ++ own.flatten) H W by simpa [tail, D, lr] using hm2).perm ?_
      rw [hown]
      simp only [List.flatten_append, List.flatten_cons, List.flatten_nil, List.append_nil]
      exact (List.append_assoc (tail .ready none) mine.flatten own2.flatten) ▸ (List.Perm.append_right own2.flatten (List.perm_append_comm (l₁ := tail .ready none) (l₂ := mine.flatten))).trans (by rw [List.append_assoc])
    refine CallsIn.mono (hD0 W hmW.agr hmW.ok) ?_
    rintro e w3 ⟨v, K', H', rfl, ⟨m', O', rfl, hM, hcase⟩, hm3⟩
    have hle : Hle H H' := hm3.le
    have hm4' : Mem x.w0 x.H0 x.S (m' ++ [O']).flatten H' w3 := by
      have := hmW.go (K := (mine ++ [tail .ready none ++ own2.flatten]).flatten) (rst := []) (by simp) hm3
      simpa using this
    obtain ⟨H1, hle1, hcase⟩ := hcase
    have hmk : ∀ (T o : Own), O' = T ++ o → Mem x.w0 x.H0 x.S (T ++ (m'.flatten ++ o)) H' w3 := fun T o e => by
      refine hm4'.perm ?_
      rw [e]
      simp only [List.flatten_append, List.flatten_cons, List.flatten_nil, List.append_nil]
      rw [← List.append_assoc, ← List.append_assoc]
      exact List.Perm.append_right o List.perm_append_comm
    cases tt with
    | inl s =>
      obtain ⟨o, hO, hI⟩ := hcase
      have hm4 := hmk _ _ hO
      have hl3 : w3.heap[lr]? = some (.loop (rec .ready none)) := hm4.ok.here (lr, Obj.loop (rec .ready none)) (by simp [tail])
      have hap3 : ∀ k, H' lr k = none := fun k => hm4.ok.apart (lr, Obj.loop (rec .ready none)) (by simp [tail]) k
      refine ⟨none, _, by have := run_endLoop (P := x.P) hl3 (by rw [hrec]; simp); rw [hrec] at this; exact this, ?_⟩
      have hm5 := hm4.go (K := [(lr, Obj.loop (rec .ready none))]) (rst := [(D, Obj.deferred (some []))] ++ (m'.flatten ++ o.flatten)) (by simp [tail]) (Mem.putObj hm4.agr hl3 hap3 (.loop { rec .ready none with state := .exhausted }))
      rw [hrec] at hm5
      have hDn : x.w0.heap.size ≤ D := hh.mem.kept.size
      refine hdone D s m' o H1 H' hDn rfl hM hle1 hI hle _ _ ⟨hh.size, by simp [hh.ds], hh.slots, ?_⟩
      have hs : ([(D, Obj.deferred (some []))] ++ (m'.flatten ++ o.flatten)).Sublist ([(lr, Obj.loop { rec .ready none with state := .exhausted })] ++ ([(D, Obj.deferred (some []))] ++ (m'.flatten ++ o.flatten))) := List.sublist_append_right _ _
      rw [hrec] at hs
      rw [List.flatten_cons, List.flatten_append]
      exact hm5.sub hs
    | inr e =>
      obtain ⟨o, c, hO, hX⟩ := hcase
      have hm4 := hmk _ _ hO
      have hl3 : w3.heap[lr]? = some (.loop (rec .done (some c))) := hm4.ok.here (lr, Obj.loop (rec .done (some c))) (by simp [tail])
      have hap3 : ∀ k, H' lr k = none := fun k => hm4.ok.apart (lr, Obj.loop (rec .done (some c))) (by simp [tail]) k
      refine ⟨some c, _, by have := run_endLoop (P := x.P) hl3 (by rw [hrec]; simp); rw [hrec] at this; exact this, ?_⟩
      have hm5 := hm4.go (K := [(lr, Obj.loop (rec .done (some c)))]) (rst := [(D, Obj.deferred (some []))] ++ (m'.flatten ++ o.flatten)) (by simp [tail]) (Mem.putObj hm4.agr hl3 hap3 (.loop { rec .done (some c) with state := .exhausted }))
      rw [hrec] at hm5
      have hDn : x.w0.heap.size ≤ D := hh.mem.kept.size
      have hJ := hstop D c e m' o H1 H' hDn rfl hM hle1 hX hle
      have hJ' : c.wpIn (Fw x.r) 0 x.P Q { tmps := a.tmps, defers := mark D :: a.defers } (w3.putObj lr (.loop { rec .done (some c) with state := .exhausted })) := by
        refine hJ _ _ ⟨hh.size, by simp [hh.ds], hh.slots, ?_⟩
        have hs : ([(D, Obj.deferred (some []))] ++ (m'.flatten ++ o.flatten)).Sublist ([(lr, Obj.loop { rec .done (some c) with state := .exhausted })] ++ ([(D, Obj.deferred (some []))] ++ (m'.flatten ++ o.flatten))) := List.sublist_append_right _ _
        rw [hrec] at hs ⊢
        rw [List.flatten_cons, List.flatten_append]
        exact hm5.sub hs
      rw [hFw, hrec] at hJ'
      exact hJ'
end Go.Ow

/- plain functions: what the code computes. -/
namespace Go.Ow
set_option linter.unusedVariables false
set_option linter.unusedSimpArgs false

def math_bits_Mul64 (p_1 : UInt64) (p_2 : UInt64) : Option (UInt64 × UInt64) :=
  some ((((sr64 p_1 (((32 : UInt64).toNat : Int)).toNat) * (sr64 p_2 (((32 : UInt64).toNat : Int)).toNat)) + (sr64 (((sr64 p_1 (((32 : UInt64).toNat : Int)).toNat) * (p_2 &&& (4294967295 : UInt64))) + (sr64 ((p_1 &&& (4294967295 : UInt64)) * (p_2 &&& (4294967295 : UInt64))) (((32 : UInt64).toNat : Int)).toNat)) (((32 : UInt64).toNat : Int)).toNat)) + (sr64 (((((sr64 p_1 (((32 : UInt64).toNat : Int)).toNat) * (p_2 &&& (4294967295 : UInt64))) + (sr64 ((p_1 &&& (4294967295 : UInt64)) * (p_2 &&& (4294967295 : UInt64))) (((32 : UInt64).toNat : Int)).toNat)) &&& (4294967295 : UInt64)) + ((p_1 &&& (4294967295 : UInt64)) * (sr64 p_2 (((32 : UInt64).toNat : Int)).toNat))) (((32 : UInt64).toNat : Int)).toNat), p_1 * p_2)

def math_bits_Mul (p_1 : UInt64) (p_2 : UInt64) : Option (UInt64 × UInt64) :=
  Option.bind (math_bits_Mul64 p_1 p_2) fun x_3 => some (x_3.1, x_3.2)

def slices_Repeat_int_l1 (s_21 : List Int × Int) : Option ((List Int × Int) ⊕ (List Int)) :=
  cond (decide (s_21.2 < (s_21.1.length : Int))) (chk (0 ≤ s_21.2 ∧ s_21.2 ≤ (s_21.1.length : Int) ∧ (s_21.1.length : Int) ≤ s_21.1.length) <| chk (0 ≤ (0 : Int) ∧ (0 : Int) ≤ s_21.2 ∧ s_21.2 ≤ s_21.1.length) <| cpyO s_21.1 s_21.2 (s_21.1.length : Int) (cut s_21.1 (0 : Int) s_21.2) fun m_30 => some (.inl (m_30, w64 (s_21.2 + (min ((cut s_21.1 (0 : Int) s_21.2).length : Int) ((s_21.1.length : Int) - s_21.2)))))) (some (.inr s_21.1))

def slices_Repeat_int (p_1 : List Int) (p_3 : Int) : Option (List Int) :=
  cond (decide (p_3 < 0)) (none) (Option.bind (math_bits_Mul (u64i (p_1.length : Int)) (u64i p_3)) fun x_5 => cond (decide ((0 : UInt64) < x_5.1)) (none) (cond (decide ((9223372036854775807 : UInt64) < x_5.2)) (none) (mks (w64 (x_5.2.toNat : Int)) 0 fun x_12 => cpyO x_12 0 (x_12.length : Int) p_1 fun m_14 => Option.bind (loop slices_Repeat_int_l1 (m_14, min (p_1.length : Int) ((x_12.length : Int) - 0))) (fun t_18 => some t_18))))

def dev_cut (p_1 : List Int) : Option (List (List UInt8)) := if (∀ n ∈ p_1, 0 ≤ n) ∧ (p_1.map Int.toNat).sum ≤ LIM ∧ p_1.length ≤ LIM then some (p_1.map fun n => List.replicate n.toNat 0) else none

def dev_New : Option Disk :=
  Option.bind (slices_Repeat_int ([256]) 256) fun x_6 => Option.bind (dev_cut x_6) fun x_12 => some (Disk.mk x_12 ([] : List Write))

def bytes_Repeat_l1 (x_7 : UInt64 × UInt64) (t_14 : Int) (s_39 : List UInt8 × Int) : Option ((List UInt8 × Int) ⊕ (List UInt8)) :=
  cond (decide (s_39.2 < (w64 (x_7.2.toNat : Int)))) (chk (0 ≤ s_39.2 ∧ s_39.2 ≤ (s_39.1.length : Int) ∧ (s_39.1.length : Int) ≤ s_39.1.length) <| chk (0 ≤ (0 : Int) ∧ (0 : Int) ≤ min s_39.2 t_14 ∧ min s_39.2 t_14 ≤ s_39.1.length) <| cpyO s_39.1 s_39.2 (s_39.1.length : Int) (cut s_39.1 (0 : Int) (min s_39.2 t_14)) fun m_48 => some (.inl (m_48, w64 (s_39.2 + (min ((cut s_39.1 (0 : Int) (min s_39.2 t_14)).length : Int) ((s_39.1.length : Int) - s_39.2)))))) (some (.inr s_39.1))

def bytes_Repeat (p_1 : List UInt8) (p_3 : Int) : Option (List UInt8) :=
  cond (decide (p_3 = 0)) (some ([] : List UInt8)) (cond (decide (p_3 < 0)) (none) (Option.bind (math_bits_Mul (u64i (p_1.length : Int)) (u64i p_3)) fun x_7 => cond (decide ((0 : UInt64) < x_7.1)) (none) (cond (decide ((9223372036854775807 : UInt64) < x_7.2)) (none) (cond (decide ((p_1.length : Int) = 0)) (some ([] : List UInt8)) (Option.bind (cond (decide (8192 < (w64 (x_7.2.toNat : Int)))) (chk ((p_1.length : Int) ≠ 0) <| cond (decide ((w64 ((w64 ((8192 : Int).tdiv (p_1.length : Int))) * (p_1.length : Int))) = 0)) (some (p_1.length : Int)) (some (w64 ((w64 ((8192 : Int).tdiv (p_1.length : Int))) * (p_1.length : Int))))) (some (w64 (x_7.2.toNat : Int)))) (fun t_14 => mks (w64 (x_7.2.toNat : Int)) (0 : UInt8) fun nz_20 => slc nz_20 0 (w64 (x_7.2.toNat : Int)) fun m_29 => cpyO m_29 0 (m_29.length : Int) p_1 fun m_32 => Option.bind (loop (bytes_Repeat_l1 x_7 t_14) (m_32, min (p_1.length : Int) ((m_29.length : Int) - 0))) (fun t_36 => some t_36)))))))

def space_New : Option (List UInt8) :=
  Option.bind (bytes_Repeat ([(1 : UInt8)]) 12) fun x_5 => mks 244 (0 : UInt8) fun z_12 => app x_5 z_12 fun q_13 => some q_13

def store_New : Option Store :=
  Option.bind (dev_New) fun x_2 => Option.bind (space_New) fun x_7 => some (Store.mk (Disk.mk x_2.Blocks x_2.Waits) x_7 (1 : UInt32) (0 : UInt32))

def dev_place (p_1 : Int) : Option Bool :=
  some (decide ((u64i p_1) < (256 : UInt64)))

def dev_Check_l2 (p_1 : Disk) (s_18 : Bool × Nat) : Option ((Bool × Nat) ⊕ Bool) :=
  cond (decide (((s_18.2 : Nat) : Int) < (p_1.Waits.length : Int))) (idx p_1.Waits ((s_18.2 : Nat) : Int) fun y_22 => cond s_18.1 (Option.bind (dev_place y_22.At) fun x_35 => cond x_35 (some (.inl (decide ((y_22.Data.length : Int) = 256), s_18.2 + 1))) (some (.inl (false, s_18.2 + 1)))) (some (.inl (false, s_18.2 + 1)))) (some (.inr s_18.1))

def dev_Check_l1 (p_1 : Disk) (s_12 : Bool × Nat) : Option ((Bool × Nat) ⊕ Bool) :=
  cond (decide (((s_12.2 : Nat) : Int) < (p_1.Blocks.length : Int))) (idx p_1.Blocks ((s_12.2 : Nat) : Int) fun y_16 => cond s_12.1 (some (.inl (decide ((y_16.length : Int) = 256), s_12.2 + 1))) (some (.inl (false, s_12.2 + 1)))) (some (.inr s_12.1))

def dev_Check (p_1 : Disk) : Option Int :=
  Option.bind (cond (decide ((p_1.Blocks.length : Int) = 256)) (some (decide ((p_1.Waits.length : Int) ≤ 4096))) (some false)) (fun t_5 => Option.bind (loop (dev_Check_l1 p_1) (t_5, 0)) (fun t_9 => Option.bind (loop (dev_Check_l2 p_1) (t_9, 0)) (fun t_15 => cond t_15 (some 0) (some 8))))

def slices_Max_byte_l1 (p_1 : List UInt8) (s_16 : UInt8 × Nat) : Option ((UInt8 × Nat) ⊕ UInt8) :=
  cond (decide (((s_16.2 : Nat) : Int) < (p_1.length : Int))) (idx p_1 ((s_16.2 : Nat) : Int) fun y_20 => some (.inl (maxB s_16.1 y_20, s_16.2 + 1))) (some (.inr s_16.1))

def slices_Max_byte (p_1 : List UInt8) : Option UInt8 :=
  cond (decide ((p_1.length : Int) < 1)) (none) (idx p_1 0 fun y_4 => Option.bind (loop (slices_Max_byte_l1 p_1) (y_4, 1)) (fun t_13 => some t_13))

def unicode_utf8_RuneCount (p_0 : List UInt8) : Option Int := none

def bytes_Index (p_0 : List UInt8) (p_1 : List UInt8) : Option Int := none

def bytes_Count_l1 (p_3 : List UInt8) (s_22 : List UInt8 × Int) : Option ((List UInt8 × Int) ⊕ Int) :=
  Option.bind (bytes_Index s_22.1 p_3) fun x_26 => cond (decide (x_26 = (-1))) (some (.inr s_22.2)) (slc s_22.1 (w64 (x_26 + (p_3.length : Int))) (s_22.1.length : Int) fun m_30 => some (.inl (m_30, w64 (s_22.2 + 1))))

def bytes_Count (p_1 : List UInt8) (p_3 : List UInt8) : Option Int :=
  cond (decide ((p_3.length : Int) = 0)) (Option.bind (unicode_utf8_RuneCount p_1) fun x_6 => some (w64 (x_6 + 1))) (cond (decide ((p_3.length : Int) = 1)) (idx p_3 0 fun y_10 => some ((cntB p_1 y_10 : Nat) : Int)) (Option.bind (loop (bytes_Count_l1 p_3) (p_1, 0)) (fun t_19 => some t_19)))

def space_Check (p_1 : List UInt8) : Option Int :=
  cond (!decide ((p_1.length : Int) = 256)) (some 8) (Option.bind (slices_Max_byte p_1) fun x_4 => cond (decide ((2 : UInt8) < x_4)) (some 8) (slc p_1 0 12 fun m_8 => Option.bind (bytes_Count m_8 ([(1 : UInt8)])) fun x_16 => cond (!decide (x_16 = 12)) (some 8) (some 0)))

def store_Check (p_1 : Store) : Option Int :=
  Option.bind (dev_Check (Disk.mk p_1.Disk.Blocks p_1.Disk.Waits)) fun x_6 => cond (!decide (x_6 = 0)) (some 8) (Option.bind (space_Check p_1.Space) fun x_10 => cond (!decide (x_10 = 0)) (some 8) (cond (decide (p_1.Epoch < (1 : UInt32))) (some 8) (cond (decide ((65535 : UInt32) < p_1.Epoch)) (some 8) (cond (decide ((65535 : UInt32) < p_1.Count)) (some 8) (some 0)))))

def store_asked_l1 (p_7 : List (List UInt8)) (s_19 : Int × Nat) : Option ((Int × Nat) ⊕ (Unit ⊕ Unit)) :=
  cond (decide (((s_19.2 : Nat) : Int) < (p_7.length : Int))) (idx p_7 ((s_19.2 : Nat) : Int) fun y_23 => cond (!decide ((y_23.length : Int) = s_19.1)) (some (.inr (.inr ()))) (some (.inl (256, s_19.2 + 1)))) (some (.inr (.inl ())))

def store_asked (p_1 : Store) (p_5 : UInt32) (p_6 : Int) (p_7 : List (List UInt8)) : Option Int :=
  Option.bind (store_Check p_1) fun x_10 => cond (!decide (x_10 = 0)) (some x_10) (cond (decide (p_5 < (1 : UInt32))) (some 2) (cond (decide ((16777215 : UInt32) < p_5)) (some 2) (Option.bind (loop (store_asked_l1 p_7) (p_6, 0)) (fun t_16 => Sum.elim (fun t_16a => some 0) (fun t_16b => some 3) t_16))))

def code_sized (p_1 : Int) : Option Bool :=
  Option.bind (cond (decide (0 < p_1)) (some (decide (p_1 ≤ 4))) (some false)) (fun t_2 => some t_2)

def code_Put_l1 (p_2 : Int) (s_13 : Int × List UInt8) : Option ((Int × List UInt8) ⊕ (List UInt8)) :=
  cond (decide ((s_13.2.length : Int) < p_2)) (app s_13.2 ([u8i s_13.1]) fun q_19 => some (.inl (w64 (s_13.1.tdiv 256), q_19))) (some (.inr s_13.2))

def code_Put (p_1 : Int) (p_2 : Int) : Option (List UInt8 × Int) :=
  Option.bind (code_sized p_2) fun x_3 => cond (!x_3) (some (([] : List UInt8), 2)) (cond (decide (p_1 < 0)) (some (([] : List UInt8), 2)) (chk (0 ≤ (w64 (8 * p_2))) <| cond (decide ((sli 1 (w64 (8 * p_2))) ≤ p_1)) (some (([] : List UInt8), 2)) (Option.bind (loop (code_Put_l1 p_2) (p_1, ([] : List UInt8))) (fun t_10 => some (t_10, 0)))))

def slices_Clone_byte (p_1 : List UInt8) : Option (List UInt8) := app [] p_1 fun q => some q

def slices_Clip_byte (p_1 : List UInt8) : Option (List UInt8) :=
  slc p_1 0 (p_1.length : Int) fun m_3 => some m_3

def slices_Chunk_byte (p_1 : List UInt8) (p_2 : Int) : Option Unit := if 1 ≤ p_2 ∧ p_2 ≤ 1099511627776 ∧ p_1.length ≤ LIM then some () else none

def slices_Backward_byte (p_1 : List UInt8) : Option Unit := some ()

def code_Get_r1 (y_28 : Nat × UInt8) (s_27 : Int) : Option (Int ⊕ Unit) :=
  some (.inl (w64 ((w64 (256 * s_27)) + (y_28.2.toNat : Int))))

def code_Get (p_1 : List UInt8) (p_3 : Int) (p_4 : Int) : Option (Int × Int) :=
  Option.bind (code_sized p_4) fun x_5 => Option.bind (cond (!x_5) (some true) (cond (decide (p_3 < 0)) (some true) (some (decide ((p_1.length : Int) < p_3))))) (fun t_8 => cond t_8 (some (0, 2)) (cond (decide ((p_1.length : Int) < (w64 (p_3 + p_4)))) (some (0, 8)) (slc p_1 p_3 (w64 (p_3 + p_4)) fun m_16 => Option.bind (slices_Backward_byte m_16) fun x_20 => Option.bind (forL code_Get_r1 (bwd m_16 m_16.length) 0) (fun t_24 => Sum.elim (fun s_27 => some (s_27, 0)) (fun _ => none) t_24))))

def mix_number (p_1 : List UInt8) : Option UInt32 :=
  Option.bind (code_Get p_1 0 4) fun x_3 => some (u32i x_3.1)

def math_bits_RotateLeft32 (p_1 : UInt32) (p_2 : Int) : Option UInt32 :=
  some ((sl32 p_1 ((((u64i p_2) &&& (31 : UInt64)).toNat : Int)).toNat) ||| (sr32 p_1 ((((32 : UInt64) - ((u64i p_2) &&& (31 : UInt64))).toNat : Int)).toNat))

def mix_words_turned_1 (p_1 : Int) (p_2 : Int) (p_4 : A4 UInt32) : Option (A4 UInt32) :=
  Option.bind (math_bits_RotateLeft32 (p_4.e3 ^^^ (p_4.e0 + p_4.e1)) p_1) fun x_5 => Option.bind (math_bits_RotateLeft32 (p_4.e1 ^^^ (p_4.e2 + x_5)) p_2) fun x_8 => some (A4.mk (p_4.e0 + p_4.e1) x_8 (p_4.e2 + x_5) x_5)

def mix_words_turned (p_1 : A4 UInt32) : Option (A4 UInt32) :=
  Option.bind (mix_words_turned_1 15 11 p_1) fun x_4 => Option.bind (mix_words_turned_1 9 6 x_4) fun x_7 => some x_7

def mix_words_often_l1 (p_2 : Int) (s_8 : UInt32 × UInt32 × UInt32 × UInt32 × Int) : Option ((UInt32 × UInt32 × UInt32 × UInt32 × Int) ⊕ (UInt32 × UInt32 × UInt32 × UInt32)) :=
  cond (decide (s_8.2.2.2.2 < p_2)) (Option.bind (mix_words_turned (A4.mk s_8.1 s_8.2.1 s_8.2.2.1 s_8.2.2.2.1)) fun x_12 => some (.inl (x_12.e0, x_12.e1, x_12.e2, x_12.e3, w64 (s_8.2.2.2.2 + 1)))) (some (.inr (s_8.1, s_8.2.1, s_8.2.2.1, s_8.2.2.2.1)))

def mix_words_often (p_1 : A4 UInt32) (p_2 : Int) : Option (A4 UInt32) :=
  Option.bind (loop (mix_words_often_l1 p_2) (p_1.e0, p_1.e1, p_1.e2, p_1.e3, 0)) (fun t_5 => some (A4.mk t_5.1 t_5.2.1 t_5.2.2.1 t_5.2.2.2))

def mix_four_r2 (y_36 : List UInt8) (s_35 : UInt32 × UInt32 × UInt32 × UInt32) : Option ((UInt32 × UInt32 × UInt32 × UInt32) ⊕ Unit) :=
  Option.bind (slc y_36 0 4 fun m_45 => Option.bind (mix_number m_45) fun x_49 => some (s_35.1 ^^^ x_49)) (fun t_42 => slc y_36 4 (y_36.length : Int) fun m_56 => Option.bind (mix_number m_56) fun x_60 => Option.bind (mix_words_often (A4.mk t_42 s_35.2.1 (s_35.2.2.1 ^^^ x_60) s_35.2.2.2) 4) fun x_63 => some (.inl (x_63.e0, x_63.e1, x_63.e2, x_63.e3)))

def mix_four_l1 (s_22 : List UInt8) : Option ((List UInt8) ⊕ (List UInt8)) :=
  cond (!decide (((s_22.length : Int).tmod 8) = 0)) (app s_22 ([(0 : UInt8)]) fun q_28 => some (.inl q_28)) (some (.inr s_22))

def mix_four (p_1 : List UInt8) : Option (A4 UInt32) :=
  Option.bind (slices_Clone_byte p_1) fun x_5 => Option.bind (slices_Clip_byte x_5) fun x_10 => app x_10 ([(1 : UInt8)]) fun q_15 => Option.bind (loop mix_four_l1 q_15) (fun t_19 => Option.bind (slices_Chunk_byte t_19 8) fun x_28 => Option.bind (forL mix_four_r2 (chunks (8 : Int).toNat t_19.length t_19) ((1 : UInt32), (2 : UInt32), (3 : UInt32), (4 : UInt32))) (fun t_32 => Sum.elim (fun s_35 => Option.bind (mix_words_often (A4.mk s_35.1 (s_35.2.1 ^^^ (u32i (p_1.length : Int))) s_35.2.2.1 s_35.2.2.2) 8) fun x_42 => some x_42) (fun _ => none) t_32))

def mix_Sum (p_1 : List UInt8) : Option UInt32 :=
  Option.bind (mix_four p_1) fun x_3 => some x_3.e0

def space_free (p_1 : List UInt8) : Option (Int × List UInt8) :=
  some ((-1), p_1)

def space_free_1_l1 (p_4 : List UInt8) (s_9 : Int) : Option (Int ⊕ (Int ⊕ (Int × Int))) :=
  cond (decide (s_9 < (p_4.length : Int))) (idx p_4 s_9 fun y_13 => cond (decide (y_13 = (0 : UInt8))) (some (.inr (.inr (s_9, s_9)))) (some (.inl (w64 (s_9 + 1))))) (some (.inr (.inl s_9)))

def space_free_1 (p_2 : Int) (p_4 : List UInt8) : Option (Int × Int × List UInt8) :=
  Option.bind (loop (space_free_1_l1 p_4) (w64 (p_2 + 1))) (fun t_6 => Sum.elim (fun t_6a => some ((-1), t_6a, p_4)) (fun t_6b => some (t_6b.2, t_6b.1, p_4)) t_6)

def bytes_Clone (p_1 : List UInt8) : Option (List UInt8) := app [] p_1 fun q => some q

def space_Take (p_1 : List UInt8) : Option (List UInt8 × Int × Int) :=
  Option.bind (space_Check p_1) fun x_3 => cond (!decide (x_3 = 0)) (some (([] : List UInt8), 0, x_3)) (Option.bind (space_free p_1) fun x_7 => Option.bind (space_free_1 x_7.1 x_7.2) fun x_13 => cond (decide (x_13.1 < 0)) (some (([] : List UInt8), 0, 9)) (Option.bind (bytes_Clone p_1) fun x_18 => chk (0 ≤ x_13.1 ∧ x_13.1.toNat < x_18.length) <| setI x_18 x_13.1 (1 : UInt8) fun m_26 => some (m_26, x_13.1, 0)))

def dev_Write_1 (p_2 : Disk) : Option (Disk × Disk) :=
  some (p_2, p_2)

def dev_guarded (p_1 : Disk) (p_4 : Bool) (p_6 : Disk) : Option (Disk × Int × Disk) :=
  Option.bind (dev_Check p_1) fun x_11 => cond (!decide (x_11 = 0)) (some (Disk.mk ([] : List (List UInt8)) ([] : List Write), x_11, p_6)) (cond (!p_4) (some (Disk.mk ([] : List (List UInt8)) ([] : List Write), 2, p_6)) (Option.bind (dev_Write_1 p_6) fun x_16 => some (x_16.1, 0, x_16.2)))

def slices_Clip_Write (p_1 : List Write) : Option (List Write) :=
  slc p_1 0 (p_1.length : Int) fun m_3 => some m_3

def dev_Twin_l3 (p_1 : Disk) (s_30 : List Write × Nat) : Option ((List Write × Nat) ⊕ (List Write)) :=
  cond (decide (((s_30.2 : Nat) : Int) < (p_1.Waits.length : Int))) (idx p_1.Waits ((s_30.2 : Nat) : Int) fun y_36 => Option.bind (bytes_Clone y_36.Data) fun x_48 => app s_30.1 ([Write.mk y_36.At x_48]) fun q_54 => some (.inl (q_54, s_30.2 + 1))) (some (.inr s_30.1))

def dev_Twin_l2 (p_1 : Disk) (s_22 : List (List UInt8) × Nat) : Option ((List (List UInt8) × Nat) ⊕ (List (List UInt8))) :=
  cond (decide (((s_22.2 : Nat) : Int) < (p_1.Blocks.length : Int))) (idx p_1.Blocks ((s_22.2 : Nat) : Int) fun y_27 => idx s_22.1 ((s_22.2 : Nat) : Int) fun y_38 => chk (y_27.length = y_38.length) <| setI s_22.1 ((s_22.2 : Nat) : Int) y_27 fun m_51 => some (.inl (m_51, s_22.2 + 1))) (some (.inr s_22.1))

def dev_Twin_l1 (p_1 : Disk) (s_9 : List Int × Nat) : Option ((List Int × Nat) ⊕ (List Int)) :=
  cond (decide (((s_9.2 : Nat) : Int) < (p_1.Blocks.length : Int))) (idx p_1.Blocks ((s_9.2 : Nat) : Int) fun y_14 => app s_9.1 ([(y_14.length : Int)]) fun q_26 => some (.inl (q_26, s_9.2 + 1))) (some (.inr s_9.1))

def dev_Twin (p_1 : Disk) : Option Disk :=
  Option.bind (loop (dev_Twin_l1 p_1) (([] : List Int), 0)) (fun t_6 => Option.bind (dev_cut t_6) fun x_15 => Option.bind (loop (dev_Twin_l2 p_1) (x_15, 0)) (fun t_19 => Option.bind (loop (dev_Twin_l3 p_1) (([] : List Write), 0)) (fun t_27 => some (Disk.mk t_19 t_27))))

def dev_Write (p_1 : Disk) (p_4 : Int) (p_5 : List UInt8) : Option (Disk × Int) :=
  Option.bind (Option.bind (dev_place p_4) fun x_12 => Option.bind (dev_guarded p_1 x_12 p_1) fun x_15 => some (x_15.2.2.Blocks, x_15.2.2.Waits, x_15.2.1)) (fun t_9 => cond (!decide (t_9.2.2 = 0)) (some (Disk.mk ([] : List (List UInt8)) ([] : List Write), t_9.2.2)) (cond (!decide ((p_5.length : Int) = 256)) (some (Disk.mk ([] : List (List UInt8)) ([] : List Write), 3)) (cond (decide ((t_9.2.1.length : Int) = 4096)) (some (Disk.mk ([] : List (List UInt8)) ([] : List Write), 9)) (Option.bind (Option.bind (slices_Clip_Write t_9.2.1) fun x_31 => app x_31 ([Write.mk p_4 p_5]) fun q_36 => Option.bind (dev_Twin (Disk.mk t_9.1 q_36)) fun x_41 => some (x_41.Blocks, x_41.Waits)) (fun t_28 => some (Disk.mk t_28.1 t_28.2, 0))))))

def store_put (p_1 : Store) (p_5 : Ptr) (p_6 : List UInt8) : Option (Store × Ptr × Int) :=
  Option.bind (space_Take p_1.Space) fun x_12 => cond (!decide (x_12.2.2 = 0)) (some (Store.mk (Disk.mk ([] : List (List UInt8)) ([] : List Write)) ([] : List UInt8) (0 : UInt32) (0 : UInt32), Ptr.mk 0 (0 : UInt32) (0 : UInt32) (0 : UInt32) (0 : UInt32), x_12.2.2)) (Option.bind (dev_Write (Disk.mk p_1.Disk.Blocks p_1.Disk.Waits) x_12.2.1 p_6) fun x_17 => cond (!decide (x_17.2 = 0)) (some (Store.mk (Disk.mk ([] : List (List UInt8)) ([] : List Write)) ([] : List UInt8) (0 : UInt32) (0 : UInt32), Ptr.mk 0 (0 : UInt32) (0 : UInt32) (0 : UInt32) (0 : UInt32), x_17.2)) (Option.bind (mix_Sum p_6) fun x_23 => some (Store.mk (Disk.mk x_17.1.Blocks x_17.1.Waits) x_12.1 p_1.Epoch p_1.Count, Ptr.mk x_12.2.1 p_5.Birth p_5.Iv p_5.Tag x_23, 0)))

def ptr_Check (p_1 : Ptr) : Option Int :=
  cond (decide (p_1.At = 0) && (decide (p_1.Birth = (0 : UInt32)) && (decide (p_1.Iv = (0 : UInt32)) && (decide (p_1.Tag = (0 : UInt32)) && (decide (p_1.Sum = (0 : UInt32)) && true))))) (some 0) (cond (decide (p_1.At < 12)) (some 8) (cond (decide (256 ≤ p_1.At)) (some 8) (cond (decide (p_1.Birth < (1 : UInt32))) (some 8) (cond (decide ((16777215 : UInt32) < p_1.Birth)) (some 8) (some 0)))))

def slices_Clone_byte_L (p_1 : List (List UInt8)) : Option (List (List UInt8)) := app [] p_1 fun q => some q

def dev_all (p_1 : Int) : Option Bool :=
  some true

def dev_lasts_l1 (p_1 : Disk) (s_9 : (List (Int × Write)) × Nat) : Option (((List (Int × Write)) × Nat) ⊕ (List (Int × Write))) :=
  cond (decide (((s_9.2 : Nat) : Int) < (p_1.Waits.length : Int))) (idx p_1.Waits ((s_9.2 : Nat) : Int) fun y_14 => Option.bind (dev_all ((s_9.2 : Nat) : Int)) fun x_26 => cond x_26 (some (.inl ((putM s_9.1 y_14.At y_14), s_9.2 + 1))) (some (.inl (s_9.1, s_9.2 + 1)))) (some (.inr s_9.1))

def dev_lasts (p_1 : Disk) : Option (List (Int × Write)) :=
  Option.bind (loop (dev_lasts_l1 p_1) (([] : List (Int × Write)), 0)) (fun t_6 => some t_6)

def dev_left (p_1 : Disk) : Option Disk :=
  Option.bind (Option.bind (slices_Clone_byte_L p_1.Blocks) fun x_9 => some x_9) (fun t_6 => Option.bind (dev_lasts (Disk.mk t_6 p_1.Waits)) fun x_22 => layR (fun y : Write => y.Data) t_6 x_22 fun m_30 => Option.bind (dev_Twin (Disk.mk m_30 ([] : List Write))) fun x_50 => some x_50)

def dev_Read_1 (p_2 : Disk) : Option (Disk × Disk) :=
  Option.bind (dev_left p_2) fun x_6 => some (x_6, p_2)

def dev_guarded_v2 (p_1 : Disk) (p_4 : Bool) (p_6 : Disk) : Option (Disk × Int × Disk) :=
  Option.bind (dev_Check p_1) fun x_11 => cond (!decide (x_11 = 0)) (some (Disk.mk ([] : List (List UInt8)) ([] : List Write), x_11, p_6)) (cond (!p_4) (some (Disk.mk ([] : List (List UInt8)) ([] : List Write), 2, p_6)) (Option.bind (dev_Read_1 p_6) fun x_16 => some (x_16.1, 0, x_16.2)))

def dev_Read (p_1 : Disk) (p_4 : Int) : Option (List UInt8 × Int) :=
  Option.bind (Option.bind (dev_place p_4) fun x_9 => Option.bind (dev_guarded_v2 p_1 x_9 p_1) fun x_12 => some (x_12.1.Blocks, x_12.1.Waits, x_12.2.1)) (fun t_6 => cond (!decide (t_6.2.2 = 0)) (some (([] : List UInt8), t_6.2.2)) (idx t_6.1 p_4 fun y_25 => some (y_25, 0)))

def store_Look (p_1 : Store) (p_5 : Ptr) : Option (List UInt8 × Int) :=
  Option.bind (store_Check p_1) fun x_8 => cond (!decide (x_8 = 0)) (some (([] : List UInt8), 8)) (Option.bind (ptr_Check p_5) fun x_12 => cond (!decide (x_12 = 0)) (some (([] : List UInt8), 8)) (cond (decide (p_5.At = 0) && (decide (p_5.Birth = (0 : UInt32)) && (decide (p_5.Iv = (0 : UInt32)) && (decide (p_5.Tag = (0 : UInt32)) && (decide (p_5.Sum = (0 : UInt32)) && true))))) (some (([] : List UInt8), 6)) (Option.bind (dev_Read (Disk.mk p_1.Disk.Blocks p_1.Disk.Waits) p_5.At) fun x_17 => Option.bind (cond (decide (x_17.2 = 0)) (Option.bind (mix_Sum x_17.1) fun x_25 => cond (!decide (x_25 = p_5.Sum)) (some (([] : List UInt8), 130)) (some (x_17.1, x_17.2))) (some (x_17.1, x_17.2))) (fun t_21 => some (t_21.1, t_21.2)))))

def ref09_Great_l2 (p_1 : Disk) (s_22 : Int × Nat) : Option ((Int × Nat) ⊕ Int) :=
  cond (decide (((s_22.2 : Nat) : Int) < (p_1.Waits.length : Int))) (cond (decide (s_22.1 < 2000000)) (idx p_1.Waits ((s_22.2 : Nat) : Int) fun y_27 => some (.inl (w64 (s_22.1 + (y_27.Data.length : Int)), s_22.2 + 1))) (some (.inr s_22.1))) (some (.inr s_22.1))

def ref09_Great_l1 (p_1 : Disk) (s_16 : Int × Nat) : Option ((Int × Nat) ⊕ Int) :=
  cond (decide (((s_16.2 : Nat) : Int) < (p_1.Blocks.length : Int))) (cond (decide (s_16.1 < 2000000)) (idx p_1.Blocks ((s_16.2 : Nat) : Int) fun y_21 => some (.inl (w64 (s_16.1 + (y_21.length : Int)), s_16.2 + 1))) (some (.inr s_16.1))) (some (.inr s_16.1))

def ref09_Great (p_1 : Disk) : Option Bool :=
  Option.bind (cond (decide (500 < (p_1.Blocks.length : Int))) (some (.inr ())) (cond (decide (500 < (p_1.Waits.length : Int))) (cond (decide ((p_1.Waits.length : Int) < 4096)) (some (.inr ())) (cond (decide (4106 < (p_1.Waits.length : Int))) (some (.inr ())) (some (.inl ())))) (cond (decide (4106 < (p_1.Waits.length : Int))) (some (.inr ())) (some (.inl ()))))) (fun t_5 => Sum.elim (fun t_5a => Option.bind (loop (ref09_Great_l1 p_1) (0, 0)) (fun t_13 => Option.bind (loop (ref09_Great_l2 p_1) (t_13, 0)) (fun t_19 => some (decide (2000000 ≤ t_19))))) (fun t_5b => some true) t_5)

def ref13_Great (p_1 : Store) : Option Bool :=
  Option.bind (Option.bind (ref09_Great (Disk.mk p_1.Disk.Blocks p_1.Disk.Waits)) fun x_9 => cond x_9 (some true) (some (decide (10000 < (p_1.Space.length : Int))))) (fun t_6 => some t_6)

def store_Raw (p_1 : Store) (p_5 : UInt32) (p_6 : UInt32) (p_7 : UInt32) (p_8 : List UInt8) : Option (Store × Ptr × Int) :=
  Option.bind (store_asked p_1 p_5 256 ([p_8])) fun x_17 => cond (!decide (x_17 = 0)) (some (Store.mk (Disk.mk ([] : List (List UInt8)) ([] : List Write)) ([] : List UInt8) (0 : UInt32) (0 : UInt32), Ptr.mk 0 (0 : UInt32) (0 : UInt32) (0 : UInt32) (0 : UInt32), x_17)) (Option.bind (store_put p_1 (Ptr.mk 0 p_5 p_6 p_7 (0 : UInt32)) p_8) fun x_20 => some (x_20.1, x_20.2.1, x_20.2.2))

def store_Lay (p_1 : Store) (p_5 : UInt32) (p_6 : List UInt8) : Option (Store × Ptr × Int) :=
  Option.bind (store_Raw p_1 p_5 (0 : UInt32) (0 : UInt32) p_6) fun x_11 => some (x_11.1, x_11.2.1, x_11.2.2)

end Go.Ow

/- that new memory's bytes do not matter to bytes.Repeat. -/
namespace Go.Ow
set_option linter.unusedVariables false
set_option linter.unusedSimpArgs false

theorem take_cpy {α : Type} {l m : List α} {a : Nat} (h : a ≤ l.length) : (cpy l a m).take (a + m.length) = l.take a ++ m := by
  unfold cpy
  rw [List.take_left' (by rw [List.length_append, List.length_take]; omega)]
theorem len_cpy {α : Type} {l m : List α} {a : Nat} (h : a + m.length ≤ l.length) : (cpy l a m).length = l.length := by
  unfold cpy; rw [List.length_append, List.length_append, List.length_take, List.length_drop]; omega
theorem run_go {σ τ : Type} {body : σ → Option (σ ⊕ τ)} {n : Nat} {s s' : σ} (h : body s = some (.inl s')) : run body (n + 1) s = run body n s' := by
  show Option.bind (body s) _ = _
  rw [h]; rfl
theorem rep_loop {x : UInt64 × UInt64} {t : Int} {n : Nat} (hn : n ≤ LIM) (hN : w64 (x.2.toNat : Int) = (n : Int)) (f : Nat) : ∀ (A B : List UInt8) (k : Int) (r : List UInt8),
    A.length = n → B.length = n → 0 ≤ k → k ≤ (n : Int) → A.take k.toNat = B.take k.toNat → run (bytes_Repeat_l1 x t) f (A, k) = some r → run (bytes_Repeat_l1 x t) f (B, k) = some r := by
  induction f with
  | zero => intro A B k r _ _ _ _ _ h; cases h
  | succ f ih =>
    intro A B k r hA hB h0 hk he h
    obtain ⟨o, ho, hd⟩ := run_some h
    rw [bytes_Repeat_l1.eq_1] at ho
    dsimp only at ho
    rw [hN] at ho
    by_cases hc : k < (n : Int)
    · rw [decide_eq_true hc, cond_true] at ho
      obtain ⟨h1, ho⟩ := chk_some ho
      obtain ⟨h2, ho⟩ := chk_some ho
      obtain ⟨A', hA', h3, ho⟩ := cpyO_some ho
      have hcA : cut A (0 : Int) (min k t) = A.take (min k t).toNat := by simp [cut]
      have hcB : cut B (0 : Int) (min k t) = B.take (min k t).toNat := by simp [cut]
      have hcc : B.take (min k t).toNat = A.take (min k t).toNat := by
        have e1 : (A.take k.toNat).take (min k t).toNat = (B.take k.toNat).take (min k t).toNat := by rw [he]
        rw [List.take_take, List.take_take, Nat.min_eq_left (by omega)] at e1
        exact e1.symm
      have hml : (A.take (min k t).toNat).length = (min k t).toNat := by rw [List.length_take]; omega
      rw [hcA, hml] at ho
      rw [hcA] at hA'
      obtain ⟨m, hm⟩ : ∃ m, m = (A.take (min k t).toNat).take ((A.length : Int).toNat - k.toNat) := ⟨_, rfl⟩
      rw [← hm] at hA'
      have hmlen : (m.length : Int) = min ((min k t).toNat : Int) ((A.length : Int) - k) := by rw [hm, List.length_take, hml]; omega
      rw [← hmlen] at ho
      have hw : w64 (k + (m.length : Int)) = k + (m.length : Int) := w64_of (by omega) (by have : LIM = 1099511627776 := rfl; omega)
      rw [hw] at ho
      have hrun := run_next hd ho
      obtain ⟨B', hB'⟩ : ∃ B', B' = cpy B k.toNat m := ⟨_, rfl⟩
      have hbody : bytes_Repeat_l1 x t (B, k) = some (.inl (B', k + (m.length : Int))) := by
        rw [bytes_Repeat_l1.eq_1]
        dsimp only
        rw [hN, decide_eq_true hc, cond_true, hcB, hcc, hml]
        unfold chk cpyO
        rw [if_pos (by omega), if_pos (by omega), if_pos (by omega)]
        rw [show (A.take (min k t).toNat).take ((B.length : Int).toNat - k.toNat) = m by rw [hm, hA, hB], ← hB', hB, ← hA, ← hmlen, hw]
      rw [run_go hbody]
      have hkl : k.toNat + m.length ≤ n := by omega
      refine ih A' B' _ r (by rw [hA', len_cpy (by omega), hA]) (by rw [hB', len_cpy (by omega), hB]) (by omega) (by omega) ?_ hrun
      rw [show (k + (m.length : Int)).toNat = k.toNat + m.length by omega, hA', hB', take_cpy (by omega), take_cpy (by omega), he]
    · rw [decide_eq_false hc, cond_false] at ho
      have hr := run_done hd ho
      have : A = B := by
        rw [List.take_of_length_le (by omega), List.take_of_length_le (by omega)] at he; exact he
      rw [← this]; exact h
theorem bytes_Repeat_any {x_7 : UInt64 × UInt64} {t_14 : Int} {p_1 : List UInt8} {r : List UInt8} {nz0 nz : List UInt8} {n : Nat}
    (hm : nz0 = List.replicate (w64 (x_7.2.toNat : Int)).toNat (0 : UInt8)) (hnn : w64 (x_7.2.toNat : Int) = (n : Int)) (hL : nz.length = n)
    (hx : (slc nz0 0 (w64 (x_7.2.toNat : Int)) fun m_29 => cpyO m_29 0 (m_29.length : Int) p_1 fun m_32 => Option.bind (loop (bytes_Repeat_l1 x_7 t_14) (m_32, min (p_1.length : Int) ((m_29.length : Int) - 0))) (fun t_36 => some t_36)) = some r) (hlim : n ≤ LIM) :
    (slc nz 0 (w64 (x_7.2.toNat : Int)) fun m_29 => cpyO m_29 0 (m_29.length : Int) p_1 fun m_32 => Option.bind (loop (bytes_Repeat_l1 x_7 t_14) (m_32, min (p_1.length : Int) ((m_29.length : Int) - 0))) (fun t_36 => some t_36)) = some r := by
  have hl0 : nz0.length = n := by rw [hm, hnn, List.length_replicate]; omega
  have hcut : ∀ l : List UInt8, l.length = n → cut l 0 (n : Int) = l := fun l hl => by simp [cut, List.take_of_length_le (Nat.le_of_eq hl)]
  rw [hnn] at hx ⊢
  unfold slc at hx ⊢
  rw [if_pos (by omega), hcut _ hl0] at hx
  rw [if_pos (by omega), hcut _ hL]
  dsimp only at hx ⊢
  unfold cpyO at hx ⊢
  rw [if_pos (by omega)] at hx
  rw [if_pos (by omega)]
  rw [hl0] at hx; rw [hL]
  obtain ⟨m, hmm⟩ : ∃ m, m = p_1.take ((n : Int).toNat - (0 : Int).toNat) := ⟨_, rfl⟩
  rw [← hmm] at hx ⊢
  have hml : min (p_1.length : Int) ((n : Int) - 0) = (m.length : Int) := by rw [hmm, List.length_take]; omega
  rw [hml] at hx ⊢
  obtain ⟨t, ht, h⟩ := Option.bind_eq_some_iff.1 hx
  have hmn : m.length ≤ n := by omega
  have := rep_loop hlim hnn FUEL (cpy nz0 (0 : Int).toNat m) (cpy nz (0 : Int).toNat m) (m.length : Int) t
    (by rw [len_cpy (by simp only [Int.toNat_zero]; omega), hl0]) (by rw [len_cpy (by simp only [Int.toNat_zero]; omega), hL]) (by omega) (by omega)
    (by
      have e1 := take_cpy (l := nz0) (m := m) (a := (0 : Int).toNat) (by simp)
      have e2 := take_cpy (l := nz) (m := m) (a := (0 : Int).toNat) (by simp)
      simp only [Int.toNat_zero, Nat.zero_add, List.take_zero, List.nil_append] at e1 e2
      rw [Int.toNat_natCast]; simp only [Int.toNat_zero]; rw [e1, e2]) ht
  show Option.bind (loop (bytes_Repeat_l1 x_7 t_14) (cpy nz (0 : Int).toNat m, (m.length : Int))) (fun t_36 => some t_36) = some r
  rw [show loop (bytes_Repeat_l1 x_7 t_14) (cpy nz (0 : Int).toNat m, (m.length : Int)) = some t from this]
  exact h
end Go.Ow

/- plain functions: what the code computes. -/
namespace Go.Ow
set_option linter.unusedVariables false
set_option linter.unusedSimpArgs false

end Go.Ow

/- plain functions: what the code computes. -/
namespace Go.Ow
set_option linter.unusedVariables false
set_option linter.unusedSimpArgs false

def obj_Check_1 (p_1 : Int) (p_2 : Int) (p_3 : Int) : Option Bool :=
  Option.bind (cond (decide (p_2 ≤ p_1)) (some (decide (p_1 ≤ p_3))) (some false)) (fun t_4 => some t_4)

def obj_Check_2 (p_1 : Ptr) : Option Bool :=
  Option.bind (ptr_Check p_1) fun x_3 => some (!decide (x_3 = 0))

def slices_IndexFunc_Ptr_l1 (p_1 : List Ptr) (s_6 : Nat) : Option (Nat ⊕ (Unit ⊕ Int)) :=
  cond (decide (((s_6 : Nat) : Int) < (p_1.length : Int))) (idx p_1 ((s_6 : Nat) : Int) fun y_10 => Option.bind (obj_Check_2 y_10) fun x_19 => cond x_19 (some (.inr (.inr ((s_6 : Nat) : Int)))) (some (.inl (s_6 + 1)))) (some (.inr (.inl ())))

def slices_IndexFunc_Ptr (p_1 : List Ptr) : Option Int :=
  Option.bind (loop (slices_IndexFunc_Ptr_l1 p_1) 0) (fun t_3 => Sum.elim (fun t_3a => some (-1)) (fun t_3b => some t_3b) t_3)

def slices_ContainsFunc_Ptr (p_1 : List Ptr) : Option Bool :=
  Option.bind (slices_IndexFunc_Ptr p_1) fun x_3 => some (decide (0 ≤ x_3))

def obj_Check (p_1 : Object) : Option Int :=
  Option.bind (obj_Check_1 (p_1.Kind.toNat : Int) 1 7) fun x_4 => cond (!x_4) (some 8) (Option.bind (obj_Check_1 p_1.Links 0 255) fun x_8 => cond (!x_8) (some 8) (Option.bind (obj_Check_1 p_1.Size 0 3840) fun x_12 => cond (!x_12) (some 8) (cond (!decide ((p_1.Data.length : Int) = 15)) (some 8) (Option.bind (slices_ContainsFunc_Ptr p_1.Data) fun x_17 => cond x_17 (some 8) (some 0)))))

def ptr_sizes : Option (A5 Int) :=
  some (A5.mk 1 3 4 4 4)

def ptr_Write_l1 (p_1 : Ptr) (x_8 : A5 Int) (s_14 : List UInt8 × Nat) : Option ((List UInt8 × Nat) ⊕ (List UInt8)) :=
  cond (decide (((s_14.2 : Nat) : Int) < 5)) (idx x_8.l ((s_14.2 : Nat) : Int) fun y_19 => idx (A5.mk p_1.At (p_1.Birth.toNat : Int) (p_1.Iv.toNat : Int) (p_1.Tag.toNat : Int) (p_1.Sum.toNat : Int)).l ((s_14.2 : Nat) : Int) fun y_21 => Option.bind (code_Put y_21 y_19) fun x_23 => app s_14.1 x_23.1 fun q_27 => some (.inl (q_27, s_14.2 + 1))) (some (.inr s_14.1))

def ptr_Write (p_1 : Ptr) : Option (List UInt8 × Int) :=
  Option.bind (ptr_Check p_1) fun x_3 => cond (!decide (x_3 = 0)) (some (([] : List UInt8), x_3)) (Option.bind (ptr_sizes) fun x_8 => Option.bind (loop (ptr_Write_l1 p_1 x_8) (([] : List UInt8), 0)) (fun t_11 => some (t_11, 0)))

def ptr_Row_l1 (p_1 : List Ptr) (s_8 : List UInt8 × Nat) : Option ((List UInt8 × Nat) ⊕ ((List UInt8) ⊕ Int)) :=
  cond (decide (((s_8.2 : Nat) : Int) < (p_1.length : Int))) (idx p_1 ((s_8.2 : Nat) : Int) fun y_13 => Option.bind (ptr_Write y_13) fun x_23 => cond (!decide (x_23.2 = 0)) (some (.inr (.inr x_23.2))) (appN 256 s_8.1 x_23.1 fun q_28 => some (.inl (q_28, s_8.2 + 1)))) (some (.inr (.inl s_8.1)))

def ptr_Row (p_1 : List Ptr) : Option (List UInt8 × Int) :=
  cond (decide (16 < (p_1.length : Int))) (some (([] : List UInt8), 4)) (Option.bind (loop (ptr_Row_l1 p_1) (([] : List UInt8), 0)) (fun t_5 => Sum.elim (fun t_5a => extO 256 t_5a 256 fun m_13 => some (m_13, 0)) (fun t_5b => some (([] : List UInt8), t_5b)) t_5))

def obj_Write (p_1 : Object) : Option (List UInt8 × Int) :=
  Option.bind (obj_Check p_1) fun x_4 => cond (!decide (x_4 = 0)) (some (([] : List UInt8), x_4)) (Option.bind (code_Put p_1.Size 2) fun x_9 => app ([p_1.Kind, u8i p_1.Links]) x_9.1 fun q_15 => cpyO ([(0 : UInt8), (0 : UInt8), (0 : UInt8), (0 : UInt8), (0 : UInt8), (0 : UInt8), (0 : UInt8), (0 : UInt8), (0 : UInt8), (0 : UInt8), (0 : UInt8), (0 : UInt8), (0 : UInt8), (0 : UInt8), (0 : UInt8), (0 : UInt8)] : List UInt8) 0 (([(0 : UInt8), (0 : UInt8), (0 : UInt8), (0 : UInt8), (0 : UInt8), (0 : UInt8), (0 : UInt8), (0 : UInt8), (0 : UInt8), (0 : UInt8), (0 : UInt8), (0 : UInt8), (0 : UInt8), (0 : UInt8), (0 : UInt8), (0 : UInt8)] : List UInt8).length : Int) q_15 fun m_20 => Option.bind (ptr_Row p_1.Data) fun x_24 => cond (!decide (x_24.2 = 0)) (some (([] : List UInt8), x_24.2)) (slc x_24.1 0 240 fun m_31 => chk (m_31 ≠ []) <| app m_20 m_31 fun q_36 => some (q_36, 0)))

def law15_made : Option (Store × Ptr × Bool) :=
  mks 15 (Ptr.mk 0 (0 : UInt32) (0 : UInt32) (0 : UInt32) (0 : UInt32)) fun x_5 => Option.bind (Option.bind (store_New) fun x_11 => mks 256 (0 : UInt8) fun x_19 => Option.bind (store_Lay x_11 (3 : UInt32) x_19) fun x_24 => some (x_24.1.Disk.Blocks, x_24.1.Disk.Waits, x_24.1.Space, x_24.1.Epoch, x_24.1.Count, x_24.2.1, x_24.2.2)) (fun t_8 => Option.bind (mks 256 (0 : UInt8) fun x_61 => Option.bind (store_Lay (Store.mk (Disk.mk t_8.1 t_8.2.1) t_8.2.2.1 t_8.2.2.2.1 t_8.2.2.2.2.1) (5 : UInt32) x_61) fun x_64 => some (x_64.1.Disk.Blocks, x_64.1.Disk.Waits, x_64.1.Space, x_64.1.Epoch, x_64.1.Count, x_64.2.1, x_64.2.2)) (fun t_54 => chk (0 ≤ (0 : Int) ∧ (0 : Int).toNat < x_5.length) <| setI x_5 0 t_8.2.2.2.2.2.1 fun m_94 => chk (0 ≤ (4 : Int) ∧ (4 : Int).toNat < m_94.length) <| setI m_94 4 t_54.2.2.2.2.2.1 fun m_102 => Option.bind (obj_Write (Object.mk (1 : UInt8) 0 0 m_102)) fun x_109 => Option.bind (store_Lay (Store.mk (Disk.mk t_54.1 t_54.2.1) t_54.2.2.1 t_54.2.2.2.1 t_54.2.2.2.2.1) (5 : UInt32) x_109.1) fun x_117 => Option.bind (ptr_Row ([Ptr.mk 0 (0 : UInt32) (0 : UInt32) (0 : UInt32) (0 : UInt32), Ptr.mk 0 (0 : UInt32) (0 : UInt32) (0 : UInt32) (0 : UInt32), x_117.2.1])) fun x_128 => Option.bind (store_Lay x_117.1 (5 : UInt32) x_128.1) fun x_136 => Option.bind (cond (decide (t_8.2.2.2.2.2.2 = 0)) (cond (decide (t_54.2.2.2.2.2.2 = 0)) (cond (decide (x_109.2 = 0)) (cond (decide (x_117.2.2 = 0)) (cond (decide (x_128.2 = 0)) (some (decide (x_136.2.2 = 0))) (some false)) (some false)) (some false)) (some false)) (some false)) (fun t_143 => some (x_136.1, x_136.2.1, t_143))))

def set_young (p_1 : Store) (p_5 : Ptr) (p_6 : UInt32) (p_8 : Int) : Option ((Int × UInt32 × UInt32 × UInt32 × UInt32 × UInt32 × List (List UInt8) × List Write × List UInt8 × UInt32 × UInt32) × Int) :=
  some ((p_5.At, p_5.Birth, p_5.Iv, p_5.Tag, p_5.Sum, p_6, p_1.Disk.Blocks, p_1.Disk.Waits, p_1.Space, p_1.Epoch, p_1.Count), p_8)

def ptr_Read_l1 (p_1 : List UInt8) (x_6 : A5 Int) (s_12 : Int × Int × Int × Int × Int × Int × Nat) : Option ((Int × Int × Int × Int × Int × Int × Nat) ⊕ (Int × Int × Int × Int × Int)) :=
  cond (decide (((s_12.2.2.2.2.2.2 : Nat) : Int) < 5)) (idx x_6.l ((s_12.2.2.2.2.2.2 : Nat) : Int) fun y_17 => Option.bind (code_Get p_1 s_12.2.2.2.2.2.1 y_17) fun x_19 => chk (0 ≤ ((s_12.2.2.2.2.2.2 : Nat) : Int) ∧ ((s_12.2.2.2.2.2.2 : Nat) : Int).toNat < 5) <| A5.setI (A5.mk s_12.1 s_12.2.1 s_12.2.2.1 s_12.2.2.2.1 s_12.2.2.2.2.1) ((s_12.2.2.2.2.2.2 : Nat) : Int) x_19.1 fun m_23 => some (.inl (m_23.e0, m_23.e1, m_23.e2, m_23.e3, m_23.e4, w64 (s_12.2.2.2.2.2.1 + y_17), s_12.2.2.2.2.2.2 + 1))) (some (.inr (s_12.1, s_12.2.1, s_12.2.2.1, s_12.2.2.2.1, s_12.2.2.2.2.1)))

def ptr_Read (p_1 : List UInt8) : Option (Ptr × Int) :=
  cond (!decide ((p_1.length : Int) = 16)) (some (Ptr.mk 0 (0 : UInt32) (0 : UInt32) (0 : UInt32) (0 : UInt32), 3)) (Option.bind (ptr_sizes) fun x_6 => Option.bind (loop (ptr_Read_l1 p_1 x_6) (0, 0, 0, 0, 0, 0, 0)) (fun t_9 => Option.bind (ptr_Check (Ptr.mk t_9.1 (u32i t_9.2.1) (u32i t_9.2.2.1) (u32i t_9.2.2.2.1) (u32i t_9.2.2.2.2))) fun x_17 => cond (!decide (x_17 = 0)) (some (Ptr.mk 0 (0 : UInt32) (0 : UInt32) (0 : UInt32) (0 : UInt32), x_17)) (some (Ptr.mk t_9.1 (u32i t_9.2.1) (u32i t_9.2.2.1) (u32i t_9.2.2.2.1) (u32i t_9.2.2.2.2), 0))))

def ptr_Rows_r1 (y_14 : List UInt8) (s_13 : List Ptr) : Option ((List Ptr) ⊕ Int) :=
  Option.bind (ptr_Read y_14) fun x_21 => cond (!decide (x_21.2 = 0)) (some (.inr x_21.2)) (app s_13 ([x_21.1]) fun q_27 => some (.inl q_27))

def ptr_Rows (p_1 : List UInt8) : Option (List Ptr × Int) :=
  cond (!decide ((p_1.length : Int) = 256)) (some (([] : List Ptr), 3)) (Option.bind (slices_Chunk_byte p_1 16) fun x_6 => Option.bind (forL ptr_Rows_r1 (chunks (16 : Int).toNat p_1.length p_1) ([] : List Ptr)) (fun t_10 => Sum.elim (fun s_13 => some (s_13, 0)) (fun t_10e0 => some (([] : List Ptr), t_10e0)) t_10))

def set_Ptrs (p_1 : Store) (p_5 : Ptr) : Option (List Ptr × Int) :=
  Option.bind (store_Check p_1) fun x_8 => cond (!decide (x_8 = 0)) (some (([] : List Ptr), 8)) (Option.bind (ptr_Check p_5) fun x_12 => cond (!decide (x_12 = 0)) (some (([] : List Ptr), 8)) (cond (decide (p_5.At = 0) && (decide (p_5.Birth = (0 : UInt32)) && (decide (p_5.Iv = (0 : UInt32)) && (decide (p_5.Tag = (0 : UInt32)) && (decide (p_5.Sum = (0 : UInt32)) && true))))) (mks 16 (Ptr.mk 0 (0 : UInt32) (0 : UInt32) (0 : UInt32) (0 : UInt32)) fun x_19 => some (x_19, 0)) (Option.bind (store_Look p_1 p_5) fun x_21 => cond (!decide (x_21.2 = 0)) (some (([] : List Ptr), x_21.2)) (Option.bind (ptr_Rows x_21.1) fun x_26 => cond (!decide (x_26.2 = 0)) (some (([] : List Ptr), 8)) (some (x_26.1, 0))))))

def obj_Read (p_1 : List UInt8) : Option (Object × Int) :=
  cond (!decide ((p_1.length : Int) = 256)) (some (Object.mk (0 : UInt8) 0 0 ([] : List Ptr), 3)) (A16.first 0 p_1 fun m_5 => slc p_1 16 (p_1.length : Int) fun m_14 => app m_14 (List.replicate 16 (0 : UInt8)) fun q_18 => Option.bind (ptr_Rows q_18) fun x_25 => cond (!decide (x_25.2 = 0)) (some (Object.mk (0 : UInt8) 0 0 ([] : List Ptr), 8)) (cond (!decide (([m_5.e4, m_5.e5, m_5.e6, m_5.e7, m_5.e8, m_5.e9, m_5.e10, m_5.e11, m_5.e12, m_5.e13, m_5.e14, m_5.e15] : List UInt8) = [(0 : UInt8), (0 : UInt8), (0 : UInt8), (0 : UInt8), (0 : UInt8), (0 : UInt8), (0 : UInt8), (0 : UInt8), (0 : UInt8), (0 : UInt8), (0 : UInt8), (0 : UInt8)])) (some (Object.mk (0 : UInt8) 0 0 ([] : List Ptr), 8)) (Option.bind (code_Get p_1 2 2) fun x_32 => slc x_25.1 0 15 fun m_36 => Option.bind (obj_Check (Object.mk m_5.e0 (m_5.e1.toNat : Int) x_32.1 m_36)) fun x_40 => cond (!decide (x_40 = 0)) (some (Object.mk (0 : UInt8) 0 0 ([] : List Ptr), 8)) (some (Object.mk m_5.e0 (m_5.e1.toNat : Int) x_32.1 m_36, 0)))))

def set_one (p_1 : Store) (p_5 : Ptr) : Option (Object × Int) :=
  Option.bind (store_Look p_1 p_5) fun x_9 => cond (!decide (x_9.2 = 0)) (some (Object.mk (0 : UInt8) 0 0 ([] : List Ptr), x_9.2)) (Option.bind (obj_Read x_9.1) fun x_14 => cond (!decide (x_14.2 = 0)) (some (Object.mk (0 : UInt8) 0 0 ([] : List Ptr), 8)) (some (x_14.1, 0)))

def set_young_1_l1 {σ τ : Type} (p_1 : Ptr → σ → Option (σ ⊕ τ)) (p_6 : UInt32) (x_52 : Object × Int) (s_67 : σ × Nat) : Option ((σ × Nat) ⊕ (σ ⊕ τ)) :=
  cond (decide (((s_67.2 : Nat) : Int) < (x_52.1.Data.length : Int))) (idx x_52.1.Data ((s_67.2 : Nat) : Int) fun y_74 => cond (decide (p_6 < y_74.Birth)) (Option.bind (p_1 y_74 s_67.1) fun out_85 => Sum.elim (fun s_87 => some (.inl (s_87, s_67.2 + 1))) (fun t_88 => some (.inr (.inr t_88))) out_85) (some (.inl ((s_67.1), s_67.2 + 1)))) (some (.inr (.inl (s_67.1))))

def set_young_1_l2 {σ τ : Type} (p_1 : Ptr → σ → Option (σ ⊕ τ)) (p_6 : UInt32) (p_8 : Store) (x_16 : List Ptr × Int) (s_31 : σ × Int × Nat) : Option ((σ × Int × Nat) ⊕ ((σ × Int) ⊕ ((σ ⊕ τ) × Int))) :=
  cond (decide (((s_31.2.2 : Nat) : Int) < (x_16.1.length : Int))) (idx x_16.1 ((s_31.2.2 : Nat) : Int) fun y_38 => cond (decide (y_38.Birth ≤ p_6)) (some (.inl ((s_31.1), s_31.2.1, s_31.2.2 + 1))) (Option.bind (set_one p_8 y_38) fun x_52 => cond (!decide (x_52.2 = 0)) (some (.inr (.inr (.inl (s_31.1), x_52.2)))) (Option.bind (p_1 y_38 s_31.1) fun out_57 => Sum.elim (fun s_59 => Option.bind (loop (set_young_1_l1 p_1 p_6 x_52) (s_59, 0)) (fun t_64 => Sum.elim (fun t_64a => some (.inl ((t_64a), x_52.2, s_31.2.2 + 1))) (fun t_64b => some (.inr (.inr (.inr (t_64b), x_52.2)))) t_64)) (fun t_60 => some (.inr (.inr (.inr t_60, x_52.2)))) out_57))) (some (.inr (.inl ((s_31.1), s_31.2.1))))

def set_young_1 {σ τ : Type} (p_1 : Ptr → σ → Option (σ ⊕ τ)) (p_2 : σ) (p_4 : Ptr) (p_6 : UInt32) (p_8 : Store) (p_14 : Int) : Option ((σ ⊕ τ) × Int) :=
  cond (decide (p_4.Birth ≤ p_6)) (some (.inl p_2, p_14)) (Option.bind (set_Ptrs p_8 p_4) fun x_16 => cond (!decide (x_16.2 = 0)) (some (.inl p_2, x_16.2)) (Option.bind (p_1 p_4 p_2) fun out_21 => Sum.elim (fun s_23 => Option.bind (loop (set_young_1_l2 p_1 p_6 p_8 x_16) (s_23, x_16.2, 0)) (fun t_28 => Sum.elim (fun t_28a => some (.inl (t_28a.1), t_28a.2)) (fun t_28b => some (t_28b.1, t_28b.2)) t_28)) (fun t_24 => some (.inr t_24, x_16.2)) out_21))

def slices_AppendSeq_Ptr_r1 (y_20 : Ptr) (s_19 : List Ptr) : Option ((List Ptr) ⊕ Unit) :=
  app s_19 ([y_20]) fun q_33 => some (.inl q_33)

def slices_AppendSeq_Ptr (p_1 : List Ptr) (p_4 : Ptr) (p_6 : UInt32) (p_8 : Store) (p_14 : Int) : Option (List Ptr × Ptr × UInt32 × Store × Int) :=
  Option.bind (set_young_1 slices_AppendSeq_Ptr_r1 p_1 p_4 p_6 p_8 p_14) (fun t_16 => Sum.elim (fun s_19 => some (s_19, p_4, p_6, p_8, t_16.2)) (fun _ => none) t_16.1)

def slices_Collect_Ptr (p_2 : Ptr) (p_4 : UInt32) (p_6 : Store) (p_12 : Int) : Option (List Ptr × Ptr × UInt32 × Store × Int) :=
  Option.bind (slices_AppendSeq_Ptr ([] : List Ptr) p_2 p_4 p_6 p_12) fun x_14 => some (x_14.1, x_14.2.1, x_14.2.2.1, x_14.2.2.2.1, x_14.2.2.2.2)

def set_Walk (p_1 : Store) (p_5 : Ptr) (p_6 : UInt32) : Option (List Ptr × Int) :=
  Option.bind (store_Check p_1) fun x_9 => cond (!decide (x_9 = 0)) (some (([] : List Ptr), 8)) (Option.bind (ptr_Check p_5) fun x_13 => cond (!decide (x_13 = 0)) (some (([] : List Ptr), 8)) (Option.bind (set_young p_1 p_5 p_6 0) fun x_18 => Option.bind (slices_Collect_Ptr (Ptr.mk x_18.1.1 x_18.1.2.1 x_18.1.2.2.1 x_18.1.2.2.2.1 x_18.1.2.2.2.2.1) x_18.1.2.2.2.2.2.1 (Store.mk (Disk.mk x_18.1.2.2.2.2.2.2.1 x_18.1.2.2.2.2.2.2.2.1) x_18.1.2.2.2.2.2.2.2.2.1 x_18.1.2.2.2.2.2.2.2.2.2.1 x_18.1.2.2.2.2.2.2.2.2.2.2) x_18.2) fun x_28 => cond (!decide (x_28.2.2.2.2 = 0)) (some (([] : List Ptr), x_28.2.2.2.2)) (some (x_28.1, 0))))

def law15_alive : Option Bool :=
  Option.bind (law15_made) fun x_1 => Option.bind (set_Walk x_1.1 x_1.2.1 (0 : UInt32)) fun x_12 => Option.bind (cond x_1.2.2 (cond (decide (x_12.2 = 0)) (cond (decide ((x_12.1.length : Int) = 4)) (idx x_12.1 0 fun y_23 => cond (decide (y_23.At = x_1.2.1.At) && (decide (y_23.Birth = x_1.2.1.Birth) && (decide (y_23.Iv = x_1.2.1.Iv) && (decide (y_23.Tag = x_1.2.1.Tag) && (decide (y_23.Sum = x_1.2.1.Sum) && true))))) (idx x_12.1 2 fun y_35 => some (decide (y_35.Birth = (3 : UInt32)))) (some false)) (some false)) (some false)) (some false)) (fun t_17 => some t_17)

def set_Object (p_1 : Store) (p_5 : Ptr) (p_6 : Int) : Option (Object × Int) :=
  Option.bind (store_Check p_1) fun x_10 => cond (!decide (x_10 = 0)) (some (Object.mk (0 : UInt8) 0 0 ([] : List Ptr), 8)) (Option.bind (ptr_Check p_5) fun x_14 => cond (!decide (x_14 = 0)) (some (Object.mk (0 : UInt8) 0 0 ([] : List Ptr), 8)) (cond (decide (p_6 < 0)) (some (Object.mk (0 : UInt8) 0 0 ([] : List Ptr), 2)) (cond (decide (16 ≤ p_6)) (some (Object.mk (0 : UInt8) 0 0 ([] : List Ptr), 2)) (Option.bind (set_Ptrs p_1 p_5) fun x_20 => cond (!decide (x_20.2 = 0)) (some (Object.mk (0 : UInt8) 0 0 ([] : List Ptr), x_20.2)) (idx x_20.1 p_6 fun y_25 => Option.bind (set_one p_1 y_25) fun x_36 => some (x_36.1, x_36.2))))))

def slices_Equal_Ptr_l1 (p_1 : List Ptr) (p_3 : List Ptr) (s_9 : Nat) : Option (Nat ⊕ (Unit ⊕ Unit)) :=
  cond (decide (((s_9 : Nat) : Int) < (p_1.length : Int))) (idx p_1 ((s_9 : Nat) : Int) fun y_13 => idx p_3 ((s_9 : Nat) : Int) fun y_22 => cond (!(decide (y_13.At = y_22.At) && (decide (y_13.Birth = y_22.Birth) && (decide (y_13.Iv = y_22.Iv) && (decide (y_13.Tag = y_22.Tag) && (decide (y_13.Sum = y_22.Sum) && true)))))) (some (.inr (.inr ()))) (some (.inl (s_9 + 1)))) (some (.inr (.inl ())))

def slices_Equal_Ptr (p_1 : List Ptr) (p_3 : List Ptr) : Option Bool :=
  cond (!decide ((p_1.length : Int) = (p_3.length : Int))) (some false) (Option.bind (loop (slices_Equal_Ptr_l1 p_1 p_3) 0) (fun t_6 => Sum.elim (fun t_6a => some true) (fun t_6b => some false) t_6))

def obj_Same (p_1 : Object) (p_3 : Object) : Option Bool :=
  Option.bind (cond (decide (p_1.Kind = p_3.Kind)) (cond (decide (p_1.Links = p_3.Links)) (cond (decide (p_1.Size = p_3.Size)) (Option.bind (slices_Equal_Ptr p_1.Data p_3.Data) fun x_13 => some x_13) (some false)) (some false)) (some false)) (fun t_7 => some t_7)

def law15_SetAlone_l2 (x_57 : List Ptr × Int) (x_61 : List Ptr × Int) (s_75 : Nat) : Option (Nat ⊕ (Unit ⊕ Unit)) :=
  cond (decide (((s_75 : Nat) : Int) < (x_57.1.length : Int))) (idx x_57.1 ((s_75 : Nat) : Int) fun y_79 => idx x_61.1 ((s_75 : Nat) : Int) fun y_90 => cond (!(decide (y_79.At = y_90.At) && (decide (y_79.Birth = y_90.Birth) && (decide (y_79.Iv = y_90.Iv) && (decide (y_79.Tag = y_90.Tag) && (decide (y_79.Sum = y_90.Sum) && true)))))) (some (.inr (.inr ()))) (some (.inl (s_75 + 1)))) (some (.inr (.inl ())))

def law15_SetAlone_l1 (p_1 : Store) (x_25 : List Ptr × Int) (s_33 : Nat) : Option (Nat ⊕ (Unit ⊕ Unit)) :=
  cond (decide (((s_33 : Nat) : Int) < (x_25.1.length : Int))) (idx x_25.1 ((s_33 : Nat) : Int) fun y_37 => idx p_1.Space y_37.At fun y_48 => cond (decide (y_48 = (0 : UInt8))) (some (.inr (.inr ()))) (some (.inl (s_33 + 1)))) (some (.inr (.inl ())))

def law15_SetAlone (p_1 : Store) (p_5 : Ptr) (p_6 : Int) (p_7 : UInt32) (p_8 : List UInt8) : Option Bool :=
  Option.bind (law15_alive) fun x_12 => cond (!x_12) (some false) (Option.bind (ref13_Great p_1) fun x_16 => cond x_16 (some x_12) (cond (decide (10000 < (p_8.length : Int))) (some x_12) (Option.bind (store_Check p_1) fun x_21 => cond (!decide (x_21 = 0)) (some x_12) (Option.bind (set_Walk p_1 p_5 (0 : UInt32)) fun x_25 => cond (!decide (x_25.2 = 0)) (some x_12) (Option.bind (loop (law15_SetAlone_l1 p_1 x_25) 0) (fun t_30 => Sum.elim (fun t_30a => Option.bind (store_Lay p_1 (1 : UInt32) p_8) fun x_36 => cond (!decide (x_36.2.2 = 0)) (some x_12) (Option.bind (set_Object p_1 p_5 p_6) fun x_45 => Option.bind (set_Object x_36.1 p_5 p_6) fun x_52 => Option.bind (set_Walk p_1 p_5 p_7) fun x_57 => Option.bind (set_Walk x_36.1 p_5 p_7) fun x_61 => cond (!decide (x_45.2 = x_52.2)) (some false) (Option.bind (obj_Same x_45.1 x_52.1) fun x_66 => cond (!x_66) (some false) (cond (!decide (x_57.2 = x_61.2)) (some false) (cond (!decide ((x_57.1.length : Int) = (x_61.1.length : Int))) (some false) (Option.bind (loop (law15_SetAlone_l2 x_57 x_61) 0) (fun t_72 => Sum.elim (fun t_72a => some x_12) (fun t_72b => some false) t_72))))))) (fun t_30b => some x_12) t_30))))))

end Go.Ow

/-
  What is proved here: loops over the elements of a list, told by recursion over the list: plain lists alone.
-/
namespace Go.Ow
set_option linter.unusedVariables false
set_option linter.unusedSimpArgs false
variable {α σ ρ τ : Type}

/-- how a loop that goes on behind the element ends -/
def goesOn (st : ρ → σ) : ρ ⊕ τ → Option (σ ⊕ τ)
  | .inl r => some (.inl (st r))
  | .inr t => some (.inr t)
def ends (fin : ρ → τ) : ρ ⊕ τ → Option τ
  | .inl r => some (fin r)
  | .inr t => some t
/-- a loop over the elements of a list: what is carried is told by a recursion over the list -/
theorem loop_each (l : List α) (st : Nat → ρ → σ) {body : σ → Option (σ ⊕ τ)} (f : α → ρ → Option (ρ ⊕ τ)) (fin : ρ → τ) (I : Nat → ρ → Prop)
    (step : ∀ i (h : i < l.length) r, I i r → body (st i r) = Option.bind (f l[i] r) (goesOn (st (i + 1)))) (inv : ∀ i (h : i < l.length) r r', I i r → f l[i] r = some (.inl r') → I (i + 1) r')
    (stop : ∀ r, I l.length r → body (st l.length r) = some (.inr (fin r))) (hl : l.length < FUEL) {r0 : ρ} (h0 : I 0 r0) :
    loop body (st 0 r0) = Option.bind (forL f l r0) (ends fin) := by
  have key : ∀ (k i : Nat) (r : ρ) (n : Nat), i + k = l.length → k < n → I i r → run body n (st i r) = Option.bind (forL f (l.drop i) r) (ends fin) := by
    intro k
    induction k with
    | zero =>
      intro i r n hi hn hI
      obtain rfl : i = l.length := by omega
      obtain ⟨n, rfl⟩ : ∃ m, n = m + 1 := ⟨n - 1, by omega⟩
      show Option.bind (body (st l.length r)) _ = _
      rw [stop r hI, List.drop_length]; rfl
    | succ k ih =>
      intro i r n hi hn hI
      have hlt : i < l.length := by omega
      obtain ⟨n, rfl⟩ : ∃ m, n = m + 1 := ⟨n - 1, by omega⟩
      show Option.bind (body (st i r)) _ = _
      rw [step i hlt r hI, List.drop_eq_getElem_cons hlt]
      show _ = Option.bind (Option.bind (f l[i] r) _) _
      cases hf : f l[i] r with
      | none => rfl
      | some o =>
        cases o with
        | inl r' => exact ih (i + 1) r' n (by omega) (by omega) (inv i hlt r r' hI hf)
        | inr t => rfl
  have := key l.length 0 r0 FUEL (by omega) hl h0
  simpa [loop] using this
/-- the same, where nothing is known of what is carried -/
theorem loop_each' (l : List α) (st : Nat → ρ → σ) {body : σ → Option (σ ⊕ τ)} (f : α → ρ → Option (ρ ⊕ τ)) (fin : ρ → τ)
    (step : ∀ i (h : i < l.length) r, body (st i r) = Option.bind (f l[i] r) (goesOn (st (i + 1)))) (stop : ∀ r, body (st l.length r) = some (.inr (fin r))) (hl : l.length < FUEL) (r0 : ρ) :
    loop body (st 0 r0) = Option.bind (forL f l r0) (ends fin) :=
  loop_each l st f fin (fun _ _ => True) (fun i h r _ => step i h r) (fun _ _ _ _ _ _ => trivial) (fun r _ => stop r) hl trivial
theorem forL_map (g : ρ → α → ρ) : ∀ (l : List α) (r : ρ), forL (fun y r => some (.inl (g r y) : ρ ⊕ τ)) l r = some (.inl (l.foldl g r))
  | [], r => rfl
  | y :: l, r => by rw [forL_cons (s' := g r y) rfl, forL_map g l]; rfl
theorem lt_fuel {n m : Nat} (h : n ≤ m) (hm : Nat.blt m FUEL = true) : n < FUEL := Nat.lt_of_le_of_lt h (by simpa using hm)
theorem cI {n m : Nat} {β : Type} {a b : β} : (bif decide ((n : Int) < (m : Int)) then a else b) = if n < m then a else b := by
  by_cases h : n < m
  · rw [if_pos h, decide_eq_true (by omega)]; rfl
  · rw [if_neg h, decide_eq_false (by omega)]; rfl
end Go.Ow

/-
  What is proved here: the disk in plain words: what may be, a twin, a write, what is seen.
-/
namespace Go.Ow
set_option linter.unusedVariables false
set_option linter.unusedSimpArgs false

def okW (w : Write) : Bool := decide (0 ≤ w.At ∧ w.At < 256) && decide (w.Data.length = 256)
def OKD (d : Disk) : Prop := d.Blocks.length = 256 ∧ d.Waits.length ≤ 4096 ∧ (∀ b ∈ d.Blocks, b.length = 256) ∧ ∀ w ∈ d.Waits, okW w = true
instance (d : Disk) : Decidable (OKD d) := by unfold OKD; infer_instance
/-- no disk is larger than the machine's numbers -/
structure Sized (d : Disk) : Prop where
  blocks : d.Blocks.length ≤ 9223372036854775807
  waits : d.Waits.length ≤ 9223372036854775807
  at' : ∀ w ∈ d.Waits, InI64 w.At

theorem dev_place_eq {n : Int} (h : InI64 n) : dev_place n = some (decide (0 ≤ n ∧ n < 256)) := by
  unfold dev_place u64i
  congr 1
  apply decide_eq_decide.2
  rw [UInt64.lt_iff_toNat_lt, UInt64.toNat_ofNat']
  obtain ⟨h1, h2⟩ := h
  show _ % 18446744073709551616 < (256 : UInt64).toNat ↔ _
  rw [show (256 : UInt64).toNat = 256 from rfl]
  omega
theorem small_lt {n : Nat} (h : n ≤ 9223372036854775807) : n < FUEL := Nat.lt_of_le_of_lt h (by decide)

theorem check_l1 (d : Disk) (ok : Bool) (h : d.Blocks.length ≤ 9223372036854775807) : loop (dev_Check_l1 d) (ok, 0) = some (ok && d.Blocks.all fun b => decide (b.length = 256)) := by
  rw [loop_each' d.Blocks (fun i (r : Bool) => (r, i)) (fun b r => some (.inl (r && decide (b.length = 256)))) (fun r => r) (fun i hi r => ?_) (fun r => ?_) (small_lt h) ok, forL_map]
  · show some _ = some _
    congr 1
    generalize d.Blocks = l
    induction l generalizing ok with
    | nil => simp
    | cons b l ih => simp only [List.foldl_cons, ih, List.all_cons, Bool.and_assoc]
  · unfold dev_Check_l1
    rw [cI, if_pos hi, idx_nat _ hi]
    cases r
    · rfl
    · simp only [cond_true, Option.bind_some, goesOn, Bool.true_and]
      rw [show decide ((d.Blocks[i].length : Int) = 256) = decide (d.Blocks[i].length = 256) from decide_eq_decide.2 (by omega)]
  · unfold dev_Check_l1
    rw [cI, if_neg (by omega)]
theorem check_l2 (d : Disk) (ok : Bool) (h : Sized d) : loop (dev_Check_l2 d) (ok, 0) = some (ok && d.Waits.all okW) := by
  rw [loop_each' d.Waits (fun i (r : Bool) => (r, i)) (fun w r => some (.inl (r && (okW w)))) (fun r => r) (fun i hi r => ?_) (fun r => ?_) (small_lt h.waits) ok, forL_map]
  · show some _ = some _
    congr 1
    generalize d.Waits = l
    induction l generalizing ok with
    | nil => simp
    | cons b l ih => simp only [List.foldl_cons, ih, List.all_cons, Bool.and_assoc]
  · unfold dev_Check_l2
    rw [cI, if_pos hi, idx_nat _ hi]
    cases r
    · rfl
    · simp only [cond_true, Option.bind_some, goesOn, Bool.true_and]
      rw [dev_place_eq (h.at' _ (List.getElem_mem hi))]
      unfold okW
      by_cases c : 0 ≤ d.Waits[i].At ∧ d.Waits[i].At < 256
      · rw [decide_eq_true c]
        simp only [Option.bind_some, cond_true, Bool.true_and]
        rw [show decide ((d.Waits[i].Data.length : Int) = 256) = decide (d.Waits[i].Data.length = 256) from decide_eq_decide.2 (by omega)]
      · rw [decide_eq_false c]
        rfl
  · unfold dev_Check_l2
    rw [cI, if_neg (by omega)]
theorem dev_Check_eq {d : Disk} (h : Sized d) : dev_Check d = some (if OKD d then 0 else 8) := by
  unfold dev_Check
  rw [show (bif decide ((d.Blocks.length : Int) = 256) then some (decide ((d.Waits.length : Int) ≤ 4096)) else some false) = some (decide (d.Blocks.length = 256) && decide (d.Waits.length ≤ 4096)) from by
    by_cases c : d.Blocks.length = 256
    · rw [decide_eq_true (show (d.Blocks.length : Int) = 256 by omega), decide_eq_true c]
      simp only [cond_true, Bool.true_and]
      congr 1
      simp only [decide_eq_decide]; omega
    · rw [decide_eq_false (show ¬ (d.Blocks.length : Int) = 256 by omega), decide_eq_false c]; rfl]
  simp only [Option.bind_some]
  rw [check_l1 d _ h.blocks]
  simp only [Option.bind_some]
  rw [check_l2 d _ h]
  simp only [Option.bind_some]
  by_cases c : OKD d
  · rw [if_pos c]
    obtain ⟨c1, c2, c3, c4⟩ := c
    rw [show (decide (d.Blocks.length = 256) && decide (d.Waits.length ≤ 4096) && (d.Blocks.all fun b => decide (b.length = 256)) && d.Waits.all okW) = true from by
      simp only [Bool.and_eq_true, decide_eq_true_eq, List.all_eq_true]; exact ⟨⟨⟨c1, c2⟩, c3⟩, c4⟩]
    rfl
  · rw [if_neg c]
    rw [show (decide (d.Blocks.length = 256) && decide (d.Waits.length ≤ 4096) && (d.Blocks.all fun b => decide (b.length = 256)) && d.Waits.all okW) = false from by
      rw [Bool.eq_false_iff]; intro e
      simp only [Bool.and_eq_true, decide_eq_true_eq, List.all_eq_true] at e
      exact c ⟨e.1.1.1, e.1.1.2, e.1.2, e.2⟩]
    rfl

/-! ### A twin -/
structure Mid (d : Disk) : Prop where
  blocks : d.Blocks.length ≤ 1000
  waits : d.Waits.length ≤ 5000
  eb : ∀ b ∈ d.Blocks, b.length ≤ 1000
  ew : ∀ w ∈ d.Waits, w.Data.length ≤ 1000
theorem OKD.mid {d : Disk} (h : OKD d) : Mid d := ⟨by rw [h.1]; omega, by have := h.2.1; omega, fun b hb => by rw [h.2.2.1 b hb]; omega, fun w hw => by
  have := h.2.2.2 w hw
  simp only [okW, Bool.and_eq_true, decide_eq_true_eq] at this
  omega⟩
theorem OKD.sized {d : Disk} (h : OKD d) : Sized d := ⟨by rw [h.1]; omega, by have := h.2.1; omega, fun w hw => by
  have := h.2.2.2 w hw
  simp only [okW, Bool.and_eq_true, decide_eq_true_eq] at this
  exact ⟨by omega, by omega⟩⟩
theorem sum_le_mul {l : List Nat} {k : Nat} (h : ∀ x ∈ l, x ≤ k) : l.sum ≤ l.length * k := by
  induction l with
  | nil => simp
  | cons x l ih =>
    have := h x (by simp); have := ih (fun y hy => h y (by simp [hy]))
    simp only [List.sum_cons, List.length_cons, Nat.add_mul, Nat.one_mul]; omega
theorem twin_l1 (d : Disk) (h : d.Blocks.length ≤ 1000) : loop (dev_Twin_l1 d) (([] : List Int), 0) = some (d.Blocks.map fun b => (b.length : Int)) := by
  rw [loop_each d.Blocks (fun i (r : List Int) => (r, i)) (fun b r => some (.inl (r ++ [(b.length : Int)]))) (fun r => r) (fun i r => r.length = i) (fun i hi r hr => ?_) (fun i hi r r' hr e => ?_) (fun r _ => ?_) (small_lt (by omega)) rfl, forL_map]
  · show some _ = some _
    congr 1
    suffices H : ∀ (l : List (List UInt8)) (a : List Int), l.foldl (fun r b => r ++ [(b.length : Int)]) a = a ++ l.map fun b => (b.length : Int) by simpa using H d.Blocks []
    intro l
    induction l with
    | nil => simp
    | cons b l ih => intro a; simp [ih]
  · unfold dev_Twin_l1
    rw [cI, if_pos hi, idx_nat _ hi, app_eq (by simp only [List.length_cons, List.length_nil, LIM]; omega)]
    rfl
  · simp only [Option.some.injEq, Sum.inl.injEq] at e; subst e; simp [hr]
  · unfold dev_Twin_l1
    rw [cI, if_neg (by omega)]
theorem dev_cut_eq (bs : List (List UInt8)) (h : bs.length ≤ 1000) (hb : ∀ b ∈ bs, b.length ≤ 1000) : dev_cut (bs.map fun b => (b.length : Int)) = some (bs.map fun b => List.replicate b.length 0) := by
  unfold dev_cut
  have e1 : (bs.map fun b => (b.length : Int)).map Int.toNat = bs.map List.length := by rw [List.map_map]; rfl
  have e2 := sum_le_mul (l := bs.map List.length) (k := 1000) (fun x hx => by obtain ⟨b, h1, rfl⟩ := List.mem_map.1 hx; exact hb b h1)
  rw [List.length_map] at e2
  rw [if_pos ⟨fun n hn => by obtain ⟨b, _, rfl⟩ := List.mem_map.1 hn; omega, by rw [e1]; simp only [LIM]; omega, by simp only [List.length_map, LIM]; omega⟩, List.map_map]
  rfl
theorem twin_l2 (d : Disk) (h : d.Blocks.length ≤ 1000) : loop (dev_Twin_l2 d) (d.Blocks.map (fun b => List.replicate b.length (0 : UInt8)), 0) = some d.Blocks := by
  obtain ⟨t, h1, h2⟩ := loop_rule (body := dev_Twin_l2 d) (fun s => s.2 ≤ d.Blocks.length ∧ s.1 = d.Blocks.take s.2 ++ (d.Blocks.drop s.2).map (fun b => List.replicate b.length (0 : UInt8))) (fun s => d.Blocks.length - s.2) (fun t => t = d.Blocks) (by
    rintro ⟨r, i⟩ ⟨hi, hr⟩
    simp only at hi hr
    subst hr
    unfold dev_Twin_l2
    dsimp only
    rw [cI]
    rcases Nat.lt_or_ge i d.Blocks.length with hlt | hge
    · left
      have hl : (d.Blocks.take i ++ (d.Blocks.drop i).map (fun b => List.replicate b.length (0 : UInt8))).length = d.Blocks.length := by simp; omega
      have hg : (d.Blocks.take i ++ (d.Blocks.drop i).map (fun b => List.replicate b.length (0 : UInt8)))[i]'(by omega) = List.replicate d.Blocks[i].length 0 := by
        rw [List.getElem_append_right (by simp; omega)]
        simp [Nat.min_eq_left (Nat.le_of_lt hlt)]
      rw [if_pos hlt, idx_nat _ hlt, idx_nat _ (by omega), chk_eq (by rw [hg]; simp), setI_eq (by omega) (by simpa using (by omega : i < (d.Blocks.take i ++ (d.Blocks.drop i).map (fun b => List.replicate b.length (0 : UInt8))).length))]
      refine ⟨_, rfl, ⟨hlt, ?_⟩, by simp only; omega⟩
      simp only [Int.toNat_natCast]
      rw [List.set_append_right _ _ (by simp only [List.length_take]; omega), List.drop_eq_getElem_cons hlt]
      simp only [List.map_cons, List.length_take, Nat.min_eq_left (Nat.le_of_lt hlt), Nat.sub_self, List.set_cons_zero]
      rw [List.take_add_one, List.getElem?_eq_getElem hlt]
      simp only [Option.toList_some, List.append_assoc, List.singleton_append]
    · right
      rw [if_neg (by omega)]
      refine ⟨_, rfl, ?_⟩
      rw [List.take_of_length_le hge, List.drop_of_length_le hge]; simp) (s := (d.Blocks.map (fun b => List.replicate b.length (0 : UInt8)), 0)) ⟨Nat.zero_le _, by simp⟩ (small_lt (by simp only; omega))
  rw [h1, h2]
theorem bytes_Clone_eq {l : List UInt8} (h : l.length ≤ 1000) : bytes_Clone l = some l := by
  unfold bytes_Clone; rw [app_eq (by simp only [List.length_nil, LIM]; omega)]; rfl
theorem twin_l3 (d : Disk) (h : d.Waits.length ≤ 5000) (hw : ∀ w ∈ d.Waits, w.Data.length ≤ 1000) : loop (dev_Twin_l3 d) (([] : List Write), 0) = some d.Waits := by
  rw [loop_each d.Waits (fun i (r : List Write) => (r, i)) (fun b r => some (.inl (r ++ [b]))) (fun r => r) (fun i r => r.length = i) (fun i hi r hr => ?_) (fun i hi r r' hr e => ?_) (fun r _ => ?_) (small_lt (by omega)) rfl, forL_map]
  · show some _ = some _
    congr 1
    suffices H : ∀ (l : List Write) (a : List Write), l.foldl (fun r b => r ++ [b]) a = a ++ l by simpa using H d.Waits []
    intro l
    induction l with
    | nil => simp
    | cons b l ih => intro a; simp [ih]
  · unfold dev_Twin_l3
    rw [cI, if_pos hi, idx_nat _ hi, bytes_Clone_eq (hw _ (List.getElem_mem hi))]
    simp only [Option.bind_some]
    rw [app_eq (by simp only [List.length_cons, List.length_nil, LIM]; omega)]
    rfl
  · simp only [Option.some.injEq, Sum.inl.injEq] at e; subst e; simp [hr]
  · unfold dev_Twin_l3
    rw [cI, if_neg (by omega)]
theorem dev_Twin_eq {d : Disk} (h : Mid d) : dev_Twin d = some d := by
  unfold dev_Twin
  rw [twin_l1 d h.blocks]
  simp only [Option.bind_some]
  rw [dev_cut_eq _ h.blocks h.eb]
  simp only [Option.bind_some]
  rw [twin_l2 d h.blocks]
  simp only [Option.bind_some]
  rw [twin_l3 d h.waits h.ew]
  rfl
end Go.Ow

/-
  What is proved here: what is written, what is seen, what a crash leaves: the disk in plain words.
-/
namespace Go.Ow
set_option linter.unusedVariables false
set_option linter.unusedSimpArgs false

def noD : Disk := ⟨[], []⟩
theorem inI64_of {n : Int} (h : 0 ≤ n ∧ n < 256) : InI64 n := ⟨by omega, by omega⟩
theorem slices_Clip_Write_eq (l : List Write) : slices_Clip_Write l = some l := by
  unfold slices_Clip_Write
  rw [slc_eq (by omega) (by omega) (by omega)]
  simp [cut]
theorem guarded_eq {d : Disk} (h : Sized d) (is : Bool) (e : Disk) : dev_guarded d is e = some (if OKD d then (if is = true then (e, 0, e) else (noD, 2, e)) else (noD, 8, e)) := by
  unfold dev_guarded
  rw [dev_Check_eq h]
  simp only [Option.bind_some]
  by_cases c : OKD d
  · rw [if_pos c, if_pos c]
    cases is <;> rfl
  · rw [if_neg c, if_neg c]; rfl
def writeD (d : Disk) (at' : Int) (b : List UInt8) : Disk × Int :=
  if OKD d then (if 0 ≤ at' ∧ at' < 256 then (if b.length = 256 then (if d.Waits.length = 4096 then (noD, 9) else (⟨d.Blocks, d.Waits ++ [⟨at', b⟩]⟩, 0)) else (noD, 3)) else (noD, 2)) else (noD, 8)
theorem dev_Write_eq {d : Disk} (h : Sized d) {at' : Int} (ha : InI64 at') (b : List UInt8) : dev_Write d at' b = some (writeD d at' b) := by
  unfold dev_Write writeD
  rw [dev_place_eq ha]
  simp only [Option.bind_some]
  rw [guarded_eq h]
  simp only [Option.bind_some]
  by_cases c : OKD d
  · rw [if_pos c, if_pos c]
    by_cases c1 : 0 ≤ at' ∧ at' < 256
    · rw [decide_eq_true c1, if_pos rfl, if_pos c1]
      by_cases c2 : b.length = 256
      · rw [if_pos c2]
        dsimp only
        rw [show decide ((b.length : Int) = 256) = true from decide_eq_true (by omega)]
        by_cases c3 : d.Waits.length = 4096
        · rw [if_pos c3]
          rw [show decide ((d.Waits.length : Int) = 4096) = true from decide_eq_true (by omega)]
          rfl
        · rw [if_neg c3]
          rw [show decide ((d.Waits.length : Int) = 4096) = false from decide_eq_false (by omega), slices_Clip_Write_eq]
          have hm := c.mid
          have hw := c.2.1
          simp only [decide_true, Bool.not_true, cond_false, Option.bind_some]
          rw [app_eq (by simp only [List.length_cons, List.length_nil, LIM]; omega), dev_Twin_eq (d := Disk.mk d.Blocks (d.Waits ++ [Write.mk at' b])) ⟨hm.blocks, by simp only [List.length_append, List.length_cons, List.length_nil]; omega, hm.eb, fun w hw' => by
            rcases List.mem_append.1 hw' with h' | h'
            · exact hm.ew w h'
            · simp at h'; subst h'; simp only; omega⟩]
          rfl
      · rw [if_neg c2]
        dsimp only
        rw [show decide ((b.length : Int) = 256) = false from decide_eq_false (by omega)]
        rfl
    · rw [decide_eq_false c1, if_neg (by simp), if_neg c1]
      rfl
  · rw [if_neg c, if_neg c]; rfl
theorem OKD.write {d : Disk} (h : OKD d) {at' : Int} {b : List UInt8} (ha : 0 ≤ at' ∧ at' < 256) (hb : b.length = 256) (hw : d.Waits.length ≠ 4096) : OKD ⟨d.Blocks, d.Waits ++ [⟨at', b⟩]⟩ := by
  obtain ⟨h1, h2, h3, h4⟩ := h
  refine ⟨h1, by simp only [List.length_append, List.length_cons, List.length_nil]; omega, h3, fun w hw' => ?_⟩
  rcases List.mem_append.1 hw' with h' | h'
  · exact h4 w h'
  · simp at h'; subst h'; simp [okW, ha, hb]

/-! ### What is left of the writes -/
def layW (B : List (List UInt8)) (ws : List Write) : List (List UInt8) := ws.foldl (fun B w => B.set w.At.toNat w.Data) B
def KeysOk (M : List (Int × Write)) : Prop := (M.map (·.1)).Nodup ∧ ∀ p ∈ M, 0 ≤ p.1
theorem mem_putM {M : List (Int × Write)} {k : Int} {y : Write} {p : Int × Write} (h : p ∈ putM M k y) : p ∈ M ∨ p = (k, y) := by
  induction M with
  | nil => simp [putM] at h; exact .inr h
  | cons q r ih =>
    simp only [putM] at h
    split at h
    · rcases List.mem_cons.1 h with h' | h'
      · exact .inr h'
      · exact .inl (by simp [h'])
    · rcases List.mem_cons.1 h with h' | h'
      · exact .inl (by simp [h'])
      · exact (ih h').imp (fun z => by simp [z]) id
theorem keys_putM {M : List (Int × Write)} {k : Int} {y : Write} (h : (M.map (·.1)).Nodup) : ((putM M k y).map (·.1)).Nodup := by
  induction M with
  | nil => simp [putM]
  | cons q r ih =>
    simp only [List.map_cons, List.nodup_cons] at h
    simp only [putM]
    split
    · rename_i e
      simp only [List.map_cons, List.nodup_cons]; rw [← e]; exact h
    · rename_i e
      simp only [List.map_cons, List.nodup_cons]
      refine ⟨fun hm => ?_, ih h.2⟩
      obtain ⟨p, hp, hpe⟩ := List.mem_map.1 hm
      rcases mem_putM hp with h' | h'
      · exact h.1 (List.mem_map.2 ⟨p, h', hpe⟩)
      · subst h'; exact e hpe.symm
theorem KeysOk.put {M : List (Int × Write)} {k : Int} {y : Write} (h : KeysOk M) (hk : 0 ≤ k) : KeysOk (putM M k y) :=
  ⟨keys_putM h.1, fun p hp => (mem_putM hp).elim (h.2 p) (fun e => by subst e; exact hk)⟩
theorem layM_set {M : List (Int × Write)} {L : List (List UInt8)} {j : Nat} {v : List UInt8} (h : ∀ p ∈ M, p.1.toNat ≠ j) :
    layM (fun y : Write => y.Data) (L.set j v) M = (layM (fun y : Write => y.Data) L M).set j v := by
  unfold layM
  induction M generalizing L with
  | nil => rfl
  | cons p r ih =>
    simp only [List.foldl_cons]
    rw [List.set_comm _ _ (fun e => h p (by simp) e.symm), ih (fun q hq => h q (by simp [hq]))]
theorem layM_put {M : List (Int × Write)} {L : List (List UInt8)} {k : Int} {y : Write} (h : KeysOk M) (hk : 0 ≤ k) :
    layM (fun y : Write => y.Data) L (putM M k y) = (layM (fun y : Write => y.Data) L M).set k.toNat y.Data := by
  induction M generalizing L with
  | nil => rfl
  | cons p r ih =>
    obtain ⟨h1, h2⟩ := h
    simp only [List.map_cons, List.nodup_cons] at h1
    simp only [putM]
    split
    · rename_i e
      have hr : ∀ q ∈ r, q.1.toNat ≠ k.toNat := fun q hq e' => h1.1 (List.mem_map.2 ⟨q, hq, by have := h2 q (by simp [hq]); omega⟩)
      show layM _ (L.set k.toNat y.Data) r = (layM _ (L.set p.1.toNat p.2.Data) r).set k.toNat y.Data
      rw [← layM_set hr, e, List.set_set]
    · exact ih ⟨h1.2, fun q hq => h2 q (by simp [hq])⟩
def lastM (ws : List Write) : List (Int × Write) := ws.foldl (fun M w => putM M w.At w) []
theorem lastM_snoc (ws : List Write) (w : Write) : lastM (ws ++ [w]) = putM (lastM ws) w.At w := by simp [lastM]
theorem lastM_spec (ws : List Write) (L : List (List UInt8)) (h : ∀ w ∈ ws, 0 ≤ w.At) : KeysOk (lastM ws) ∧ layM (fun y : Write => y.Data) L (lastM ws) = layW L ws ∧ ∀ p ∈ lastM ws, ∃ w ∈ ws, p.1 = w.At := by
  suffices H : ∀ (n : Nat) (ws : List Write), ws.length = n → (∀ w ∈ ws, 0 ≤ w.At) → KeysOk (lastM ws) ∧ layM (fun y : Write => y.Data) L (lastM ws) = layW L ws ∧ ∀ p ∈ lastM ws, ∃ w ∈ ws, p.1 = w.At from H _ ws rfl h
  intro n
  induction n with
  | zero => intro ws hn _; obtain rfl := List.length_eq_zero_iff.1 hn; exact ⟨⟨by simp [lastM], by simp [lastM]⟩, rfl, by simp [lastM]⟩
  | succ n ih =>
    intro ws hn h
    obtain ⟨ws', w, rfl⟩ : ∃ a b, ws = a ++ [b] := ⟨ws.dropLast, ws.getLast (by intro e; subst e; simp at hn), (List.dropLast_concat_getLast _).symm⟩
    obtain ⟨h1, h2, h3⟩ := ih ws' (by simpa using hn) (fun w hw => h w (by simp [hw]))
    have hw := h w (by simp)
    rw [lastM_snoc]
    refine ⟨h1.put hw, ?_, fun p hp => ?_⟩
    · rw [layM_put h1 hw, h2]; simp [layW]
    · rcases mem_putM hp with h' | h'
      · obtain ⟨w', a, b⟩ := h3 p h'; exact ⟨w', by simp [a], b⟩
      · subst h'; exact ⟨w, by simp, rfl⟩
theorem layW_length (B : List (List UInt8)) (ws : List Write) : (layW B ws).length = B.length := by
  unfold layW
  induction ws generalizing B with
  | nil => rfl
  | cons w ws ih => simp only [List.foldl_cons, ih, List.length_set]
theorem layW_all {B : List (List UInt8)} {ws : List Write} (h : ∀ b ∈ B, b.length = 256) (hw : ∀ w ∈ ws, w.Data.length = 256) : ∀ b ∈ layW B ws, b.length = 256 := by
  unfold layW
  induction ws generalizing B with
  | nil => exact h
  | cons w ws ih =>
    simp only [List.foldl_cons]
    refine ih (fun b hb => ?_) (fun w' hw' => hw w' (by simp [hw']))
    rcases List.mem_or_eq_of_mem_set hb with h' | h'
    · exact h b h'
    · rw [h']; exact hw w (by simp)
theorem okW_at {w : Write} (h : okW w = true) : 0 ≤ w.At ∧ w.At < 256 := by
  simp only [okW, Bool.and_eq_true, decide_eq_true_eq] at h; exact h.1
theorem okW_data {w : Write} (h : okW w = true) : w.Data.length = 256 := by
  simp only [okW, Bool.and_eq_true, decide_eq_true_eq] at h; exact h.2
theorem clone45 {l : List (List UInt8)} (h : l.length ≤ 1000) : slices_Clone_byte_L l = some l := by
  unfold slices_Clone_byte_L; rw [app_eq (by simp only [List.length_nil, LIM]; omega)]; rfl
theorem lasts_loop (d : Disk) (h : d.Waits.length ≤ 5000) : dev_lasts d = some (lastM d.Waits) := by
  unfold dev_lasts
  rw [loop_each' d.Waits (fun i (r : List (Int × Write)) => (r, i)) (fun w r => some (.inl (putM r w.At w))) (fun r => r) (fun i hi r => ?_) (fun r => ?_) (small_lt (by omega)) [], forL_map]
  · rfl
  · unfold dev_lasts_l1
    rw [cI, if_pos hi, idx_nat _ hi]
    rfl
  · unfold dev_lasts_l1
    rw [cI, if_neg (by omega)]
/-- the blocks as the writes leave them -/
def seenB (d : Disk) : List (List UInt8) := layW d.Blocks d.Waits
theorem okd_lay {d : Disk} (h : OKD d) (ws : List Write) (hw : ∀ w ∈ ws, w ∈ d.Waits) : OKD ⟨layW d.Blocks ws, []⟩ :=
  ⟨by simp only [layW_length]; exact h.1, by simp, layW_all h.2.2.1 (fun w hw' => okW_data (h.2.2.2 w (hw w hw'))), by simp⟩
theorem lay_range {d : Disk} (h : OKD d) {ws : List Write} (hw : ∀ w ∈ ws, w ∈ d.Waits) : ∀ p ∈ lastM ws, 0 ≤ p.1 ∧ p.1.toNat < d.Blocks.length := fun p hp => by
  obtain ⟨w, h1, h2⟩ := (lastM_spec ws [] (fun w hw' => (okW_at (h.2.2.2 w (hw w hw'))).1)).2.2 p hp
  have := okW_at (h.2.2.2 w (hw w h1))
  rw [h2, h.1]; omega
theorem dev_left_eq {d : Disk} (h : OKD d) : dev_left d = some ⟨seenB d, []⟩ := by
  unfold dev_left
  rw [clone45 h.mid.blocks]
  simp only [Option.bind_some]
  rw [lasts_loop _ h.mid.waits]
  simp only [Option.bind_some]
  unfold layR
  rw [if_pos (lay_range h (fun w hw => hw)), (lastM_spec d.Waits d.Blocks (fun w hw => (okW_at (h.2.2.2 w hw)).1)).2.1]
  dsimp only
  rw [dev_Twin_eq (okd_lay h d.Waits (fun w hw => hw)).mid]
  rfl
theorem guarded2_eq {d : Disk} (h : Sized d) (is : Bool) : dev_guarded_v2 d is d = some (if OKD d then (if is = true then (⟨seenB d, []⟩, 0, d) else (noD, 2, d)) else (noD, 8, d)) := by
  unfold dev_guarded_v2
  rw [dev_Check_eq h]
  simp only [Option.bind_some]
  by_cases c : OKD d
  · rw [if_pos c, if_pos c]
    cases is
    · rfl
    · unfold dev_Read_1; rw [dev_left_eq c]; rfl
  · rw [if_neg c, if_neg c]; rfl
theorem seenB_length {d : Disk} (h : OKD d) : (seenB d).length = 256 := by unfold seenB; rw [layW_length]; exact h.1
theorem dev_Read_eq {d : Disk} (h : OKD d) {i : Nat} (hi : i < 256) : dev_Read d (i : Int) = some ((seenB d)[i]'(by rw [seenB_length h]; exact hi), 0) := by
  unfold dev_Read
  rw [dev_place_eq (inI64_of (by omega))]
  simp only [Option.bind_some]
  rw [guarded2_eq h.sized, if_pos h, decide_eq_true (show 0 ≤ (i : Int) ∧ (i : Int) < 256 by omega), if_pos rfl]
  simp only [Option.bind_some, decide_true, Bool.not_true, cond_false]
  rw [idx_nat _ (by rw [seenB_length h]; exact hi)]
end Go.Ow

/-
  What is proved here: numbers as bytes and back; a sum is always told; pointers as bytes: in plain words.
-/
namespace Go.Ow
set_option linter.unusedVariables false
set_option linter.unusedSimpArgs false

/-- a number's bytes, the lowest first -/
def leB (n : Nat) : Nat → List UInt8
  | 0 => []
  | k + 1 => UInt8.ofNat n :: leB (n / 256) k
theorem leB_length (n k : Nat) : (leB n k).length = k := by
  induction k generalizing n with
  | zero => rfl
  | succ k ih => simp [leB, ih]
def numB : List UInt8 → Nat
  | [] => 0
  | b :: r => b.toNat + 256 * numB r
theorem numB_leB {n k : Nat} (h : n < 256 ^ k) : numB (leB n k) = n := by
  induction k generalizing n with
  | zero => simp at h; subst h; rfl
  | succ k ih =>
    simp only [leB, numB]
    rw [ih (by rw [Nat.pow_succ] at h; omega), UInt8.toNat_ofNat']
    omega
theorem u8i_nat (n : Nat) : u8i (n : Int) = UInt8.ofNat n := by
  unfold u8i
  apply UInt8.toNat_inj.1
  rw [UInt8.toNat_ofNat', UInt8.toNat_ofNat']
  omega
theorem sized_eq (k : Int) : code_sized k = some (decide (0 < k ∧ k ≤ 4)) := by
  unfold code_sized
  by_cases h : 0 < k
  · rw [decide_eq_true h]
    simp only [cond_true, Option.bind_some]
    congr 1; simp only [decide_eq_decide]; omega
  · rw [decide_eq_false h]
    simp only [cond_false, Option.bind_some]
    congr 1; rw [decide_eq_false (fun e => h e.1)]
theorem put_loop {n k : Nat} (hk : k ≤ 4) (hn : n < 4294967296) : loop (code_Put_l1 (k : Int)) ((n : Int), ([] : List UInt8)) = some (leB n k) := by
  obtain ⟨t, h1, h2⟩ := loop_rule (body := code_Put_l1 (k : Int)) (fun s => ∃ m : Nat, s.1 = (m : Int) ∧ m < 4294967296 ∧ s.2.length ≤ k ∧ s.2 ++ leB m (k - s.2.length) = leB n k) (fun s => k - s.2.length) (fun t => t = leB n k) (by
    rintro ⟨a, b⟩ ⟨m, h1, h0, h2, h3⟩
    simp only at h1 h2 h3
    subst h1
    unfold code_Put_l1
    dsimp only
    rw [cI]
    rcases Nat.lt_or_ge b.length k with c | c
    · left
      rw [if_pos c, app_eq (by simp only [List.length_cons, List.length_nil, LIM]; omega)]
      refine ⟨_, rfl, ⟨m / 256, ?_, by omega, by simp; omega, ?_⟩, by simp; omega⟩
      · simp only
        rw [Int.tdiv_eq_ediv_of_nonneg (by omega), w64_of (by omega) (by omega)]; omega
      · simp only
        rw [← h3, show k - b.length = (k - (b ++ [u8i (m : Int)]).length) + 1 by simp; omega]
        simp only [leB, u8i_nat, List.append_assoc, List.singleton_append]
    · right
      rw [if_neg (by omega)]
      refine ⟨_, rfl, ?_⟩
      rw [show k - b.length = 0 by omega] at h3
      simpa [leB] using h3) (s := ((n : Int), ([] : List UInt8))) ⟨n, rfl, hn, by simp, by simp⟩ (Nat.lt_of_le_of_lt (Nat.sub_le _ _) (small_lt (by omega)))
  rw [h1, h2]
theorem pow256 {k : Nat} (h1 : 1 ≤ k) (h4 : k ≤ 4) : sli 1 (w64 (8 * (k : Int))) = ((256 ^ k : Nat) : Int) ∧ 256 ^ k ≤ 4294967296 := by
  have : k = 1 ∨ k = 2 ∨ k = 3 ∨ k = 4 := by omega
  rcases this with rfl | rfl | rfl | rfl <;> decide
theorem code_Put_eq {n k : Nat} (h1 : 1 ≤ k) (h4 : k ≤ 4) (hn : n < 256 ^ k) : code_Put (n : Int) (k : Int) = some (leB n k, 0) := by
  unfold code_Put
  rw [sized_eq]
  simp only [Option.bind_some]
  obtain ⟨h5, h6⟩ := pow256 h1 h4
  rw [decide_eq_true (show 0 < (k : Int) ∧ (k : Int) ≤ 4 by omega), decide_eq_false (show ¬ (n : Int) < 0 by omega), chk_eq (by rw [w64_of (by omega) (by omega)]; omega), h5,
    decide_eq_false (show ¬ ((256 ^ k : Nat) : Int) ≤ (n : Int) by omega)]
  simp only [Bool.not_true, cond_false]
  rw [put_loop h4 (by omega)]
  rfl

theorem numB_snoc (p : List UInt8) (c : UInt8) : numB (p ++ [c]) = numB p + 256 ^ p.length * c.toNat := by
  induction p with
  | nil => simp [numB]
  | cons b p ih => simp only [List.cons_append, numB, ih, List.length_cons, Nat.pow_succ]; rw [Nat.mul_add, ← Nat.mul_assoc, Nat.mul_comm 256 (256 ^ p.length)]; omega
theorem bwd_length' (m : List UInt8) (k : Nat) : (bwd m k).length = k := by induction k with | zero => rfl | succ k ih => simp [bwd, ih]
theorem bwd_fold (m : List UInt8) : ∀ (k a : Nat), k ≤ m.length → (bwd m k).foldl (fun n y => 256 * n + y.2.toNat) a = numB (m.take k) + 256 ^ k * a := by
  intro k
  induction k with
  | zero => intro a _; simp [bwd, numB]
  | succ k ih =>
    intro a hk
    simp only [bwd, List.foldl_cons]
    rw [ih _ (by omega), List.take_succ_eq_append_getElem (by omega), numB_snoc, List.length_take, Nat.min_eq_left (by omega), List.getD_eq_getElem?_getD, List.getElem?_eq_getElem (by omega), Option.getD_some, Nat.pow_succ, Nat.mul_add, ← Nat.mul_assoc]
    omega
theorem get_loop : ∀ (l : List (Nat × UInt8)) (a j : Nat), a < 256 ^ j → j + l.length ≤ 4 → forL code_Get_r1 l (a : Int) = some (.inl ((l.foldl (fun n y => 256 * n + y.2.toNat) a : Nat) : Int))
  | [], a, j, _, _ => rfl
  | y :: l, a, j, ha, hj => by
    have hy := y.2.toNat_lt
    have hp : (256 : Nat) ^ (j + 1) ≤ 256 ^ 4 := Nat.pow_le_pow_right (by omega) (by simp at hj; omega)
    have h2 : 256 * a + y.2.toNat < 256 ^ (j + 1) := by rw [Nat.pow_succ]; omega
    rw [forL_cons (s' := ((256 * a + y.2.toNat : Nat) : Int)) (by
      have e4 : (256 : Nat) ^ 4 = 4294967296 := by decide
      rw [e4] at hp
      generalize (256 : Nat) ^ (j + 1) = N at hp h2
      show some (Sum.inl (w64 ((w64 (256 * (a : Int))) + (y.2.toNat : Int)))) = _
      rw [w64_of (n := 256 * (a : Int)) (by omega) (by omega), w64_of (by omega) (by omega)]
      rw [show (256 * (a : Int) + (y.2.toNat : Int)) = ((256 * a + y.2.toNat : Nat) : Int) by omega]), get_loop l _ (j + 1) h2 (by simp at hj; omega)]
    rfl
theorem cut_len {l : List UInt8} {a b : Nat} (h1 : a ≤ b) (h2 : b ≤ l.length) : (cut l (a : Int) (b : Int)).length = b - a := by
  unfold cut; simp only [List.length_take, List.length_drop]; omega
theorem get_core {b : List UInt8} {at' k : Nat} (h4 : k ≤ 4) (hl : at' + k ≤ b.length) :
    (slc b (at' : Int) ((at' + k : Nat) : Int) fun m_16 => Option.bind (slices_Backward_byte m_16) fun x_20 => Option.bind (forL code_Get_r1 (bwd m_16 m_16.length) 0) (fun t_24 => Sum.elim (fun s_27 => some (s_27, (0 : Int))) (fun _ => none) t_24)) = some ((numB ((b.drop at').take k) : Int), 0) := by
  rw [slc_eq (by omega) (by omega) (by omega)]
  have hm : (cut b (at' : Int) ((at' + k : Nat) : Int)).length = k := by rw [cut_len (by omega) (by omega)]; omega
  have he : cut b (at' : Int) ((at' + k : Nat) : Int) = (b.drop at').take k := by unfold cut; rw [Int.toNat_natCast, Int.toNat_natCast, Nat.add_sub_cancel_left]
  rw [he] at hm ⊢
  have := get_loop (bwd ((b.drop at').take k) ((b.drop at').take k).length) 0 0 (by decide) (by rw [bwd_length', hm]; omega)
  unfold slices_Backward_byte
  rw [Option.bind_some]
  rw [show ((0 : Nat) : Int) = 0 from rfl] at this
  rw [this, bwd_fold _ _ _ (Nat.le_refl _), List.take_length, Nat.mul_zero, Nat.add_zero]
  rfl
theorem get_cond {b : List UInt8} {a q k : Int} {K : Option (Int × Int)} (hk : 0 < k ∧ k ≤ 4) (h0 : 0 ≤ a) (h1 : a ≤ b.length) (h2 : q ≤ b.length) :
    (Option.bind (code_sized k) fun x_5 => Option.bind (cond (!x_5) (some true) (cond (decide (a < 0)) (some true) (some (decide ((b.length : Int) < a))))) (fun t_8 => cond t_8 (some (0, 2)) (cond (decide ((b.length : Int) < q)) (some (0, 8)) K))) = K := by
  rw [sized_eq, Option.bind_some, decide_eq_true hk, decide_eq_false (show ¬ a < 0 by omega), decide_eq_false (show ¬ (b.length : Int) < a by omega), decide_eq_false (show ¬ (b.length : Int) < q by omega)]
  rfl
theorem code_Get_eq {b : List UInt8} {at' k : Nat} (h1 : 1 ≤ k) (h4 : k ≤ 4) (hl : at' + k ≤ b.length) (hb : b.length ≤ 1000000) : code_Get b (at' : Int) (k : Int) = some ((numB ((b.drop at').take k) : Int), 0) := by
  unfold code_Get
  have hw : w64 ((at' : Int) + (k : Int)) = ((at' + k : Nat) : Int) := by rw [w64_of (by omega) (by omega)]; omega
  rw [hw]
  exact (get_cond ⟨by omega, by omega⟩ (by omega) (by omega) (by omega)).trans (get_core h4 hl)

/-! ### A sum is always told -/
theorem rot_tot (a : UInt32) (n : Int) : ∃ r, math_bits_RotateLeft32 a n = some r := ⟨_, rfl⟩
theorem turned1_tot (a b : Int) (x : A4 UInt32) : ∃ r, mix_words_turned_1 a b x = some r := by
  unfold mix_words_turned_1
  obtain ⟨r, h⟩ := rot_tot (x.e3 ^^^ (x.e0 + x.e1)) a
  rw [h]
  simp only [Option.bind_some]
  obtain ⟨r', h'⟩ := rot_tot (x.e1 ^^^ (x.e2 + r)) b
  rw [h']
  exact ⟨_, rfl⟩
theorem turned_tot (x : A4 UInt32) : ∃ r, mix_words_turned x = some r := by
  unfold mix_words_turned
  obtain ⟨r, h⟩ := turned1_tot 15 11 x
  rw [h]
  simp only [Option.bind_some]
  obtain ⟨r', h'⟩ := turned1_tot 9 6 r
  rw [h']
  exact ⟨_, rfl⟩
theorem often_tot (x : A4 UInt32) (n : Int) (hn : n ≤ 100) : ∃ r, mix_words_often x n = some r := by
  unfold mix_words_often
  obtain ⟨t, h1, -⟩ := loop_rule (body := mix_words_often_l1 n) (fun s => 0 ≤ s.2.2.2.2 ∧ s.2.2.2.2 ≤ 100) (fun s => 100 - s.2.2.2.2.toNat) (fun _ => True) (by
    rintro ⟨a, b, c, d, i⟩ ⟨hi, hi'⟩
    simp only at hi hi'
    unfold mix_words_often_l1
    dsimp only
    by_cases h : i < n
    · left
      rw [decide_eq_true h]
      obtain ⟨r, hr⟩ := turned_tot (A4.mk a b c d)
      simp only [cond_true]
      rw [hr]
      refine ⟨_, rfl, ?_, ?_⟩
      · simp only; rw [w64_of (by omega) (by omega)]; omega
      · simp only; rw [w64_of (by omega) (by omega)]; omega
    · right
      rw [decide_eq_false h]
      exact ⟨_, rfl, trivial⟩) (s := (x.e0, x.e1, x.e2, x.e3, 0)) ⟨by simp, by simp⟩ (Nat.lt_of_le_of_lt (Nat.sub_le _ _) (small_lt (by omega)))
  rw [h1]
  exact ⟨_, rfl⟩
theorem number_tot {b : List UInt8} (h : b.length = 4) : ∃ r, mix_number b = some r := by
  unfold mix_number
  rw [show (0 : Int) = ((0 : Nat) : Int) from rfl, show (4 : Int) = ((4 : Nat) : Int) from rfl, code_Get_eq (by omega) (by omega) (by omega) (by omega)]
  exact ⟨_, rfl⟩
theorem forL_tot {α σ τ : Type} {body : α → σ → Option (σ ⊕ τ)} : ∀ {l : List α} {s : σ}, (∀ y ∈ l, ∀ s, ∃ s', body y s = some (.inl s')) → ∃ s', forL body l s = some (.inl s')
  | [], s, _ => ⟨s, rfl⟩
  | y :: l, s, h => by
    obtain ⟨s', h1⟩ := h y (by simp) s
    rw [forL_cons h1]
    exact forL_tot (fun y hy => h y (by simp [hy]))
theorem chunks_len {n : Nat} (hn : 0 < n) : ∀ (f : Nat) (l : List UInt8), l.length ≤ f → l.length % n = 0 → ∀ y ∈ chunks n f l, y.length = n
  | 0, l, h, _, y, hy => by simp [chunks] at hy
  | f + 1, l, h, hm, y, hy => by
    by_cases c : l = []
    · subst c; simp [chunks] at hy
    · rw [chunks_step c] at hy
      have hpos := List.length_pos_iff.2 c
      have hge : n ≤ l.length := by
        rcases Nat.lt_or_ge l.length n with h' | h'
        · rw [Nat.mod_eq_of_lt h'] at hm; omega
        · exact h'
      rcases List.mem_cons.1 hy with rfl | hy
      · simp only [List.length_take]; omega
      · refine chunks_len hn f _ (by simp only [List.length_drop]; omega) ?_ y hy
        rw [List.length_drop, ← Nat.mod_eq_sub_mod hge]; exact hm
def pad8 (n : Nat) : Nat := (8 - n % 8) % 8
theorem pad8_step {n : Nat} (h : n % 8 ≠ 0) : pad8 (n + 1) + 1 = pad8 n := by
  unfold pad8
  have : n % 8 = 1 ∨ n % 8 = 2 ∨ n % 8 = 3 ∨ n % 8 = 4 ∨ n % 8 = 5 ∨ n % 8 = 6 ∨ n % 8 = 7 := by omega
  rcases this with h | h | h | h | h | h | h <;> rw [Nat.add_mod, h]
theorem pad8_le (n : Nat) : pad8 n ≤ 8 := by unfold pad8; omega
theorem four_l1 {l : List UInt8} (h : l.length ≤ 100000) : ∃ t, loop mix_four_l1 l = some t ∧ t.length % 8 = 0 ∧ t.length ≤ 100016 := by
  obtain ⟨t, h1, h2⟩ := loop_rule (body := mix_four_l1) (fun s => s.length + pad8 s.length ≤ 100008) (fun s => pad8 s.length) (fun t => t.length % 8 = 0 ∧ t.length ≤ 100016) (by
    intro s hs
    unfold mix_four_l1
    rw [Int.tmod_eq_emod_of_nonneg (by omega)]
    by_cases c : s.length % 8 = 0
    · right
      rw [decide_eq_true (show (s.length : Int) % 8 = 0 by omega)]
      exact ⟨_, rfl, c, by omega⟩
    · left
      have := pad8_step c
      rw [decide_eq_false (show ¬ (s.length : Int) % 8 = 0 by omega)]
      simp only [Bool.not_false, cond_true]
      rw [app_eq (by simp only [List.length_cons, List.length_nil, LIM]; omega)]
      exact ⟨_, rfl, by simp only [List.length_append, List.length_cons, List.length_nil, Nat.zero_add]; omega, by simp only [List.length_append, List.length_cons, List.length_nil, Nat.zero_add]; omega⟩) (s := l) (by have := pad8_le l.length; omega) (Nat.lt_of_le_of_lt (pad8_le _) (small_lt (by omega)))
  exact ⟨t, h1, h2⟩
theorem mix_Sum_tot {b : List UInt8} (h : b.length ≤ 10000) : ∃ r, mix_Sum b = some r := by
  unfold mix_Sum mix_four slices_Clone_byte slices_Clip_byte
  rw [app_eq (by simp only [List.length_nil, LIM]; omega)]
  simp only [Option.bind_some, List.nil_append]
  rw [slc_eq (by omega) (by omega) (by omega)]
  simp only [Option.bind_some]
  have hc : cut b 0 (b.length : Int) = b := by simp [cut]
  rw [hc, app_eq (by simp only [List.length_cons, List.length_nil, LIM]; omega)]
  obtain ⟨t, h1, h2, h3⟩ := four_l1 (l := b ++ [1]) (by simp; omega)
  rw [h1]
  simp only [Option.bind_some]
  unfold slices_Chunk_byte
  rw [if_pos ⟨by omega, by omega, by simp only [LIM]; omega⟩]
  simp only [Option.bind_some]
  obtain ⟨s, hs⟩ := forL_tot (body := mix_four_r2) (l := chunks (8 : Int).toNat t.length t) (s := ((1 : UInt32), (2 : UInt32), (3 : UInt32), (4 : UInt32))) (fun y hy s => by
    have hy8 : y.length = 8 := chunks_len (n := 8) (by omega) t.length t (Nat.le_refl _) h2 y hy
    unfold mix_four_r2
    rw [slc_eq (by omega) (by omega) (by omega)]
    obtain ⟨n1, e1⟩ := number_tot (b := cut y 0 4) (by rw [show (0 : Int) = ((0 : Nat) : Int) from rfl, show (4 : Int) = ((4 : Nat) : Int) from rfl, cut_len (by omega) (by omega)])
    rw [e1]
    simp only [Option.bind_some]
    rw [slc_eq (by omega) (by omega) (by omega)]
    obtain ⟨n2, e2⟩ := number_tot (b := cut y 4 (y.length : Int)) (by rw [show (4 : Int) = ((4 : Nat) : Int) from rfl, cut_len (by omega) (by omega)]; omega)
    rw [e2]
    simp only [Option.bind_some]
    obtain ⟨w, e3⟩ := often_tot (A4.mk (s.1 ^^^ n1) s.2.1 (s.2.2.1 ^^^ n2) s.2.2.2) 4 (by omega)
    rw [e3]
    exact ⟨_, rfl⟩)
  rw [hs]
  simp only [Option.bind_some, Sum.elim_inl]
  obtain ⟨w, e3⟩ := often_tot (A4.mk s.1 (s.2.1 ^^^ (u32i (b.length : Int))) s.2.2.1 s.2.2.2) 8 (by omega)
  rw [e3]
  exact ⟨_, rfl⟩
def sumOf (b : List UInt8) : UInt32 := (mix_Sum b).getD 0
theorem mix_Sum_eq {b : List UInt8} (h : b.length ≤ 10000) : mix_Sum b = some (sumOf b) := by
  obtain ⟨r, hr⟩ := mix_Sum_tot h
  unfold sumOf; rw [hr]; rfl
end Go.Ow

/-
  What is proved here: pointers and labels as bytes, and back: in plain words.
-/
namespace Go.Ow
set_option linter.unusedVariables false
set_option linter.unusedSimpArgs false

theorem run_st {σ τ : Type} {body : σ → Option (σ ⊕ τ)} {n : Nat} {s s' : σ} (h : body s = some (.inl s')) : run body (n + 1) s = run body n s' := by
  show Option.bind (body s) _ = _; rw [h]; rfl
theorem run_en {σ τ : Type} {body : σ → Option (σ ⊕ τ)} {n : Nat} {s : σ} {t : τ} (h : body s = some (.inr t)) : run body (n + 1) s = some t := by
  show Option.bind (body s) _ = _; rw [h]; rfl
theorem six_fuel : 6 ≤ FUEL := by decide
theorem run5 {σ τ : Type} {body : σ → Option (σ ⊕ τ)} {s0 s1 s2 s3 s4 s5 : σ} {t : τ} (h0 : body s0 = some (.inl s1)) (h1 : body s1 = some (.inl s2)) (h2 : body s2 = some (.inl s3)) (h3 : body s3 = some (.inl s4)) (h4 : body s4 = some (.inl s5)) (h5 : body s5 = some (.inr t)) :
    loop body s0 = some t := loop_of six_fuel (by rw [run_st h0, run_st h1, run_st h2, run_st h3, run_st h4, run_en h5])

def isNone (p : Ptr) : Prop := p.At = 0 ∧ p.Birth = 0 ∧ p.Iv = 0 ∧ p.Tag = 0 ∧ p.Sum = 0
instance (p : Ptr) : Decidable (isNone p) := by unfold isNone; infer_instance
/-- a pointer that is one -/
def okR (p : Ptr) : Prop := 12 ≤ p.At ∧ p.At < 256 ∧ (1 : UInt32) ≤ p.Birth ∧ p.Birth ≤ 16777215
instance (p : Ptr) : Decidable (okR p) := by unfold okR; infer_instance
theorem none_dec (p : Ptr) : (decide (p.At = 0) && (decide (p.Birth = (0 : UInt32)) && (decide (p.Iv = (0 : UInt32)) && (decide (p.Tag = (0 : UInt32)) && (decide (p.Sum = (0 : UInt32)) && true))))) = decide (isNone p) := by
  rw [Bool.eq_iff_iff]
  simp only [Bool.and_eq_true, decide_eq_true_eq, and_true]
  exact Iff.rfl
theorem ptr_Check_eq' (p : Ptr) : ptr_Check p = some (if isNone p ∨ okR p then 0 else 8) := by
  unfold ptr_Check
  rw [none_dec]
  by_cases h0 : isNone p
  · rw [decide_eq_true h0, if_pos (.inl h0)]; rfl
  rw [decide_eq_false h0]
  by_cases h : okR p
  · rw [if_pos (.inr h)]
    obtain ⟨h1, h2, h3, h4⟩ := h
    rw [decide_eq_false (show ¬ p.At < 12 by omega), decide_eq_false (show ¬ 256 ≤ p.At by omega), decide_eq_false (show ¬ p.Birth < 1 from UInt32.not_lt.2 h3), decide_eq_false (show ¬ (16777215 : UInt32) < p.Birth from UInt32.not_lt.2 h4)]
    rfl
  · rw [if_neg (fun e => e.elim h0 h)]
    by_cases h1 : p.At < 12
    · rw [decide_eq_true h1]; rfl
    by_cases h2 : 256 ≤ p.At
    · rw [decide_eq_false h1, decide_eq_true h2]; rfl
    by_cases h3 : p.Birth < 1
    · rw [decide_eq_false h1, decide_eq_false h2, decide_eq_true h3]; rfl
    by_cases h4 : (16777215 : UInt32) < p.Birth
    · rw [decide_eq_false h1, decide_eq_false h2, decide_eq_false h3, decide_eq_true h4]; rfl
    exact absurd ⟨by omega, by omega, UInt32.not_lt.1 h3, UInt32.not_lt.1 h4⟩ h


end Go.Ow

/-
  What is proved here: what stands behind a put or a write; one label stands on a new disk: in plain words.
-/
namespace Go.Ow
set_option linter.unusedVariables false
set_option linter.unusedSimpArgs false

def zeroBl : List UInt8 := List.replicate 256 0
def newD : Disk := ⟨List.replicate 256 zeroBl, []⟩
theorem repeat_eq : slices_Repeat_int [256] 256 = some (List.replicate 256 256) := by decide +kernel
theorem zero_length : zeroBl.length = 256 := List.length_replicate
theorem new_mem {b : List UInt8} (h : b ∈ newD.Blocks) : b = zeroBl := List.eq_of_mem_replicate h
theorem new_length : newD.Blocks.length = 256 := List.length_replicate
theorem new_cut : dev_cut (List.replicate 256 (256 : Int)) = some newD.Blocks := by
  have e : List.replicate 256 (256 : Int) = newD.Blocks.map (fun b => (b.length : Int)) := by
    show _ = (List.replicate 256 zeroBl).map (fun b => (b.length : Int))
    rw [List.map_replicate, zero_length]; exact rfl
  rw [e, dev_cut_eq _ (by rw [new_length]; omega) (fun b hb => by rw [new_mem hb, zero_length]; omega)]
  show some ((List.replicate 256 zeroBl).map (fun b => List.replicate b.length (0 : UInt8))) = some (List.replicate 256 zeroBl)
  rw [List.map_replicate, zero_length]
  exact rfl
theorem dev_New_eq : dev_New = some newD := by
  unfold dev_New
  rw [repeat_eq, Option.bind_some, new_cut, Option.bind_some]
  exact rfl
theorem newD_ok : OKD newD := ⟨new_length, Nat.zero_le _, fun b hb => by rw [new_mem hb]; exact zero_length, fun w hw => by cases hw⟩

end Go.Ow

/-
  What is proved here: tables of blocks (space), in plain words.
-/
namespace Go.Ow
set_option linter.unusedVariables false
set_option linter.unusedSimpArgs false

def okS (s : List UInt8) : Prop := s.length = 256 ∧ (∀ b ∈ s, b ≤ 2) ∧ ∀ b ∈ s.take 12, b = 1
instance (s : List UInt8) : Decidable (okS s) := by unfold okS; infer_instance

theorem maxB_le {a b c : UInt8} : maxB a b ≤ c ↔ a ≤ c ∧ b ≤ c := by
  unfold maxB
  simp only [UInt8.le_iff_toNat_le, UInt8.lt_iff_toNat_lt]
  split <;> omega
theorem max_loop (s : List UInt8) (h : s.length ≤ 1000) (a : UInt8) : loop (slices_Max_byte_l1 s) (a, 1) = some ((s.drop 1).foldl maxB a) := by
  have := loop_each' (s.drop 1) (fun i r => (r, i + 1)) (body := slices_Max_byte_l1 s) (τ := UInt8) (fun y r => some (.inl (maxB r y))) (fun r => r)
    (fun i hi r => by
      have hi' : i + 1 < s.length := by rw [List.length_drop] at hi; omega
      unfold slices_Max_byte_l1
      rw [cI, if_pos hi', idx_nat _ hi']
      simp only [List.getElem_drop, Nat.add_comm 1 i]
      rfl)
    (fun r => by
      unfold slices_Max_byte_l1
      rw [cI, if_neg (by rw [List.length_drop]; omega)])
    (Nat.lt_of_le_of_lt (by rw [List.length_drop]; omega) (show 1000 < FUEL by decide)) a
  rw [this, forL_map]; rfl
theorem foldl_max (l : List UInt8) (a c : UInt8) : l.foldl maxB a ≤ c ↔ a ≤ c ∧ ∀ b ∈ l, b ≤ c := by
  induction l generalizing a with
  | nil => simp
  | cons b l ih => rw [List.foldl_cons, ih, maxB_le]; simp [and_assoc]
theorem max_eq {s : List UInt8} (h : s.length ≤ 1000) (h0 : 0 < s.length) : ∃ m, slices_Max_byte s = some m ∧ ∀ c, m ≤ c ↔ ∀ b ∈ s, b ≤ c := by
  refine ⟨(s.drop 1).foldl maxB s[0], ?_, fun c => ?_⟩
  · unfold slices_Max_byte
    rw [decide_eq_false (by omega), cond_false, show (0 : Int) = ((0 : Nat) : Int) from rfl, idx_nat _ h0, max_loop s h, Option.bind_some]
  · rw [foldl_max]
    cases s with
    | nil => simp at h0
    | cons a l => simp
theorem cnt_all (l : List UInt8) (k : Nat) : l.foldl (fun n x => if x == (1 : UInt8) then n + 1 else n) k ≤ k + l.length ∧ (l.foldl (fun n x => if x == (1 : UInt8) then n + 1 else n) k = k + l.length ↔ ∀ b ∈ l, b = 1) := by
  induction l generalizing k with
  | nil => simp
  | cons b l ih =>
    rw [List.foldl_cons]
    by_cases c : b = 1
    · subst c
      have := ih (k + 1)
      simp only [beq_self_eq_true, if_true, List.length_cons, List.forall_mem_cons, true_and]
      exact ⟨by omega, by rw [← this.2]; omega⟩
    · have := ih k
      rw [if_neg (by simpa using c)]
      simp only [List.length_cons, List.forall_mem_cons]
      exact ⟨by omega, ⟨fun e => by omega, fun e => absurd e.1 c⟩⟩
theorem space_Check_eq (s : List UInt8) : space_Check s = some (if okS s then 0 else 8) := by
  unfold space_Check
  by_cases hl : s.length = 256
  · rw [show (!decide ((s.length : Int) = 256)) = false by rw [decide_eq_true (by omega)]; rfl, cond_false]
    obtain ⟨m, hm, hmc⟩ := max_eq (s := s) (by omega) (by omega)
    rw [hm, Option.bind_some]
    by_cases hb : ∀ b ∈ s, b ≤ 2
    · have := (hmc 2).2 hb
      rw [decide_eq_false (by rw [UInt8.lt_iff_toNat_lt]; rw [UInt8.le_iff_toNat_le] at this; omega), cond_false, slc_eq (by omega) (by omega) (by omega)]
      have hc : cut s 0 12 = s.take 12 := by simp [cut]
      rw [hc]
      unfold bytes_Count
      rw [decide_eq_false (by simp), cond_false, decide_eq_true (by simp), cond_true, show (0 : Int) = ((0 : Nat) : Int) from rfl, idx_nat _ (by simp), Option.bind_some]
      have hk := cnt_all (s.take 12) 0
      have hlt : (s.take 12).length = 12 := by rw [List.length_take]; omega
      rw [hlt] at hk
      obtain ⟨q, hq⟩ : ∃ q, q = cntB (s.take 12) ([(1 : UInt8)][0]) := ⟨_, rfl⟩
      rw [← hq]
      have hq' : q = (s.take 12).foldl (fun n x => if x == (1 : UInt8) then n + 1 else n) 0 := hq
      by_cases h1 : ∀ b ∈ s.take 12, b = 1
      · have e := hk.2.2 h1
        rw [if_pos ⟨hl, hb, h1⟩, decide_eq_true (by omega)]; rfl
      · have e : ¬ q = 12 := fun e => h1 (hk.2.1 (by omega))
        rw [if_neg (fun h => h1 h.2.2), decide_eq_false (by omega)]; rfl
    · have : ¬ m ≤ 2 := fun h => hb ((hmc 2).1 h)
      rw [decide_eq_true (by rw [UInt8.lt_iff_toNat_lt]; rw [UInt8.le_iff_toNat_le] at this; omega), cond_true, if_neg (fun h => hb h.2.1)]
  · rw [show (!decide ((s.length : Int) = 256)) = true by rw [decide_eq_false (by omega)]; rfl, cond_true, if_neg (fun h => hl h.1)]

/-! ### Free blocks -/
/-- the first nought from place i on -/
def freeFrom (s : List UInt8) (i : Nat) : Option Nat := (List.range' i (s.length - i)).find? fun j => s.getD j 1 == 0
theorem freeFrom_step {s : List UInt8} {i : Nat} (h : i < s.length) : freeFrom s i = if s[i] = 0 then some i else freeFrom s (i + 1) := by
  unfold freeFrom
  rw [show s.length - i = (s.length - (i + 1)) + 1 by omega, List.range'_succ, List.find?_cons]
  have e : s.getD i 1 = s[i] := by rw [List.getD_eq_getElem?_getD, List.getElem?_eq_getElem h]; rfl
  rw [e]
  by_cases c : s[i] = 0
  · rw [if_pos c, c]; rfl
  · rw [if_neg c, beq_eq_false_iff_ne.2 c]
theorem freeFrom_end {s : List UInt8} {i : Nat} (h : s.length ≤ i) : freeFrom s i = none := by
  unfold freeFrom; rw [show s.length - i = 0 by omega]; rfl
theorem freeFrom_some {s : List UInt8} {i j : Nat} (h : freeFrom s i = some j) : i ≤ j ∧ j < s.length ∧ s[j]? = some 0 := by
  unfold freeFrom at h
  have h1 := List.mem_of_find?_eq_some h
  have h2 := List.find?_some h
  rw [List.mem_range'_1] at h1
  have hj : j < s.length := by omega
  refine ⟨h1.1, hj, ?_⟩
  rw [List.getD_eq_getElem?_getD, List.getElem?_eq_getElem hj] at h2
  rw [List.getElem?_eq_getElem hj]
  simpa using h2
theorem free_loop (s : List UInt8) (hs : s.length ≤ 1000) : ∀ (k i n : Nat), i + k = s.length → k < n →
    run (space_free_1_l1 s) n (i : Int) = some (match freeFrom s i with | some j => .inr ((j : Int), (j : Int)) | none => .inl (s.length : Int))
  | 0, i, n, hi, hn => by
    obtain ⟨n, rfl⟩ : ∃ m, n = m + 1 := ⟨n - 1, by omega⟩
    obtain rfl : i = s.length := by omega
    rw [freeFrom_end (Nat.le_refl _)]
    show Option.bind (space_free_1_l1 s _) _ = _
    unfold space_free_1_l1
    rw [decide_eq_false (by omega), cond_false]; rfl
  | k + 1, i, n, hi, hn => by
    obtain ⟨n, rfl⟩ : ∃ m, n = m + 1 := ⟨n - 1, by omega⟩
    have hlt : i < s.length := by omega
    rw [freeFrom_step hlt]
    show Option.bind (space_free_1_l1 s _) _ = _
    unfold space_free_1_l1
    rw [decide_eq_true (by omega), cond_true, idx_nat _ hlt]
    by_cases c : s[i] = 0
    · rw [decide_eq_true c, cond_true, if_pos c]; rfl
    · rw [decide_eq_false c, cond_false, if_neg c]
      show run (space_free_1_l1 s) n (w64 ((i : Int) + 1)) = _
      rw [w64_of (by omega) (by omega), show (i : Int) + 1 = ((i + 1 : Nat) : Int) by omega]
      exact free_loop s hs k (i + 1) n (by omega) (by omega)
theorem space_free_1_eq {s : List UInt8} (hs : s.length ≤ 1000) {i : Nat} (hi : i ≤ s.length) :
    space_free_1 ((i : Int) - 1) s = some (match freeFrom s i with | some j => ((j : Int), (j : Int), s) | none => (-1, (s.length : Int), s)) := by
  unfold space_free_1
  rw [show ((i : Int) - 1) + 1 = (i : Int) by omega, w64_of (by omega) (by omega)]
  have := free_loop s hs (s.length - i) i FUEL (by omega) (Nat.lt_of_le_of_lt (by omega) (show 1000 < FUEL by decide))
  rw [show loop (space_free_1_l1 s) (i : Int) = _ from this, Option.bind_some]
  cases freeFrom s i <;> rfl
def takeS (s : List UInt8) : List UInt8 × Int × Int := if okS s then (match freeFrom s 0 with | some j => (s.set j 1, (j : Int), 0) | none => ([], 0, 9)) else ([], 0, 8)
theorem bClone {l : List UInt8} (h : l.length ≤ 1000000) : bytes_Clone l = some l := by
  unfold bytes_Clone; rw [app_eq (Nat.le_trans (by simpa using h) (by decide))]; rfl
theorem space_Take_eq (s : List UInt8) : space_Take s = some (takeS s) := by
  unfold space_Take takeS
  rw [space_Check_eq, Option.bind_some]
  by_cases ok : okS s
  · rw [if_pos ok, if_pos ok]
    have hl := ok.1
    rw [show (!decide ((0 : Int) = 0)) = false from rfl, cond_false]
    unfold space_free
    rw [Option.bind_some]
    have := space_free_1_eq (s := s) (by omega) (i := 0) (by omega)
    rw [show ((-1 : Int), s).1 = ((0 : Nat) : Int) - 1 from rfl, show ((-1 : Int), s).2 = s from rfl, this, Option.bind_some]
    cases hf : freeFrom s 0 with
    | none => rfl
    | some j =>
      obtain ⟨-, hj, -⟩ := freeFrom_some hf
      simp only []
      rw [decide_eq_false (by omega), cond_false, bClone (by omega), Option.bind_some, chk_eq ⟨by omega, by simpa using hj⟩, setI_eq (by omega) (by simpa using hj), Int.toNat_natCast]
  · rw [if_neg ok, if_neg ok]; rfl
end Go.Ow

/-
  What is proved here: keys, streams of bytes, tags and seals (mix, mac, cipher, seal), in plain words: which values they have is left open.
-/
namespace Go.Ow
set_option linter.unusedVariables false
set_option linter.unusedSimpArgs false

theorem lim_le {n : Nat} (h : n ≤ 1000000) : n ≤ LIM := Nat.le_trans h (by decide)
/-! ### Texts one behind the other -/
/-! ### Keys -/
/-! ### Tags -/
/-! ### Streams -/
end Go.Ow

/-
  What is proved here: blocks laid, sealed, looked at, opened (store), in plain words.
-/
namespace Go.Ow
set_option linter.unusedVariables false
set_option linter.unusedSimpArgs false

def noS : Store := ⟨⟨[], []⟩, [], 0, 0⟩
def noP : Ptr := ⟨0, 0, 0, 0, 0⟩
def OKSt (s : Store) : Prop := OKD s.Disk ∧ okS s.Space ∧ (1 : UInt32) ≤ s.Epoch ∧ s.Epoch ≤ 65535 ∧ s.Count ≤ 65535
instance (s : Store) : Decidable (OKSt s) := by unfold OKSt; infer_instance
theorem ndec {e : Int} (h : e ≠ 0) : (!decide (e = 0)) = true := by rw [decide_eq_false h]; rfl
theorem zdec : (!decide ((0 : Int) = 0)) = false := rfl
theorem d32lt (a b : UInt32) : decide (a < b) = !decide (b ≤ a) := by
  rw [← decide_not]; apply decide_eq_decide.2; rw [UInt32.lt_iff_toNat_lt, UInt32.le_iff_toNat_le]; omega
theorem store_Check_eq {s : Store} (h : Sized s.Disk) : store_Check s = some (if OKSt s then 0 else 8) := by
  unfold store_Check
  rw [dev_Check_eq h, Option.bind_some]
  by_cases c1 : OKD s.Disk
  · rw [if_pos c1, zdec, cond_false, space_Check_eq, Option.bind_some]
    by_cases c2 : okS s.Space
    · rw [if_pos c2, zdec, cond_false, d32lt, d32lt, d32lt]
      by_cases c3 : (1 : UInt32) ≤ s.Epoch
      · by_cases c4 : s.Epoch ≤ 65535
        · by_cases c5 : s.Count ≤ 65535
          · rw [if_pos ⟨c1, c2, c3, c4, c5⟩, decide_eq_true c3, decide_eq_true c4, decide_eq_true c5]; rfl
          · rw [if_neg (fun h => c5 h.2.2.2.2), decide_eq_true c3, decide_eq_true c4, decide_eq_false c5]; rfl
        · rw [if_neg (fun h => c4 h.2.2.2.1), decide_eq_true c3, decide_eq_false c4]; rfl
      · rw [if_neg (fun h => c3 h.2.2.1), decide_eq_false c3]; rfl
    · rw [if_neg c2, ndec (by omega), cond_true, if_neg (fun h => c2 h.2.1)]
  · rw [if_neg c1, ndec (by omega), cond_true, if_neg (fun h => c1 h.1)]
theorem OKSt.sized {s : Store} (h : OKSt s) : Sized s.Disk := h.1.sized

/-! ### What is asked -/
def birthOk (b : UInt32) : Prop := (1 : UInt32) ≤ b ∧ b ≤ 16777215
instance (b : UInt32) : Decidable (birthOk b) := by unfold birthOk; infer_instance
theorem asked_loop1 (n : Int) (a : List UInt8) : loop (store_asked_l1 [a]) (n, 0) = some (if (a.length : Int) = n then .inl () else .inr ()) := by
  refine loop_of (n := 3) (by decide) ?_
  by_cases c : (a.length : Int) = n
  · rw [if_pos c, run_st (s' := ((256 : Int), 1)) (by unfold store_asked_l1; simp [idx, c])]
    exact run_en (by unfold store_asked_l1; rfl)
  · rw [if_neg c]
    exact run_en (by unfold store_asked_l1; simp [idx, c])
def askErr (s : Store) (birth : UInt32) (ok : Prop) [Decidable ok] : Int := if OKSt s then (if birthOk birth then (if ok then 0 else 3) else 2) else 8
theorem asked_core {s : Store} (h : Sized s.Disk) (birth : UInt32) (n : Int) (l : List (List UInt8)) (ok : Prop) [Decidable ok] (hl : loop (store_asked_l1 l) (n, 0) = some (if ok then .inl () else .inr ())) :
    store_asked s birth n l = some (askErr s birth ok) := by
  unfold store_asked askErr
  rw [store_Check_eq h, Option.bind_some]
  by_cases c1 : OKSt s
  · rw [if_pos c1, if_pos c1, zdec, cond_false, d32lt, d32lt, hl]
    by_cases c2 : birthOk birth
    · rw [if_pos c2, decide_eq_true c2.1, decide_eq_true c2.2]
      by_cases c3 : ok
      · rw [if_pos c3, if_pos c3]; rfl
      · rw [if_neg c3, if_neg c3]; rfl
    · rw [if_neg c2]
      by_cases c3 : (1 : UInt32) ≤ birth
      · rw [decide_eq_true c3, decide_eq_false (fun c4 => c2 ⟨c3, c4⟩)]; rfl
      · rw [decide_eq_false c3]; rfl
  · rw [if_neg c1, if_neg c1, ndec (by omega)]; rfl

/-! ### A block is laid -/
structure PutAt (s : Store) (p : Ptr) (b : List UInt8) (t : Store) (q : Ptr) (j : Nat) : Prop where
  ok : OKSt s
  len : b.length = 256
  free : freeFrom s.Space 0 = some j
  room : s.Disk.Waits.length ≠ 4096
  out : t = ⟨⟨s.Disk.Blocks, s.Disk.Waits ++ [⟨(j : Int), b⟩]⟩, s.Space.set j 1, s.Epoch, s.Count⟩
  ptr : q = ⟨(j : Int), p.Birth, p.Iv, p.Tag, sumOf b⟩
theorem free_high {s : List UInt8} (h : okS s) {j : Nat} (hj : s[j]? = some 0) : 12 ≤ j ∧ j < 256 := by
  have hlt : j < s.length := (List.getElem?_eq_some_iff.1 hj).1
  rw [h.1] at hlt
  refine ⟨?_, hlt⟩
  apply Nat.le_of_not_lt
  intro hc
  have : (s.take 12)[j]? = some 0 := by rw [List.getElem?_take, if_pos hc]; exact hj
  have := h.2.2 0 (List.mem_of_getElem? this)
  cases this
theorem okS_set {s : List UInt8} (h : okS s) {j : Nat} (hj : 12 ≤ j) {v : UInt8} (hv : v ≤ 2) : okS (s.set j v) := by
  refine ⟨by rw [List.length_set]; exact h.1, fun b hb => ?_, fun b hb => ?_⟩
  · rcases List.mem_or_eq_of_mem_set hb with hb | hb
    · exact h.2.1 b hb
    · subst hb; exact hv
  · rw [List.take_set_of_le hj] at hb; exact h.2.2 b hb
theorem PutAt.place {s : Store} {p : Ptr} {b : List UInt8} {t : Store} {q : Ptr} {j : Nat} (h : PutAt s p b t q j) : 12 ≤ j ∧ j < 256 := free_high h.ok.2.1 (freeFrom_some h.free).2.2
theorem PutAt.okt {s : Store} {p : Ptr} {b : List UInt8} {t : Store} {q : Ptr} {j : Nat} (h : PutAt s p b t q j) : OKSt t := by
  have hp := h.place
  rw [h.out]
  exact ⟨h.ok.1.write (at' := (j : Int)) ⟨by omega, by omega⟩ h.len h.room, okS_set h.ok.2.1 hp.1 (by decide), h.ok.2.2⟩
theorem PutAt.seen {s : Store} {p : Ptr} {b : List UInt8} {t : Store} {q : Ptr} {j : Nat} (h : PutAt s p b t q j) : seenB t.Disk = (seenB s.Disk).set j b := by
  rw [h.out]
  simp only [seenB, layW, List.foldl_append, List.foldl_cons, List.foldl_nil, Int.toNat_natCast]
theorem writeD_ok {d : Disk} (h : OKD d) {j : Nat} (hj : j < 256) {b : List UInt8} (hb : b.length = 256) : writeD d (j : Int) b = if d.Waits.length = 4096 then (noD, 9) else (⟨d.Blocks, d.Waits ++ [⟨(j : Int), b⟩]⟩, 0) := by
  unfold writeD
  rw [if_pos h, if_pos ⟨by omega, by omega⟩]
  by_cases c : d.Waits.length = 4096
  · simp [hb, c]
  · simp [hb, c]
theorem put_cases {s : Store} (h : OKSt s) (p : Ptr) {b : List UInt8} (hb : b.length = 256) :
    (store_put s p b = some (noS, noP, 9) ∧ (freeFrom s.Space 0 = none ∨ s.Disk.Waits.length = 4096)) ∨ (∃ t q j, store_put s p b = some (t, q, 0) ∧ PutAt s p b t q j) := by
  unfold store_put
  rw [space_Take_eq, Option.bind_some]
  unfold takeS
  rw [if_pos h.2.1]
  cases hf : freeFrom s.Space 0 with
  | none => exact .inl ⟨rfl, .inl rfl⟩
  | some j =>
    have hp := free_high h.2.1 (freeFrom_some hf).2.2
    dsimp only
    rw [zdec, cond_false, dev_Write_eq h.1.sized (inI64_of ⟨by omega, by omega⟩), Option.bind_some]
    rw [writeD_ok h.1 hp.2 hb]
    by_cases c : s.Disk.Waits.length = 4096
    · rw [if_pos c]; exact .inl ⟨rfl, .inr c⟩
    · rw [if_neg c]
      dsimp only
      rw [zdec, cond_false, mix_Sum_eq (by omega), Option.bind_some]
      exact .inr ⟨_, _, j, rfl, h, hb, hf, c, rfl, rfl⟩
theorem raw_cases {s : Store} (h : Sized s.Disk) (birth iv tag : UInt32) (b : List UInt8) :
    (∃ e, store_Raw s birth iv tag b = some (noS, noP, e) ∧ e ≠ 0 ∧ (OKSt s → birthOk birth → b.length = 256 → freeFrom s.Space 0 = none ∨ s.Disk.Waits.length = 4096)) ∨ (∃ t q j, store_Raw s birth iv tag b = some (t, q, 0) ∧ birthOk birth ∧ PutAt s ⟨0, birth, iv, tag, 0⟩ b t q j) := by
  unfold store_Raw
  rw [asked_core h birth 256 [b] (b.length = 256) (by rw [asked_loop1]; congr 1; by_cases c : b.length = 256 <;> simp [c] <;> omega), Option.bind_some]
  unfold askErr
  by_cases c1 : OKSt s
  · rw [if_pos c1]
    by_cases c2 : birthOk birth
    · rw [if_pos c2]
      by_cases c3 : b.length = 256
      · rw [if_pos c3, zdec, cond_false]
        rcases put_cases c1 ⟨0, birth, iv, tag, 0⟩ c3 with ⟨h1, h2⟩ | ⟨t, q, j, h1, h2⟩
        · rw [h1]; exact .inl ⟨9, rfl, by omega, fun _ _ _ => h2⟩
        · rw [h1]; exact .inr ⟨t, q, j, rfl, c2, h2⟩
      · rw [if_neg c3]; exact .inl ⟨3, rfl, by omega, fun _ _ h => absurd h c3⟩
    · rw [if_neg c2]; exact .inl ⟨2, rfl, by omega, fun _ h => absurd h c2⟩
  · rw [if_neg c1]; exact .inl ⟨8, rfl, by omega, fun h => absurd h c1⟩
theorem lay_raw (s : Store) (birth : UInt32) (b : List UInt8) : store_Lay s birth b = store_Raw s birth 0 0 b := by
  unfold store_Lay
  cases store_Raw s birth 0 0 b with
  | none => rfl
  | some r => rfl

/-! ### A block is sealed -/
def more (s : Store) : Store := ⟨s.Disk, s.Space, s.Epoch, s.Count + 1⟩
/-! ### A block is looked at, and opened -/
def lookS (s : Store) (p : Ptr) : List UInt8 × Int :=
  if OKSt s ∧ (isNone p ∨ okR p) then (if isNone p then ([], 6) else (if sumOf ((seenB s.Disk).getD p.At.toNat []) = p.Sum then ((seenB s.Disk).getD p.At.toNat [], 0) else ([], 130))) else ([], 8)
theorem seen_mem {d : Disk} (h : OKD d) {i : Nat} (hi : i < 256) : ((seenB d).getD i []).length = 256 := by
  have hl := seenB_length h
  rw [List.getD_eq_getElem?_getD, List.getElem?_eq_getElem (by omega), Option.getD_some]
  exact layW_all h.2.2.1 (fun w hw => okW_data (h.2.2.2 w hw)) _ (List.getElem_mem _)
theorem none_dec' (p : Ptr) : (decide (p.At = 0) && (decide (p.Birth = (0 : UInt32)) && (decide (p.Iv = (0 : UInt32)) && (decide (p.Tag = (0 : UInt32)) && (decide (p.Sum = (0 : UInt32)) && true))))) = decide (isNone p) := none_dec p
theorem store_Look_eq {s : Store} (h : Sized s.Disk) (p : Ptr) : store_Look s p = some (lookS s p) := by
  unfold store_Look lookS
  rw [store_Check_eq h, Option.bind_some]
  by_cases c1 : OKSt s
  · rw [if_pos c1, zdec, cond_false, ptr_Check_eq', Option.bind_some]
    by_cases c2 : isNone p ∨ okR p
    · rw [if_pos c2, zdec, cond_false, none_dec', if_pos ⟨c1, c2⟩]
      by_cases c3 : isNone p
      · rw [if_pos c3, decide_eq_true c3]; rfl
      · rw [if_neg c3, decide_eq_false c3, cond_false]
        have hr := c2.resolve_left c3
        obtain ⟨i, hi⟩ := Int.eq_ofNat_of_zero_le (show 0 ≤ p.At by have := hr.1; omega)
        have hi2 : i < 256 := by have := hr.2.1; omega
        have hl := seenB_length c1.1
        rw [show (Disk.mk s.Disk.Blocks s.Disk.Waits) = s.Disk from rfl, hi, dev_Read_eq c1.1 hi2, Option.bind_some]
        dsimp only
        have hm := seen_mem c1.1 hi2
        have e : (seenB s.Disk).getD i [] = (seenB s.Disk)[i]'(by omega) := by rw [List.getD_eq_getElem?_getD, List.getElem?_eq_getElem (by omega), Option.getD_some]
        rw [Int.toNat_natCast, e] 
        rw [e] at hm
        rw [show decide ((0 : Int) = 0) = true from rfl, cond_true, mix_Sum_eq (by omega), Option.bind_some]
        by_cases c4 : sumOf ((seenB s.Disk)[i]'(by omega)) = p.Sum
        · rw [if_pos c4, decide_eq_true c4]; rfl
        · rw [if_neg c4, decide_eq_false c4]; rfl
    · rw [if_neg c2, ndec (by omega), if_neg (fun h => c2 h.2)]; rfl
  · rw [if_neg c1, ndec (by omega), if_neg (fun h => c1 h.1)]; rfl
theorem lookS_ok {s : Store} {p : Ptr} (h : (lookS s p).2 = 0) : OKSt s ∧ ¬ isNone p ∧ okR p ∧ (lookS s p).1 = (seenB s.Disk).getD p.At.toNat [] ∧ sumOf ((seenB s.Disk).getD p.At.toNat []) = p.Sum := by
  unfold lookS at h ⊢
  by_cases c1 : OKSt s ∧ (isNone p ∨ okR p)
  · rw [if_pos c1] at h ⊢
    by_cases c2 : isNone p
    · rw [if_pos c2] at h; simp at h
    · rw [if_neg c2] at h ⊢
      by_cases c3 : sumOf ((seenB s.Disk).getD p.At.toNat []) = p.Sum
      · rw [if_pos c3]; exact ⟨c1.1, c2, c1.2.resolve_left c2, rfl, c3⟩
      · rw [if_neg c3] at h; simp at h
  · rw [if_neg c1] at h; simp at h
theorem lookS_is {s : Store} {p : Ptr} {b : List UInt8} (h1 : OKSt s) (h2 : ¬ isNone p) (h3 : okR p) (h4 : (seenB s.Disk).getD p.At.toNat [] = b) (h5 : sumOf b = p.Sum) : lookS s p = (b, 0) := by
  unfold lookS; rw [if_pos ⟨h1, .inr h3⟩, if_neg h2, h4, if_pos h5]
end Go.Ow

/-
  What is proved here: a store that is new; what was laid is seen, what was sealed is opened; an example.
-/
namespace Go.Ow
set_option linter.unusedVariables false
set_option linter.unusedSimpArgs false

theorem forL_tot' {α σ τ : Type} {f : α → σ → Option (σ ⊕ τ)} : ∀ {l : List α} {s : σ}, (∀ y s, ∃ o, f y s = some o) → ∃ o, forL f l s = some o
  | [], s, _ => ⟨_, rfl⟩
  | y :: l, s, h => by
    obtain ⟨o, h1⟩ := h y s
    cases o with
    | inl s' => rw [forL_cons h1]; exact forL_tot' h
    | inr e => rw [forL_stop h1]; exact ⟨_, rfl⟩
def greatF (n : Nat) (r : Int) : Option (Int ⊕ Int) := if r < 2000000 then some (.inl (w64 (r + (n : Int)))) else some (.inr r)
theorem great_tot {d : Disk} (h : Sized d) : ∃ g, ref09_Great d = some g := by
  have L1 : ∀ r0, ∃ t, loop (ref09_Great_l1 d) (r0, 0) = some t := fun r0 => by
    rw [loop_each' d.Blocks (fun i (r : Int) => (r, i)) (fun b r => greatF b.length r) (fun r => r) (fun i hi r => ?_) (fun r => ?_) (small_lt h.blocks) r0]
    · obtain ⟨o, ho⟩ := forL_tot' (f := fun (b : List UInt8) (r : Int) => greatF b.length r) (l := d.Blocks) (s := r0) (fun y s => by unfold greatF; split <;> exact ⟨_, rfl⟩)
      rw [ho]; cases o <;> exact ⟨_, rfl⟩
    · unfold ref09_Great_l1 greatF
      rw [cI, if_pos hi]
      by_cases c : r < 2000000
      · rw [decide_eq_true c, if_pos c, cond_true, idx_nat _ hi]; rfl
      · rw [decide_eq_false c, if_neg c]; rfl
    · unfold ref09_Great_l1
      rw [cI, if_neg (by omega)]
  have L2 : ∀ r0, ∃ t, loop (ref09_Great_l2 d) (r0, 0) = some t := fun r0 => by
    rw [loop_each' d.Waits (fun i (r : Int) => (r, i)) (fun b r => greatF b.Data.length r) (fun r => r) (fun i hi r => ?_) (fun r => ?_) (small_lt h.waits) r0]
    · obtain ⟨o, ho⟩ := forL_tot' (f := fun (b : Write) (r : Int) => greatF b.Data.length r) (l := d.Waits) (s := r0) (fun y s => by unfold greatF; split <;> exact ⟨_, rfl⟩)
      rw [ho]; cases o <;> exact ⟨_, rfl⟩
    · unfold ref09_Great_l2 greatF
      rw [cI, if_pos hi]
      by_cases c : r < 2000000
      · rw [decide_eq_true c, if_pos c, cond_true, idx_nat _ hi]; rfl
      · rw [decide_eq_false c, if_neg c]; rfl
    · unfold ref09_Great_l2
      rw [cI, if_neg (by omega)]
  unfold ref09_Great
  have key : ∃ t, (cond (decide (500 < (d.Blocks.length : Int))) (some (.inr ())) (cond (decide (500 < (d.Waits.length : Int))) (cond (decide ((d.Waits.length : Int) < 4096)) (some (.inr ())) (cond (decide (4106 < (d.Waits.length : Int))) (some (.inr ())) (some (.inl ())))) (cond (decide (4106 < (d.Waits.length : Int))) (some (.inr ())) (some (.inl ()))))) = some (t : Unit ⊕ Unit) := by
    generalize decide (500 < (d.Blocks.length : Int)) = b1
    generalize decide (500 < (d.Waits.length : Int)) = b2
    generalize decide ((d.Waits.length : Int) < 4096) = b3
    generalize decide (4106 < (d.Waits.length : Int)) = b4
    cases b1 <;> cases b2 <;> cases b3 <;> cases b4 <;> exact ⟨_, rfl⟩
  obtain ⟨t, ht⟩ := key
  rw [ht, Option.bind_some]
  cases t with
  | inl _ =>
    obtain ⟨t1, h1⟩ := L1 0
    obtain ⟨t2, h2⟩ := L2 t1
    simp only [Sum.elim_inl]
    rw [h1, Option.bind_some, h2, Option.bind_some]
    exact ⟨_, rfl⟩
  | inr _ => exact ⟨_, rfl⟩

theorem great13_tot {s : Store} (h : Sized s.Disk) : ∃ g, ref13_Great s = some g := by
  obtain ⟨g, hg⟩ := great_tot h
  unfold ref13_Great
  rw [show ref09_Great (Disk.mk s.Disk.Blocks s.Disk.Waits) = some g from hg, Option.bind_some]
  cases g <;> exact ⟨_, rfl⟩

/-! ### What was laid is seen -/
theorem PutAt.okR {s : Store} {p : Ptr} {b : List UInt8} {t : Store} {q : Ptr} {j : Nat} (h : PutAt s p b t q j) (hb : birthOk p.Birth) : okR q ∧ ¬ isNone q := by
  have hp := h.place
  rw [h.ptr]
  exact ⟨⟨by show (12 : Int) ≤ (j : Int); omega, by show (j : Int) < 256; omega, hb.1, hb.2⟩, fun hn => by have : (j : Int) = 0 := hn.1; omega⟩
theorem getD_set {B : List (List UInt8)} {j : Nat} (hj : j < B.length) (b : List UInt8) (i : Nat) : (B.set j b).getD i [] = if i = j then b else B.getD i [] := by
  rw [List.getD_eq_getElem?_getD, List.getElem?_set]
  by_cases c : i = j
  · subst c; rw [if_pos rfl, if_pos hj, if_pos rfl]; rfl
  · rw [if_neg (fun e => c e.symm), if_neg c, List.getD_eq_getElem?_getD]
theorem PutAt.at {s : Store} {p : Ptr} {b : List UInt8} {t : Store} {q : Ptr} {j : Nat} (h : PutAt s p b t q j) (i : Nat) : (seenB t.Disk).getD i [] = if i = j then b else (seenB s.Disk).getD i [] := by
  have hp := h.place
  rw [h.seen, getD_set (by rw [seenB_length h.ok.1]; omega)]
theorem PutAt.look {s : Store} {p : Ptr} {b : List UInt8} {t : Store} {q : Ptr} {j : Nat} (h : PutAt s p b t q j) (hb : birthOk p.Birth) : lookS t q = (b, 0) := by
  obtain ⟨h1, h2⟩ := h.okR hb
  refine lookS_is h.okt h2 h1 ?_ (by rw [h.ptr])
  rw [h.at, show q.At.toNat = j by rw [h.ptr]; rfl, if_pos rfl]
/-- what was looked at elsewhere is looked at as before -/
theorem PutAt.other {s : Store} {p : Ptr} {b : List UInt8} {t : Store} {q : Ptr} {j : Nat} (h : PutAt s p b t q j) {x : Ptr} (hx : (lookS s x).2 = 0) (hj : x.At.toNat ≠ j) : lookS t x = lookS s x := by
  obtain ⟨k1, k2, k3, k4, k5⟩ := lookS_ok hx
  rw [lookS_is h.okt k2 k3 (b := (seenB s.Disk).getD x.At.toNat []) (by rw [h.at, if_neg hj]) k5, lookS_is k1 k2 k3 rfl k5]
/-! ### A new store -/
def newT : List UInt8 := List.replicate 12 1 ++ List.replicate 244 0
def newS : Store := ⟨newD, newT, 1, 0⟩
theorem repeat_one : bytes_Repeat [1] 12 = some (List.replicate 12 1) := by decide +kernel
theorem space_New_eq : space_New = some newT := by
  unfold space_New
  rw [repeat_one, Option.bind_some, show (244 : Int) = ((244 : Nat) : Int) from rfl, mks_eq (lim_le (by omega)), app_eq (lim_le (by rw [List.length_replicate, List.length_replicate]; omega))]; rfl
theorem store_New_eq : store_New = some newS := by
  unfold store_New
  rw [dev_New_eq, Option.bind_some, space_New_eq]; rfl
theorem newT_ok : okS newT := by decide +kernel
theorem newS_ok : OKSt newS := ⟨newD_ok, newT_ok, by decide, by decide, by decide⟩
theorem newT_free : freeFrom newT 0 = some 12 := by decide +kernel
theorem mk256 {β : Type} (k : List UInt8 → Option β) : mks 256 (0 : UInt8) k = k zeroBl := by
  rw [show (256 : Int) = ((256 : Nat) : Int) from rfl, mks_eq (lim_le (by omega))]; rfl
end Go.Ow

/-
  What is proved here: no two blocks are sealed by one number; limits, errors, examples: the laws, in plain words.
-/
namespace Go.Ow
set_option linter.unusedVariables false
set_option linter.unusedSimpArgs false

theorem noP_none : isNone noP := ⟨rfl, rfl, rfl, rfl, rfl⟩
/-! ### Examples -/
end Go.Ow

/-
  What is proved here: where there is room a block is laid; where a byte is turned, it is found: the laws, in plain words.
-/
namespace Go.Ow
set_option linter.unusedVariables false
set_option linter.unusedSimpArgs false

/-! ### The next free block -/
/-! ### A byte that is turned -/
def turned (B : List (List UInt8)) (j i : Nat) (by' : UInt8) : List (List UInt8) := B.set j ((B.getD j []).set i (((B.getD j []).getD i 0) ^^^ by'))
end Go.Ow

/-
  What is proved here: what was laid is seen, what was sealed is opened, no other block changes; what was given up is looked at as before: the laws, in plain words.
-/
namespace Go.Ow
set_option linter.unusedVariables false
set_option linter.unusedSimpArgs false

theorem nbeq {α : Type} [DecidableEq α] {a b : α} (h : a = b) : (!decide (a = b)) = false := by rw [decide_eq_true h]; rfl
/-! ### A block is given up -/
/-! ### What was given up -/
end Go.Ow
