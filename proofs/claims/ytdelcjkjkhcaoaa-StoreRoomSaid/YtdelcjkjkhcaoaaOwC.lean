/-
  What is proved here: rules for memory: own blocks, cells of the heaplet, calls; over OwB.
-/
import Derived.Test.YtdelcjkjkhcaoaaOwB
namespace Go.Ow
open Go.RowKit
set_option linter.unusedVariables false
set_option linter.unusedSimpArgs false

variable {x : Cx} {ops : Array Oper} {Q : Exit → Act → World → Prop} {rest : List Oper} {l : Slots} {own : List Own} {H : Heaplet}

/-! ### How the memory of a state goes on -/
theorem Kept.trans {S S' : List Nat} {a b c : World} (h : Kept S a b) (k : Kept S' b c) (hs : ∀ i ∈ S', i ∈ S ∨ a.heap.size ≤ i) : Kept S a c :=
  ⟨k.os.trans h.os, k.tape.trans h.tape, k.output.trans h.output, Nat.le_trans h.size k.size, Nat.le_trans h.drawn k.drawn, fun i hi hn => by
    refine (k.block i (Nat.lt_of_lt_of_le hi h.size) ?_).trans (h.block i hi hn)
    intro hm
    rcases hs i hm with h' | h'
    · exact hn h'
    · omega⟩

theorem flatten_perm {α : Type} : ∀ {own : List (List α)} {i : Nat} {seg : List α}, own[i]? = some seg → own.flatten.Perm (seg ++ (own.eraseIdx i).flatten)
  | [], _, _, h => by simp at h
  | s :: own, 0, seg, h => by simp at h; subst h; simp
  | s :: own, i + 1, seg, h => by
    simp at h
    have := flatten_perm h
    simp only [List.flatten_cons, List.eraseIdx_cons_succ]
    refine (this.append_left s).trans ?_
    rw [← List.append_assoc, ← List.append_assoc]
    exact List.perm_append_comm.append_right _

theorem flatten_set_perm {α : Type} : ∀ {own : List (List α)} {i : Nat} {seg seg' : List α}, own[i]? = some seg → (own.set i seg').flatten.Perm (seg' ++ (own.eraseIdx i).flatten)
  | [], _, _, _, h => by simp at h
  | s :: own, 0, seg, seg', h => by simp
  | s :: own, i + 1, seg, seg', h => by
    simp at h
    have := flatten_set_perm (seg' := seg') h
    simp only [List.set_cons_succ, List.flatten_cons, List.eraseIdx_cons_succ]
    refine (this.append_left s).trans ?_
    rw [← List.append_assoc, ← List.append_assoc]
    exact List.perm_append_comm.append_right _

theorem OwnOk.perm {H : Heaplet} {o o' : Own} {w : World} (h : OwnOk H o w) (p : o.Perm o') : OwnOk H o' w :=
  ⟨fun q hq => h.here q (p.mem_iff.2 hq), (p.map _).nodup_iff.1 h.nodup, fun q hq => h.apart q (p.mem_iff.2 hq)⟩
theorem OwnOk.left {H : Heaplet} {o o' : Own} {w : World} (h : OwnOk H (o ++ o') w) : OwnOk H o w :=
  ⟨fun q hq => h.here q (by simp [hq]), by have := h.nodup; simp only [ids, List.map_append, List.nodup_append] at this; exact this.1, fun q hq => h.apart q (by simp [hq])⟩
theorem OwnOk.right {H : Heaplet} {o o' : Own} {w : World} (h : OwnOk H (o ++ o') w) : OwnOk H o' w := OwnOk.left (h.perm List.perm_append_comm)
theorem OwnOk.lt {H : Heaplet} {o : Own} {w : World} (h : OwnOk H o w) : ∀ p ∈ o, p.1 < w.heap.size := fun p hp => by
  have := h.here p hp
  exact (Array.getElem?_eq_some_iff.1 this).1

/-- a step that turns the blocks of one part (K) of what is owned, and makes new ones -/
theorem Mem.go {w0 : World} {H0 H H' : Heaplet} {S : List Nat} {o K rst K' : Own} {w w' : World} (hm : Mem w0 H0 S o H w) (hp : o.Perm (K ++ rst))
    (h : Mem w H (ids K) K' H' w') : Mem w0 H0 S (K' ++ rst) H' w' := by
  have hok := hm.ok.perm hp
  have hlt := hok.lt
  have hnd : (ids K ++ ids rst).Nodup := by have := hok.nodup; simpa [ids] using this
  have hrst : ∀ p ∈ rst, p.1 ∉ ids K := fun p hp' hK => by
    have := (List.nodup_append.1 hnd).2.2 p.1 hK p.1 (List.mem_map_of_mem hp')
    exact this rfl
  have hK0 : ∀ i ∈ ids K, i ∈ S ∨ w0.heap.size ≤ i := fun i hi => by
    obtain ⟨p, hpK, rfl⟩ := List.mem_map.1 hi
    exact hm.fresh p (hp.mem_iff.2 (by simp [hpK]))
  refine ⟨h.agr, ⟨?_, ?_, ?_⟩, hm.kept.trans h.kept hK0, ?_, hm.le.trans h.le, ?_, ?_⟩
  · intro p hp'
    rcases List.mem_append.1 hp' with h1 | h1
    · exact h.ok.here p h1
    · rw [h.kept.block p.1 (hlt p (by simp [h1])) (hrst p h1)]
      exact hok.here p (by simp [h1])
  · simp only [ids, List.map_append]
    refine List.nodup_append.2 ⟨h.ok.nodup, (List.nodup_append.1 hnd).2.1, fun a ha b hb hab => ?_⟩
    subst hab
    obtain ⟨p, hpK, hpe⟩ := List.mem_map.1 ha
    obtain ⟨q, hq, hqe⟩ := List.mem_map.1 hb
    rcases h.fresh p hpK with h1 | h1
    · exact hrst q hq (by rw [hqe, ← hpe]; exact h1)
    · have := hlt q (by simp [hq]); omega
  · intro p hp' off
    rcases List.mem_append.1 hp' with h1 | h1
    · exact h.ok.apart p h1 off
    · rw [h.grow p.1 off (hlt p (by simp [h1]))]; exact hok.apart p (by simp [h1]) off
  · intro p hp'
    rcases List.mem_append.1 hp' with h1 | h1
    · rcases h.fresh p h1 with h2 | h2
      · exact hK0 _ h2
      · exact .inr (Nat.le_trans hm.kept.size h2)
    · exact hm.fresh p (hp.mem_iff.2 (by simp [h1]))
  · intro b off hb
    rw [h.grow b off (Nat.lt_of_lt_of_le hb hm.kept.size)]; exact hm.grow b off hb
  · intro b off v h0 h1
    cases hc : H b off with
    | none => exact h.soft b off v hc h1
    | some u =>
      obtain ⟨cur, t, e⟩ := hm.soft b off u h0 hc
      have hb := (Array.getElem?_eq_some_iff.1 e).1
      refine ⟨cur, t, ?_⟩
      rw [h.kept.block b hb (fun hi => ?_)]
      · exact e
      · obtain ⟨p, hpK, rfl⟩ := List.mem_map.1 hi
        rw [hok.apart p (by simp [hpK]) off] at hc; cases hc

theorem Mem.perm {w0 : World} {H0 H : Heaplet} {S : List Nat} {o o' : Own} {w : World} (hm : Mem w0 H0 S o H w) (hp : o.Perm o') : Mem w0 H0 S o' H w :=
  ⟨hm.agr, hm.ok.perm hp, hm.kept, fun p h => hm.fresh p (hp.mem_iff.2 h), hm.le, hm.grow, hm.soft⟩

/-- nothing of what is owned is turned: new blocks come ahead -/
theorem Mem.go0 {w0 : World} {H0 H H' : Heaplet} {S : List Nat} {own K' : List Own} {w w' : World} (hm : Mem w0 H0 S own.flatten H w) (h : Mem w H [] K'.flatten H' w') :
    Mem w0 H0 S (K' ++ own).flatten H' w' := by
  rw [List.flatten_append]
  exact hm.go (K := []) (by simp) h
/-- one segment is turned -/
theorem Mem.go1 {w0 : World} {H0 H H' : Heaplet} {S : List Nat} {own : List Own} {K K' : Own} {i : Nat} {w w' : World} (hm : Mem w0 H0 S own.flatten H w) (hi : own[i]? = some K)
    (h : Mem w H (ids K) K' H' w') : Mem w0 H0 S (own.set i K').flatten H' w' :=
  (hm.go (flatten_perm hi) h).perm (flatten_set_perm hi).symm

/-! ### The small steps of memory -/
theorem Mem.alloc {w : World} {H : Heaplet} (ha : Agrees H w) (o : Obj) : Mem w H [] [(w.heap.size, o)] H (w.alloc o) := by
  have hc : ∀ b, b < w.heap.size → (w.alloc o).heap[b]? = w.heap[b]? := fun b hb => Below.heap_alloc w o b hb
  refine ⟨fun b off v e => ?_, ⟨?_, by simp [ids], fun p hp off => ?_⟩, ⟨rfl, rfl, rfl, by simp, Nat.le_refl _, fun k hk _ => hc k hk⟩, fun p hp => .inr (by simp at hp; simp [hp]), Hle.refl _, fun _ _ _ => rfl, Mem.soft0⟩
  · have := ha b off v e
    rw [World.cell?_of_block (w := w) (hc b (World.block_lt_of_cell? w _ this))]; exact this
  · intro p hp; simp at hp; subst hp; exact heap_alloc_new w o
  · simp at hp; subst hp
    cases h : H w.heap.size off with
    | none => rfl
    | some v => have := World.block_lt_of_cell? w _ (ha _ _ _ h); simp at this

theorem Mem.setRow {w : World} {H : Heaplet} {b : Nat} {cur : Array Value} {t : TypeId} {fr : Nat × Nat} (ha : Agrees H w) (hb : w.heap[b]? = some (.cells cur t fr)) (hap : ∀ o, H b o = none) (cs : Array Value) :
    Mem w H [b] [(b, .cells cs t fr)] H (w.setRow b cs) := by
  have hlt := (Array.getElem?_eq_some_iff.1 hb).1
  have hg := (Array.getElem?_eq_some_iff.1 hb).2
  have ho : ∀ k, k ≠ b → (w.setRow b cs).heap[k]? = w.heap[k]? := fun k hk => by
    simp only [World.setRow, Array.getElem?_modify]; rw [if_neg (fun e => hk e.symm)]
  refine ⟨fun b' off v e => ?_, ⟨?_, by simp [ids], fun p hp off => ?_⟩, ⟨rfl, rfl, rfl, by simp [World.setRow], Nat.le_refl _, fun k hk hn => ho k (by simpa using hn)⟩, fun p hp => .inl (by simp at hp; simp [hp]), Hle.refl _, fun _ _ _ => rfl, Mem.soft0⟩
  · have := ha b' off v e
    rw [World.cell?_of_block (w := w) (ho b' (fun e' => by subst e'; rw [hap] at e; cases e))]; exact this
  · intro p hp; simp at hp; subst hp
    simp [World.setRow, Array.getElem?_modify, hb]
  · simp at hp; subst hp; exact hap off

theorem own_here {w0 w : World} {H0 : Heaplet} {S : List Nat} {K : Own} {i : Nat} (hm : Mem w0 H0 S own.flatten H w) (hi : own[i]? = some K) : OwnOk H K w :=
  OwnOk.left (hm.ok.perm (flatten_perm hi))

/-! ### Addresses and types -/
@[simp] theorem add_lit (b o n : Nat) : (⟨b, o, none⟩ : Addr).add n = ⟨b, o + n, none⟩ := by unfold Addr.add; split <;> simp_all

def fieldOff (P : Program) (S k : Nat) : Option Nat :=
  match P.underlying S with
  | some (.struct fs) => match fs[k]? with
    | some f => match P.info? f.type with
      | some i => if i.size = 0 then none else some f.offset
      | none => none
    | none => none
  | _ => none
theorem run_fieldAt {P : Program} {S k n : Nat} (h : fieldOff P S k = some n) (b o : Nat) (w : World) :
    (Instr.fieldAt S (.pointer (some ⟨b, o, none⟩)) k).run P w = .ok (.pointer (some ⟨b, o + n, none⟩)) w := by
  unfold fieldOff at h
  split at h
  · rename_i fs hu
    split at h
    · rename_i f hf
      split at h
      · rename_i i hi
        split at h
        · cases h
        · rename_i hs
          simp at h
          simp [Instr.fieldAt, run_underlying hu, hf, Instr.sureAddr, fieldPlace, Go.sizeOf, typeInfo, hi, hs, h, go_sem]
      · cases h
    · cases h
  · cases h

def isAggD : TypeDesc → Bool
  | .struct _ => true
  | .array _ _ => true
  | _ => false
/-- is it a struct or an array; how many cells it has -/
def shapeOf (P : Program) (T : TypeId) : Option (Bool × Nat) :=
  match P.underlying T, P.info? T with
  | some d, some i => some (isAggD d, i.size)
  | _, _ => none

theorem run_isAgg {P : Program} {T : TypeId} {g : Bool} {n : Nat} (h : shapeOf P T = some (g, n)) (w : World) : (isAgg T).run P w = .ok g w := by
  unfold shapeOf at h
  split at h
  · rename_i d i hu hi
    simp at h
    simp only [isAgg, Sem.run_bind, run_underlying hu, Result.andThen]
    rw [← h.1]
    cases d <;> simp [isAggD, go_sem]
  · cases h
theorem run_sizeOf {P : Program} {T : TypeId} {g : Bool} {n : Nat} (h : shapeOf P T = some (g, n)) (w : World) : (Go.sizeOf T).run P w = .ok n w := by
  unfold shapeOf at h
  split at h
  · rename_i d i hu hi
    simp at h
    simp [Go.sizeOf, typeInfo, hi, h.2, go_sem]
  · cases h

/-- the cells of memory that are read from the heaplet or an own block -/
def At (H : Heaplet) (own : List Own) (b o : Nat) (v : Value) : Prop :=
  H b o = some v ∨ ∃ (i : Nat) (cur : Array Value) (t : TypeId) (fr : Nat × Nat), own[i]? = some [(b, Obj.cells cur t fr)] ∧ cur[o]? = some v
theorem At.cell {w : World} {b o : Nat} {v : Value} (hm : Stab own H w) (h : At H own b o v) : w.cell? ⟨b, o, none⟩ = some v := by
  rcases h with h | ⟨i, cur, t, fr, hi, hc⟩
  · exact hm.1 b o v h
  · rw [cell_of_row w b o cur t fr (hm.2 (b, .cells cur t fr) (List.mem_flatten.2 ⟨_, List.mem_of_getElem? hi, by simp⟩))]; exact hc

theorem run_load1 {P : Program} {T : TypeId} {w : World} {a : Addr} {v : Value} {n : Nat} (hs : shapeOf P T = some (false, n)) (hc : w.cell? a = some v) :
    (Instr.loadAt T (.pointer (some a))).run P w = .ok v w := by
  simp [Instr.loadAt, Instr.sureAddr, loadVar, run_isAgg hs, hc, go_sem]
theorem run_loadN {P : Program} {T : TypeId} {w : World} {b o : Nat} {vs : List Value} (hs : shapeOf P T = some (true, vs.length)) (hc : ∀ j v, vs[j]? = some v → w.cell? ⟨b, o + j, none⟩ = some v) :
    (Instr.loadAt T (.pointer (some ⟨b, o, none⟩))).run P w = .ok (.agg vs.toArray) w := by
  have h := run_loadCells_list (P := P) (w := w) ⟨b, o, none⟩ vs (fun j v e => by rw [add_lit]; exact hc j v e)
  simp only [Instr.loadAt, Instr.sureAddr, loadVar, Sem.run_bind, Sem.run_pure, run_isAgg hs, run_sizeOf hs, h, Result.andThen, if_true]

theorem run_v {P : Program} {s : Sem Value} {w w' : World} {u : Value} (h : s.run P w = .ok u w') : (do let r ← s; pure (Next.value r)).run P w = .ok (.value u) w' := by
  simp [Sem.run_bind, h]
theorem run_u {P : Program} {s : Sem Unit} {w w' : World} (h : s.run P w = .ok () w') : (do s; pure Next.skip).run P w = .ok .skip w' := by
  simp [Sem.run_bind, h]

section ops
variable {ty : TypeId} {d : Nat} {pos : String} {aft : Array Edge} {v : Value}

theorem JL.fa {p : Operand} {S k n b o : Nat} (hf : fieldOff x.P S k = some n) (h1 : evo l p = some (.pointer (some ⟨b, o, none⟩))) (hd : Nat.blt d x.n = true)
    (h : JL x ops Q rest ((d, .pointer (some ⟨b, o + n, none⟩)) :: l) own H) : JL x ops Q (⟨some d, .fieldAddr S p k, ty, pos, aft, none⟩ :: rest) l own H :=
  JL.val hd rfl (fun ρ w _ _ _ _ hρ hm => by simp only [execOp, hρ _ _ h1]; exact run_v (run_fieldAt hf b o w)) h
theorem JL.ld {p : Operand} {T n b o : Nat} (hs : shapeOf x.P T = some (false, n)) (h1 : evo l p = some (.pointer (some ⟨b, o, none⟩))) (ha : At H own b o v) (hd : Nat.blt d x.n = true)
    (h : JL x ops Q rest ((d, v) :: l) own H) : JL x ops Q (⟨some d, .load T p, ty, pos, aft, none⟩ :: rest) l own H :=
  JL.val hd rfl (fun ρ w _ _ _ _ hρ hm => by simp only [execOp, hρ _ _ h1]; exact run_v (run_load1 hs (ha.cell hm))) h
/-- out of an own block -/
theorem JL.ldo (i : Nat) {p : Operand} {T n b o : Nat} {cur : Array Value} {t : TypeId} {fr : Nat × Nat} (hs : shapeOf x.P T = some (false, n)) (h1 : evo l p = some (.pointer (some ⟨b, o, none⟩)))
    (hi : own[i]? = some [(b, .cells cur t fr)]) (hc : cur.toList[o]? = some v) (hd : Nat.blt d x.n = true)
    (h : JL x ops Q rest ((d, v) :: l) own H) : JL x ops Q (⟨some d, .load T p, ty, pos, aft, none⟩ :: rest) l own H :=
  JL.ld hs h1 (.inr ⟨i, cur, t, fr, hi, by simpa using hc⟩) hd h
theorem JL.ldN {p : Operand} {T b o n : Nat} {vs : List Value} (hs : shapeOf x.P T = some (true, n)) (h1 : evo l p = some (.pointer (some ⟨b, o, none⟩))) (ha : ∀ j u, vs[j]? = some u → At H own b (o + j) u) (hn : vs.length = n) (hd : Nat.blt d x.n = true)
    (h : JL x ops Q rest ((d, .agg vs.toArray) :: l) own H) : JL x ops Q (⟨some d, .load T p, ty, pos, aft, none⟩ :: rest) l own H :=
  JL.val hd rfl (fun ρ w _ _ _ _ hρ hm => by simp only [execOp, hρ _ _ h1]; exact run_v (run_loadN (by rw [hn]; exact hs) (fun j u e => (ha j u e).cell hm))) h
/-- a whole own block -/
theorem JL.ldoN (i : Nat) {p : Operand} {T b n : Nat} {cur : Array Value} {t : TypeId} {fr : Nat × Nat} (hs : shapeOf x.P T = some (true, n)) (h1 : evo l p = some (.pointer (some ⟨b, 0, none⟩)))
    (hi : own[i]? = some [(b, .cells cur t fr)]) (hn : cur.toList.length = n) (hd : Nat.blt d x.n = true)
    (h : JL x ops Q rest ((d, .agg cur) :: l) own H) : JL x ops Q (⟨some d, .load T p, ty, pos, aft, none⟩ :: rest) l own H := by
  refine JL.ldN (vs := cur.toList) hs h1 (fun j u e => .inr ⟨i, cur, t, fr, hi, by simpa using e⟩) hn hd ?_
  simpa using h

/-- an operation that makes a block -/
theorem JL.new {op : Op} {obj : Obj} {v' : Nat → Value} (hd : Nat.blt d x.n = true) (hn : noDefer op = true)
    (hr : ∀ (ρ : Operand → Value) (w : World) (d : Option Tmp) (pos : String) (aft : Array Edge) (g : Option (Nat × Bool)), (∀ o u, evo l o = some u → ρ o = u) →
      (execOp ρ ⟨d, op, ty, pos, aft, g⟩).run x.P w = .ok (.value (v' w.heap.size)) (w.alloc obj))
    (h : ∀ b, x.w0.heap.size ≤ b → JL x ops Q rest ((d, v' b) :: l) ([(b, obj)] :: own) H) : JL x ops Q (⟨some d, op, ty, pos, aft, none⟩ :: rest) l own H := fun a w hh => by
  simp only [wpLs, wanted_none, if_true]
  refine ⟨fun _ _ => trivial, ?_⟩
  rw [semAt_of hn, hr a.eval w (some d) pos aft none (fun o u e => eval_of hh e)]
  refine h w.heap.size hh.mem.kept.size _ _ (Holds.put (x := x) (l := l) ?_ hd _)
  exact ⟨hh.size, hh.ds, hh.slots, by simpa using hh.mem.go0 (K' := [[(w.heap.size, obj)]]) (by simpa using Mem.alloc hh.mem.agr obj)⟩
theorem JL.box {p : Operand} {T : TypeId} (h1 : evo l p = some v) (hd : Nat.blt d x.n = true)
    (h : ∀ b, x.w0.heap.size ≤ b → JL x ops Q rest ((d, .pointer (some ⟨b, 0, none⟩)) :: l) ([(b, .cells v.cells T (0, 0))] :: own) H) : JL x ops Q (⟨some d, .box T p, ty, pos, aft, none⟩ :: rest) l own H :=
  JL.new (v' := fun b => .pointer (some ⟨b, 0, none⟩)) hd rfl (fun ρ w _ _ _ _ hρ => by
    simp only [execOp, hρ _ _ h1]
    exact run_v (by simp only [Instr.box, newVar, newRow, Sem.run_bind, run_newObj_alloc, Result.andThen, Sem.run_pure])) h
def zeroOf (P : Program) (T : TypeId) : Option Value := (P.info? T).bind (·.zero)
theorem run_zeroValue {P : Program} {T : TypeId} {z : Value} (h : zeroOf P T = some z) (w : World) : (zeroValue T).run P w = .ok z w := by
  unfold zeroOf at h
  cases hi : P.info? T with
  | none => simp [hi] at h
  | some i => simp [hi] at h; simp [zeroValue, typeInfo, hi, h, go_sem]
theorem JL.alloc {T : TypeId} {z : Value} (hz : zeroOf x.P T = some z) (hd : Nat.blt d x.n = true)
    (h : ∀ b, x.w0.heap.size ≤ b → JL x ops Q rest ((d, .pointer (some ⟨b, 0, none⟩)) :: l) ([(b, .cells z.cells T (0, 0))] :: own) H) : JL x ops Q (⟨some d, .alloc T, ty, pos, aft, none⟩ :: rest) l own H :=
  JL.new (v' := fun b => .pointer (some ⟨b, 0, none⟩)) hd rfl (fun ρ w _ _ _ _ hρ => by
    have hz' := run_zeroValue hz w
    simp only [execOp]
    refine run_v ?_
    simp only [Instr.alloc, Sem.run_bind, hz', Result.andThen, newVar, newRow, run_newObj_alloc, Sem.run_pure]) h

/-- an operation that yields nothing and turns one own block -/
theorem JL.turn (i : Nat) {op : Op} {b : Nat} {cur cs : Array Value} {t : TypeId} (hi : own[i]? = some [(b, .cells cur t (0, 0))]) (hn : noDefer op = true)
    (hr : ∀ (ρ : Operand → Value) (w : World) (d : Option Tmp) (pos : String) (aft : Array Edge) (g : Option (Nat × Bool)), (∀ o u, evo l o = some u → ρ o = u) → w.heap[b]? = some (.cells cur t (0, 0)) →
      (execOp ρ ⟨d, op, ty, pos, aft, g⟩).run x.P w = .ok .skip (w.setRow b cs))
    (h : JL x ops Q rest l (own.set i [(b, .cells cs t (0, 0))]) H) : JL x ops Q (⟨none, op, ty, pos, aft, none⟩ :: rest) l own H := fun a w hh => by
  simp only [wpLs, wanted_none, if_true]
  refine ⟨fun _ _ => trivial, ?_⟩
  have hb := (own_here hh.mem hi)
  rw [semAt_of hn, hr a.eval w none pos aft none (fun o u e => eval_of hh e) (hb.here (b, .cells cur t (0, 0)) (by simp))]
  have hap : ∀ o, H b o = none := fun o => hb.apart (b, .cells cur t (0, 0)) (by simp) o
  exact h _ _ ⟨hh.size, hh.ds, hh.slots, hh.mem.go1 hi (by simpa [ids] using Mem.setRow hh.mem.agr (hb.here (b, .cells cur t (0, 0)) (by simp)) hap cs)⟩
theorem run_storeAt {P : Program} {T : TypeId} {w : World} {b o n : Nat} {g : Bool} {cur : Array Value} {t : TypeId} {v : Value} (hs : shapeOf P T = some (g, n)) (hv : v.cells.size = n)
    (h1 : v.cells.toList.all (·.oneCell') = true) (hb : w.heap[b]? = some (.cells cur t (0, 0))) (ho : o + n ≤ cur.size) :
    (Instr.storeAt T (.pointer (some ⟨b, o, none⟩)) v).run P w = .ok () (w.setRow b (cur.toList.take o ++ v.cells.toList ++ cur.toList.drop (o + n)).toArray) := by
  have h := run_storeCells_at P b o t v.cells.toList 0 cur w hb (by simp [hv, ho]) (List.all_eq_true.1 h1)
  simp only [Instr.storeAt, Instr.sureAddr, storeVar, Sem.run_bind, Sem.run_pure, run_sizeOf hs, Result.andThen, hv, ne_eq, not_true, if_false, h, Nat.add_zero, Array.length_toList]
theorem JL.store (i : Nat) {p q : Operand} {T n b o : Nat} {g : Bool} {cur : Array Value} {t : TypeId} (hs : shapeOf x.P T = some (g, n)) (h1 : evo l p = some (.pointer (some ⟨b, o, none⟩))) (h2 : evo l q = some v)
    (hi : own[i]? = some [(b, .cells cur t (0, 0))]) (hv : v.cells.size = n) (hc : v.cells.toList.all (·.oneCell') = true) (ho : o + n ≤ cur.size)
    (h : JL x ops Q rest l (own.set i [(b, .cells (cur.toList.take o ++ v.cells.toList ++ cur.toList.drop (o + n)).toArray t (0, 0))]) H) : JL x ops Q (⟨none, .store T p q, ty, pos, aft, none⟩ :: rest) l own H :=
  JL.turn i hi rfl (fun ρ w _ _ _ _ hρ hb => by simp only [execOp, hρ _ _ h1, hρ _ _ h2]; exact run_u (run_storeAt hs hv hc hb ho)) h

/-! ### Calls -/
def Enters (P : Program) (f : FuncId) : Prop := ∀ (args : Array Value) (w : World), (callFunc f args).run P w = .ok (.enter f args) w
theorem enters_of {P : Program} {f : FuncId} {fn : Func} (hf : P.funcs[f]? = some fn) (hb : fn.body.isNone = false) (hn : (fn.name == "runtime.NumGoroutine") = false) : Enters P f := fun args w => by
  simp only [callFunc, Sem.run_bind, run_program, Result.andThen, hf, hb, hn, Bool.false_eq_true, if_false, Sem.run_pure]

theorem mapM_eval {ρ : Operand → Value} (hρ : ∀ o u, evo l o = some u → ρ o = u) {as : Array Operand} {vs : List Value} (h : as.toList.mapM (evo l) = some vs) : as.map ρ = vs.toArray := by
  have key : ∀ (os : List Operand) (vs : List Value), os.mapM (evo l) = some vs → os.map ρ = vs := by
    intro os
    induction os with
    | nil => intro vs e; simp at e; simp [e]
    | cons o os ih =>
      intro vs e
      simp only [List.mapM_cons] at e
      cases ho : evo l o with
      | none => simp [ho] at e
      | some v =>
        cases hos : os.mapM (evo l) with
        | none => simp [ho, hos] at e
        | some us => simp [ho, hos] at e; subst e; simp [hρ _ _ ho, ih us hos]
  rw [← Array.toList_inj]; simpa using key _ _ h

/-- a call: K: what the callee may change, a segment each of what is owned -/
theorem JL.callG {c : Operand} {as : Array Operand} {ts : Array TypeId} {f : FuncId} {first cap : Array Value} {vs : List Value} {K rst : List Own} {R : Value → List Own → Heaplet → Prop}
    (he : Enters x.P f) (hc : evo l c = some (.func (.func f) first cap)) (ha : as.toList.mapM (evo l) = some vs) (hp : own.flatten.Perm (K.flatten ++ rst.flatten))
    (C : Does x.P f (first ++ vs.toArray ++ cap) K H R) (hd : Nat.blt d x.n = true)
    (h : ∀ v K' H', R v K' H' → Hle H H' → (∀ p ∈ K'.flatten, p.1 ∈ ids K.flatten ∨ x.w0.heap.size ≤ p.1) → JL x ops Q rest ((d, v) :: l) (K' ++ rst) H') :
    JL x ops Q (⟨some d, .call ⟨.value c, as, ts⟩, ty, pos, aft, none⟩ :: rest) l own H := fun a w hh => by
  simp only [wpLs, wanted_none, if_true]
  refine ⟨fun _ _ => trivial, ?_⟩
  have hrun : (execOp a.eval ⟨some d, .call ⟨.value c, as, ts⟩, ty, pos, aft, none⟩).run x.P w = .ok (.enter f (first ++ vs.toArray ++ cap)) w := by
    have e1 := eval_of hh hc
    have e2 := mapM_eval (fun o u e => eval_of hh e) ha
    simp only [execOp, resolve, e1, e2, Deferred.ofValue, Sem.run_bind, Sem.run_pure, Result.andThen, invoke]
    exact he _ _
  rw [semAt_of rfl, hrun]
  have hok := hh.mem.ok.perm hp
  show (_ → _) ∧ CallsIn _ _ _ _ _ _ _
  refine ⟨fun e => by simp [Fw] at e, ?_⟩
  refine CallsIn.mono (show CallsIn (Fw x.r) (0 - 1) x.P f _ w _ from C w hh.mem.agr hok.left) ?_
  rintro e w' ⟨v, K', H', rfl, hR, hm⟩
  refine h v K' H' hR hm.le (fun p hp' => (hm.fresh p hp').imp id (Nat.le_trans hh.mem.kept.size)) _ _ (Holds.put (x := x) (l := l) ?_ hd v)
  exact ⟨hh.size, hh.ds, hh.slots, by rw [List.flatten_append]; exact hh.mem.go hp hm⟩
/-- a call that changes nothing that is owned -/
theorem JL.call {c : Operand} {as : Array Operand} {ts : Array TypeId} {f : FuncId} {vs : List Value} {R : Value → List Own → Heaplet → Prop}
    (he : Enters x.P f) (hc : evo l c = some (.func (.func f) #[] #[])) (ha : as.toList.mapM (evo l) = some vs) 
    (C : Does x.P f vs.toArray [] H R) (hd : Nat.blt d x.n = true)
    (h : ∀ v K' H', R v K' H' → Hle H H' → (∀ p ∈ K'.flatten, x.w0.heap.size ≤ p.1) → JL x ops Q rest ((d, v) :: l) (K' ++ own) H') :
    JL x ops Q (⟨some d, .call ⟨.value c, as, ts⟩, ty, pos, aft, none⟩ :: rest) l own H :=
  JL.callG (K := []) (rst := own) he hc ha (by simp) (by simpa using C) hd (fun v K' H' hR hle hf => h v K' H' hR hle (fun p hp => (hf p hp).resolve_left (by simp [ids])))
end ops
end Go.Ow
