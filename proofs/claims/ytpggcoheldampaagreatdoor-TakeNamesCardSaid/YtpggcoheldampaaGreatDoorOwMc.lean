import Derived.Test.YtpggcoheldampaaGreatDoorOwMb
import Derived.Maps.RangeRun
import Derived.Laws.Externs
import Derived.Lib.BytesEntry
import Derived.Lib.Bytealg
import Derived.Room.MakeNoZero
import Derived.ChangeKeysEq
import Derived.KernelRfl
import Derived.Test.YtpggcoheldampaaGreatDoorOwMa
/-
  What is proved here: maps whose keys are ints: made, written, ranged over in whatever order; over OwY.
-/
namespace Go.Ow
open Go.RowKit
set_option linter.unusedVariables false
set_option linter.unusedSimpArgs false

/-- the entries of a map, in the order in which they came -/
structure MapIs {α : Type} (R : Rep α) (H : Heaplet) (es : Array MapEntry) (M : List (Int × α)) : Prop where
  size : es.size = M.length
  here : ∀ i k y, M[i]? = some (k, y) → ∃ cs : List Value, es[i]? = some (MapEntry.mk (.int .i64 k) (.agg cs.toArray) i) ∧ R H cs y
  nodup : (M.map (·.1)).Nodup

theorem putM_new {α : Type} : ∀ {M : List (Int × α)} {k : Int} {y : α}, (∀ p ∈ M, p.1 ≠ k) → putM M k y = M ++ [(k, y)]
  | [], _, _, _ => rfl
  | p :: r, k, y, h => by
    simp only [putM, if_neg (h p (by simp)), List.cons_append]
    rw [putM_new (fun q hq => h q (by simp [hq]))]
theorem putM_old {α : Type} : ∀ {M : List (Int × α)} {k : Int} {y : α} {j : Nat} {z : α}, (M.map (·.1)).Nodup → M[j]? = some (k, z) → putM M k y = M.set j (k, y)
  | [], _, _, _, _, _, h => by simp at h
  | p :: r, k, y, 0, z, _, h => by simp at h; subst h; simp [putM]
  | p :: r, k, y, j + 1, z, hn, h => by
    simp only [List.map_cons, List.nodup_cons] at hn
    simp only [List.getElem?_cons_succ] at h
    have hne : p.1 ≠ k := fun e => hn.1 (by rw [e]; exact List.mem_map.2 ⟨(k, z), List.mem_of_getElem? h, rfl⟩)
    simp only [putM, if_neg hne, List.set_cons_succ]
    rw [putM_old hn.2 h]

theorem MapIs.nil {α : Type} (R : Rep α) (H : Heaplet) : MapIs R H #[] [] := ⟨rfl, fun i k y h => by simp at h, by simp⟩
theorem MapIs.mono {α : Type} {R : Rep α} (hR : R.Mono) {H H' : Heaplet} (hle : Hle H H') {es : Array MapEntry} {M : List (Int × α)} (h : MapIs R H es M) : MapIs R H' es M :=
  ⟨h.size, fun i k y e => by obtain ⟨cs, h1, h2⟩ := h.here i k y e; exact ⟨cs, h1, hR _ _ _ _ hle h2⟩, h.nodup⟩
theorem MapIs.entry {α : Type} {R : Rep α} {H : Heaplet} {es : Array MapEntry} {M : List (Int × α)} (h : MapIs R H es M) {e : MapEntry} (he : e ∈ es.toList) :
    ∃ i k y, ∃ cs : List Value, M[i]? = some (k, y) ∧ es[i]? = some e ∧ e = MapEntry.mk (.int .i64 k) (.agg cs.toArray) i ∧ R H cs y := by
  obtain ⟨i, hi⟩ := List.mem_iff_getElem?.1 he
  have hi' : es[i]? = some e := by simpa using hi
  have hlt : i < M.length := by rw [← h.size]; exact (Array.getElem?_eq_some_iff.1 hi').1
  obtain ⟨cs, h1, h2⟩ := h.here i (M[i]).1 (M[i]).2 (by simp [hlt])
  exact ⟨i, (M[i]).1, (M[i]).2, cs, by simp [hlt], hi', by rw [hi'] at h1; exact Option.some.inj h1, h2⟩
theorem MapIs.keys {α : Type} {R : Rep α} {H : Heaplet} {es : Array MapEntry} {M : List (Int × α)} (h : MapIs R H es M) : ∀ e ∈ es.toList, MapKept.IsKey (.int .i64) e.key := fun e he => by
  obtain ⟨i, k, y, cs, -, -, rfl, -⟩ := h.entry he
  rfl
theorem MapIs.born {α : Type} {R : Rep α} {H : Heaplet} {es : Array MapEntry} {M : List (Int × α)} (h : MapIs R H es M) : ∀ e ∈ es.toList, e.born < M.length := fun e he => by
  obtain ⟨i, k, y, cs, h1, -, rfl, -⟩ := h.entry he
  exact (List.getElem?_eq_some_iff.1 h1).1
theorem MapIs.bornAt {α : Type} {R : Rep α} {H : Heaplet} {es : Array MapEntry} {M : List (Int × α)} (h : MapIs R H es M) : es.toList.map (·.born) = List.range M.length := by
  refine List.ext_getElem? (fun i => ?_)
  rw [List.getElem?_map]
  by_cases hi : i < M.length
  · obtain ⟨cs, h1, -⟩ := h.here i (M[i]).1 (M[i]).2 (by simp [hi])
    rw [Array.getElem?_toList, h1]
    simp [hi]
  · rw [Array.getElem?_toList, Array.getElem?_eq_none (by rw [h.size]; omega)]
    simp [hi]

theorem MapIs.put {α : Type} {R : Rep α} {H : Heaplet} {es : Array MapEntry} {M : List (Int × α)} (h : MapIs R H es M) {k : Int} {cs : List Value} {y : α} (hR : R H cs y) :
    (∀ e ∈ es.toList, e.key ≠ .int .i64 k) → MapIs R H (es.push (MapEntry.mk (.int .i64 k) (.agg cs.toArray) M.length)) (putM M k y) := fun hn => by
  have hM : ∀ p ∈ M, p.1 ≠ k := fun p hp e => by
    obtain ⟨i, hi⟩ := List.mem_iff_getElem?.1 hp
    obtain ⟨cs', h1, -⟩ := h.here i p.1 p.2 hi
    exact hn _ (Array.mem_toList_iff.2 (Array.mem_of_getElem? h1)) (by simp [e])
  rw [putM_new hM]
  refine ⟨by simp [h.size], fun i k' y' e => ?_, ?_⟩
  · rw [List.getElem?_append] at e
    split at e
    · obtain ⟨cs', h1, h2⟩ := h.here i k' y' e
      refine ⟨cs', ?_, h2⟩
      have := (Array.getElem?_eq_some_iff.1 h1).1
      rw [Array.getElem?_push_lt this, ← h1, Array.getElem?_eq_getElem this]
    · rename_i hi
      have : i = M.length := by
        rcases Nat.lt_or_ge 0 (i - M.length) with h' | h'
        · rw [List.getElem?_eq_none (by simp only [List.length_cons, List.length_nil]; omega)] at e; cases e
        · omega
      subst this
      simp at e
      obtain ⟨rfl, rfl⟩ := e
      exact ⟨cs, by rw [← h.size]; simp, hR⟩
  · rw [List.map_append]
    refine List.nodup_append.2 ⟨h.nodup, by simp, fun a ha b hb => ?_⟩
    simp at hb
    subst hb
    obtain ⟨p, hp, rfl⟩ := List.mem_map.1 ha
    exact hM p hp
theorem MapIs.turn {α : Type} {R : Rep α} {H : Heaplet} {es : Array MapEntry} {M : List (Int × α)} (h : MapIs R H es M) {k : Int} {cs : List Value} {y : α} (hR : R H cs y) {j : Nat} {e : MapEntry}
    (hj : es[j]? = some e) (hk : e.key = .int .i64 k) : MapIs R H (es.modify j fun e => { e with key := .int .i64 k, val := .agg cs.toArray }) (putM M k y) ∧ (putM M k y).length = M.length := by
  obtain ⟨i, k', z, cs', h1, h2, h3, -⟩ := h.entry (Array.mem_toList_iff.2 (Array.mem_of_getElem? hj))
  subst h3
  simp only [Value.int.injEq, true_and] at hk
  subst hk
  have hij : i = j := by
    have hlt : j < M.length := by rw [← h.size]; exact (Array.getElem?_eq_some_iff.1 hj).1
    obtain ⟨cs2, h4, -⟩ := h.here j (M[j]).1 (M[j]).2 (by simp [hlt])
    rw [hj] at h4
    simp only [Option.some.injEq, MapEntry.mk.injEq] at h4
    exact h4.2.2
  subst hij
  rw [putM_old h.nodup h1]
  have hlt := (List.getElem?_eq_some_iff.1 h1).1
  refine ⟨⟨by simp [h.size], fun i' k'' y' e => ?_, ?_⟩, by simp⟩
  · rw [List.getElem?_set] at e
    split at e
    · rename_i hii
      subst hii
      simp only [hlt, if_true, Option.some.injEq, Prod.mk.injEq] at e
      obtain ⟨rfl, rfl⟩ := e
      exact ⟨cs, by rw [Array.getElem?_modify, if_pos rfl, h2]; rfl, hR⟩
    · rename_i hii
      obtain ⟨cs2, h4, h5⟩ := h.here i' k'' y' e
      exact ⟨cs2, by rw [Array.getElem?_modify, if_neg hii]; exact h4, h5⟩
  · rw [List.map_set]
    rw [show (M.map (·.1)).set i k' = M.map (·.1) from by
      refine List.ext_getElem? (fun n => ?_)
      rw [List.getElem?_set]
      split
      · rename_i hn; subst hn
        simp [hlt]
        have := (List.getElem?_eq_some_iff.1 h1).2
        rw [this]
      · rfl]
    exact h.nodup

/-! ### A block that is turned -/
open Go.ChangeMaps (setBlock)
theorem Mem.setBlk {w : World} {H : Heaplet} {b : Nat} {o o' : Obj} (ha : Agrees H w) (hb : w.heap[b]? = some o) (hap : ∀ q, H b q = none) :
    Mem w H [b] [(b, o')] H (setBlock w b o') := by
  have hlt := (Array.getElem?_eq_some_iff.1 hb).1
  have ho : ∀ k, k ≠ b → (setBlock w b o').heap[k]? = w.heap[k]? := fun k hk => (MapKept.heap_set (o' := o') hb).2 k hk
  refine ⟨fun b' off v e => ?_, ⟨?_, by simp [ids], fun p hp off => ?_⟩, ⟨rfl, rfl, rfl, by simp [setBlock], Nat.le_refl _, fun k hk hn => ho k (by simpa using hn)⟩, fun p hp => .inl (by simp at hp; simp [hp]), Hle.refl _, fun _ _ _ => rfl, Mem.soft0⟩
  · have := ha b' off v e
    rw [World.cell?_of_block (w := w) (ho b' (fun e' => by subst e'; rw [hap] at e; cases e))]; exact this
  · intro p hp; simp at hp; subst hp
    exact (MapKept.heap_set (o' := o') hb).1
  · simp at hp; subst hp; exact hap off

variable {x : Cx} {ops : Array Oper} {Q : Exit → Act → World → Prop} {rest : List Oper} {l : Slots} {own : List Own} {H : Heaplet}
variable {ty : TypeId} {d : Nat} {pos : String} {aft : Array Edge} {v : Value}

theorem JL.mkMap {t : TypeId} (hd : Nat.blt d x.n = true)
    (h : ∀ b, x.w0.heap.size ≤ b → JL x ops Q rest ((d, .map (some b)) :: l) ([(b, .map #[] 0)] :: own) H) : JL x ops Q (⟨some d, .makeMap t none, ty, pos, aft, none⟩ :: rest) l own H :=
  JL.new (v' := fun b => .map (some b)) hd rfl (fun ρ w _ _ _ _ hρ => by
    simp only [execOp]
    refine run_v ?_
    simp only [Instr.makeMap, Sem.run_bind, Sem.run_pure, Option.map, run_newObj_alloc, Result.andThen]) h

theorem JL.rangeMap (i : Nat) {p : Operand} {t kt et : TypeId} {bm c : Nat} {es : Array MapEntry} (hu : x.P.underlying t = some (.map kt et)) (h1 : evo l p = some (.map (some bm)))
    (hi : own[i]? = some [(bm, .map es c)]) (hd : Nat.blt d x.n = true)
    (h : ∀ b, x.w0.heap.size ≤ b → JL x ops Q rest ((d, .pointer (some ⟨b, 0, none⟩)) :: l) ([(b, .mapIter (some bm) c #[] c)] :: own) H) : JL x ops Q (⟨some d, .range t p, ty, pos, aft, none⟩ :: rest) l own H := fun a w hh => by
  simp only [wpLs, wanted_none, if_true]
  refine ⟨fun _ _ => trivial, ?_⟩
  have hb := (own_here hh.mem hi).here (bm, .map es c) (by simp)
  have hr : (execOp a.eval ⟨some d, .range t p, ty, pos, aft, none⟩).run x.P w = .ok (.value (.pointer (some ⟨w.heap.size, 0, none⟩))) (w.alloc (.mapIter (some bm) c #[] c)) := by
    simp only [execOp, eval_of hh h1]
    exact run_v (run_range_map w t kt et bm es c hu hb)
  rw [semAt_of rfl, hr]
  refine h w.heap.size hh.mem.kept.size _ _ (Holds.put (x := x) (l := l) ?_ hd _)
  exact ⟨hh.size, hh.ds, hh.slots, by simpa using hh.mem.go0 (K' := [[(w.heap.size, _)]]) (by simpa using Mem.alloc hh.mem.agr _)⟩

theorem JL.mapUpd {α : Type} {R : Rep α} (i : Nat) {HF : Heaplet} {p q s : Operand} {mt kt et : TypeId} {b : Nat} {es : Array MapEntry} {M : List (Int × α)} {k : Int} {cs : List Value} {y : α}
    (hu : x.P.underlying mt = some (.map kt et)) (hk : x.P.underlying kt = some (.int .i64)) (h1 : evo l p = some (.map (some b))) (h2 : evo l q = some (.int .i64 k)) (h3 : evo l s = some (.agg cs.toArray))
    (hi : own[i]? = some [(b, .map es M.length)]) (hM : MapIs R HF es M) (hR : R HF cs y)
    (h : ∀ es', MapIs R HF es' (putM M k y) → JL x ops Q rest l (own.set i [(b, .map es' (putM M k y).length)]) H) :
    JL x ops Q (⟨none, .mapUpdate mt p q s, ty, pos, aft, none⟩ :: rest) l own H := fun a w hh => by
  simp only [wpLs, wanted_none, if_true]
  refine ⟨fun _ _ => trivial, ?_⟩
  have hb := own_here hh.mem hi
  have hbk := hb.here (b, .map es M.length) (by simp)
  have hap : ∀ o, H b o = none := fun o => hb.apart (b, .map es M.length) (by simp) o
  have hkey : MapKept.IsKey (.int .i64) (.int .i64 k) := rfl
  have key : ∃ es', MapIs R HF es' (putM M k y) ∧ (execOp a.eval ⟨none, .mapUpdate mt p q s, ty, pos, aft, none⟩).run x.P w = .ok .skip (setBlock w b (.map es' (putM M k y).length)) := by
    simp only [execOp, eval_of hh h1, eval_of hh h2, eval_of hh h3]
    rcases MapKept.findNow_spec hkey es.toList 0 hM.keys with ⟨g1, g2⟩ | ⟨j, e, g1, g2, g3⟩
    · have hput := hM.put hR g2
      refine ⟨_, hput, run_u ?_⟩
      simp only [Instr.mapUpdate, Sem.run_bind, run_underlying hu, MapKept.run_getObj_map hbk, MapKept.run_checkKey hk hkey, MapKept.run_findKey hk g1, MapKept.run_setObj_map _ hbk, Result.andThen, setBlock]
      rw [← hput.size]; simp [hM.size]
    · have hj : es[j]? = some e := by simpa using g2
      obtain ⟨ht, hl⟩ := hM.turn hR hj g3
      refine ⟨_, ht, run_u ?_⟩
      simp [Instr.mapUpdate, run_underlying hu, MapKept.run_getObj_map hbk, MapKept.run_checkKey hk hkey, MapKept.run_findKey hk g1, hj, g3, MapKept.run_keyThatStays hkey, MapKept.run_setObj_map _ hbk, Result.andThen, setBlock, hl]
  obtain ⟨es', hes, hr⟩ := key
  rw [semAt_of rfl, hr]
  exact h es' hes _ _ ⟨hh.size, hh.ds, hh.slots, hh.mem.go1 hi (by simpa [ids] using Mem.setBlk hh.mem.agr hbk hap)⟩

/-- the step of the range: nothing is left, or some entry that was not seen comes -/
theorem JL.nextMap {α : Type} {R : Rep α} (i j : Nat) {HF : Heaplet} {p : Operand} {bi bm c0 : Nat} {es : Array MapEntry} {M : List (Int × α)} {seen : Array Nat}
    (h1 : evo l p = some (.pointer (some ⟨bi, 0, none⟩))) (hi : own[i]? = some [(bi, .mapIter (some bm) M.length seen c0)]) (hj : own[j]? = some [(bm, .map es M.length)]) (hM : MapIs R HF es M)
    (hc : M.length ≤ c0) (hd : Nat.blt d x.n = true)
    (hend : (∀ k, k < M.length → k ∈ seen.toList) → JL x ops Q rest ((d, .tuple #[.bool false]) :: l) own H)
    (hgo : ∀ n k y cs, M[n]? = some (k, y) → es[n]? = some (MapEntry.mk (.int .i64 k) (.agg cs.toArray) n) → n ∉ seen.toList → R HF cs y →
      JL x ops Q rest ((d, .tuple #[.bool true, .int .i64 k, .agg cs.toArray]) :: l) (own.set i [(bi, .mapIter (some bm) M.length (seen.push n) M.length)]) H) :
    JL x ops Q (⟨some d, .next p false, ty, pos, aft, none⟩ :: rest) l own H := fun a w hh => by
  simp only [wpLs, wanted_none, if_true]
  refine ⟨fun _ _ => trivial, ?_⟩
  have hb := own_here hh.mem hi
  have hbi := hb.here (bi, .mapIter (some bm) M.length seen c0) (by simp)
  have hbm := (own_here hh.mem hj).here (bm, .map es M.length) (by simp)
  have hap : ∀ o, H bi o = none := fun o => hb.apart (bi, .mapIter (some bm) M.length seen c0) (by simp) o
  rcases run_next_at (P := x.P) w ty bi bm M.length c0 seen es M.length hbi hbm hM.born hc with ⟨g1, g2⟩ | ⟨e, g1, w1, g2, g3⟩
  · have hr : (execOp a.eval ⟨some d, .next p false, ty, pos, aft, none⟩).run x.P w = .ok (.value (.tuple #[.bool false])) w := by
      simp only [execOp, eval_of hh h1]
      exact run_v g2
    rw [semAt_of rfl, hr]
    refine hend (fun k hk => ?_) _ _ (hh.put hd _)
    obtain ⟨cs, q1, -⟩ := hM.here k (M[k]).1 (M[k]).2 (by simp [hk])
    have hz : leftOf es seen = #[] := Array.eq_empty_of_size_eq_zero g1
    have := Array.filter_eq_empty_iff.1 hz _ (Array.mem_of_getElem? q1)
    simpa using this
  · have hr : (execOp a.eval ⟨some d, .next p false, ty, pos, aft, none⟩).run x.P w = .ok (.value (.tuple #[.bool true, e.key, e.val])) (setBlock w1 bi (.mapIter (some bm) M.length (seen.push e.born) M.length)) := by
      simp only [execOp, eval_of hh h1]
      exact run_v g3
    rw [semAt_of rfl, hr]
    have he : e ∈ es.toList ∧ e.born ∉ seen.toList := by
      have := g1
      simp [leftOf] at this
      exact ⟨by simpa using this.1, by simpa using this.2⟩
    obtain ⟨n, k, y, cs, q1, q2, rfl, q4⟩ := hM.entry he.1
    have hm1 : Mem x.w0 x.H0 x.S own.flatten H w1 := by
      rcases g2 with rfl | rfl
      · exact hh.mem
      · exact hh.mem.drew
    have hbi1 : w1.heap[bi]? = some (.mapIter (some bm) M.length seen c0) := by
      rcases g2 with rfl | rfl
      · exact hbi
      · exact hbi
    refine hgo n k y cs q1 q2 he.2 q4 _ _ (Holds.put (x := x) (l := l) ?_ hd _)
    exact ⟨hh.size, hh.ds, hh.slots, hm1.go1 hi (by simpa [ids] using Mem.setBlk hm1.agr hbi1 hap)⟩

/-- the round's key and value -/
theorem JL.entryMap {α : Type} {R : Rep α} (i j : Nat) {HF : Heaplet} {p : Operand} {bi bm n : Nat} {es : Array MapEntry} {M : List (Int × α)} {seen : Array Nat} {k : Int} {cs : List Value}
    (h1 : evo l p = some (.pointer (some ⟨bi, 0, none⟩))) (hi : own[i]? = some [(bi, .mapIter (some bm) M.length (seen.push n) M.length)]) (hj : own[j]? = some [(bm, .map es M.length)]) (hM : MapIs R HF es M)
    (he : es[n]? = some (MapEntry.mk (.int .i64 k) (.agg cs.toArray) n)) (hd : Nat.blt d x.n = true)
    (h : JL x ops Q rest ((d, .tuple #[.int .i64 k, .agg cs.toArray]) :: l) own H) : JL x ops Q (⟨some d, .entry p, ty, pos, aft, none⟩ :: rest) l own H :=
  JL.val hd rfl (fun ρ w _ _ _ _ hρ hm => by
    simp only [execOp, hρ _ _ h1]
    have hbi := hm.2 (bi, .mapIter (some bm) M.length (seen.push n) M.length) (List.mem_flatten.2 ⟨_, List.mem_of_getElem? hi, by simp⟩)
    have hbm := hm.2 (bm, .map es M.length) (List.mem_flatten.2 ⟨_, List.mem_of_getElem? hj, by simp⟩)
    exact run_v (run_entry_at w bi bm M.length seen es M.length (MapEntry.mk (.int .i64 k) (.agg cs.toArray) n) hbi hbm (Array.mem_toList_iff.2 (Array.mem_of_getElem? he)) (by rw [hM.bornAt]; exact List.nodup_range))) h

/-! ### A map that is owned -/
def MapOf {α : Type} (HF : Heaplet) (R : Rep α) (B n : Nat) (M : List (Int × α)) (K : Own) : Prop := B ≤ n ∧ ∃ es, K = [(n, .map es M.length)] ∧ MapIs R HF es M
section mapOf
variable {α : Type} {R : Rep α} {HF : Heaplet} {B n : Nat} {M : List (Int × α)} {K : Own}
theorem MapOf.weak {B' : Nat} (hB : B' ≤ B) (h : MapOf HF R B n M K) : MapOf HF R B' n M K := ⟨Nat.le_trans hB h.1, h.2⟩
theorem MapOf.ge (h : MapOf HF R B n M K) : ∀ p ∈ K, B ≤ p.1 := by
  obtain ⟨h1, es, rfl, -⟩ := h
  intro p hp; simp at hp; subst hp; exact h1
theorem MapOf.base {B' : Nat} (h : MapOf HF R B n M K) (hB : ∀ p ∈ K, B' ≤ p.1) : MapOf HF R B' n M K := by
  obtain ⟨h1, es, rfl, h2⟩ := h
  exact ⟨hB (n, .map es M.length) (by simp), es, rfl, h2⟩
theorem newM_ids {N : Nat} {S : List Nat} (h : MapOf HF R N n M K) (hS : ∀ i ∈ S, i < N) : ∀ p ∈ K, p.1 ∉ S := fun p hp hm => by
  have := h.ge p hp; have := hS _ hm; omega
theorem MapOf.mono {H2 : Heaplet} (h : MapOf HF R B n M K) (hR : R.Mono) (hle : Hle HF H2) : MapOf H2 R B n M K := by
  obtain ⟨h1, es, rfl, h2⟩ := h
  exact ⟨h1, es, rfl, h2.mono hR hle⟩
end mapOf
theorem MapOf.old {α : Type} {R : Rep α} {H H' : Heaplet} {B n : Nat} {M : List (Int × α)} {K : Own} (h : MapOf (New H H') R B n M K) (hR : R.Mono) : MapOf H' R B n M K := h.mono hR (New.le H H')

theorem JL.mkMapF {α : Type} (HF : Heaplet) (R : Rep α) {t : TypeId} (hd : Nat.blt d x.n = true)
    (h : ∀ b K, MapOf HF R x.w0.heap.size b [] K → JL x ops Q rest ((d, .map (some b)) :: l) (K :: own) H) : JL x ops Q (⟨some d, .makeMap t none, ty, pos, aft, none⟩ :: rest) l own H :=
  JL.mkMap hd (fun b hb => h b _ ⟨hb, _, rfl, MapIs.nil R HF⟩)
theorem JL.mapUpdF {α : Type} {R : Rep α} (i : Nat) {HF : Heaplet} {p q s : Operand} {mt kt et : TypeId} {B n : Nat} {K : Own} {M : List (Int × α)} {k : Int} {cs : List Value} {y : α}
    (hu : x.P.underlying mt = some (.map kt et)) (hk : x.P.underlying kt = some (.int .i64)) (h1 : evo l p = some (.map (some n))) (h2 : evo l q = some (.int .i64 k)) (h3 : evo l s = some (.agg cs.toArray))
    (hi : own[i]? = some K) (hM : MapOf HF R B n M K) (hR : R HF cs y)
    (h : ∀ K', MapOf HF R B n (putM M k y) K' → JL x ops Q rest l (own.set i K') H) :
    JL x ops Q (⟨none, .mapUpdate mt p q s, ty, pos, aft, none⟩ :: rest) l own H := by
  obtain ⟨g1, es, rfl, g2⟩ := hM
  exact JL.mapUpd i hu hk h1 h2 h3 hi g2 hR (fun es' he => h _ ⟨g1, es', rfl, he⟩)
theorem JL.rangeMapF {α : Type} {R : Rep α} (i : Nat) {HF : Heaplet} {p : Operand} {t kt et : TypeId} {B n : Nat} {K : Own} {M : List (Int × α)} (hu : x.P.underlying t = some (.map kt et)) (h1 : evo l p = some (.map (some n)))
    (hi : own[i]? = some K) (hM : MapOf HF R B n M K) (hd : Nat.blt d x.n = true)
    (h : ∀ b es, K = [(n, .map es M.length)] → MapIs R HF es M → JL x ops Q rest ((d, .pointer (some ⟨b, 0, none⟩)) :: l) ([(b, .mapIter (some n) M.length #[] M.length)] :: own) H) : JL x ops Q (⟨some d, .range t p, ty, pos, aft, none⟩ :: rest) l own H := by
  obtain ⟨g1, es, rfl, g2⟩ := hM
  exact JL.rangeMap i hu h1 hi hd (fun b hb => h b es rfl g2)

/-! ### What is laid from a map into a row, in whatever order -/
/-- those of S are laid -/
structure Laid {α β : Type} (f : α → β) (L : List β) (M : List (Int × α)) (S : List Nat) (B : List β) : Prop where
  len : B.length = L.length
  laid : ∀ n k y, n ∈ S → M[n]? = some (k, y) → B[k.toNat]? = some (f y)
  same : ∀ j, (∀ n k y, n ∈ S → M[n]? = some (k, y) → k.toNat ≠ j) → B[j]? = L[j]?
theorem Laid.start {α β : Type} (f : α → β) (L : List β) (M : List (Int × α)) : Laid f L M [] L := ⟨rfl, fun n k y h => by simp at h, fun j _ => rfl⟩
theorem key_unique {α : Type} {M : List (Int × α)} (hn : (M.map (·.1)).Nodup) {i j : Nat} {k : Int} {y z : α} (h1 : M[i]? = some (k, y)) (h2 : M[j]? = some (k, z)) : i = j := by
  have e1 : (M.map (·.1))[i]? = some k := by simp [h1]
  have e2 : (M.map (·.1))[j]? = some k := by simp [h2]
  exact (List.getElem?_inj (List.getElem?_eq_some_iff.1 e1).1 hn).1 (e1.trans e2.symm)
theorem Laid.step {α β : Type} {f : α → β} {L : List β} {M : List (Int × α)} {S : List Nat} {B : List β} (h : Laid f L M S B) (hn : (M.map (·.1)).Nodup) (hr : ∀ p ∈ M, 0 ≤ p.1 ∧ p.1.toNat < L.length)
    {n : Nat} {k : Int} {y : α} (hM : M[n]? = some (k, y)) (S' : List Nat) (hS : ∀ q, q ∈ S' ↔ q ∈ S ∨ q = n) : Laid f L M S' (B.set k.toNat (f y)) := by
  have hk := hr _ (List.mem_of_getElem? hM)
  refine ⟨by simp [h.len], fun n' k' y' hn' hM' => ?_, fun j hj => ?_⟩
  · rw [List.getElem?_set]
    split
    · rename_i e
      have hk' := hr _ (List.mem_of_getElem? hM')
      have : k = k' := by have := hk.1; have := hk'.1; simp only at *; omega
      subst this
      have := key_unique hn hM hM'
      subst this
      rw [hM] at hM'
      simp at hM'
      subst hM'
      rw [if_pos (by rw [h.len]; exact hk.2)]
    · rename_i e
      rcases (hS n').1 hn' with h' | h'
      · exact h.laid n' k' y' h' hM'
      · subst h'
        rw [hM] at hM'
        simp at hM'
        exact absurd (by rw [hM'.1]) e
  · rw [List.getElem?_set, if_neg (hj n k y ((hS n).2 (.inr rfl)) hM)]
    exact h.same j (fun n' k' y' h1 h2 => hj n' k' y' ((hS n').2 (.inl h1)) h2)
theorem Laid.unique {α β : Type} {f : α → β} {L : List β} {M : List (Int × α)} {S S' : List Nat} {B B' : List β} (h : Laid f L M S B) (h' : Laid f L M S' B') (hS : ∀ k, k < M.length → k ∈ S) (hS' : ∀ k, k < M.length → k ∈ S') : B = B' := by
  refine List.ext_getElem? (fun j => ?_)
  by_cases c : ∃ (n : Nat) (k : Int) (y : α), M[n]? = some (k, y) ∧ k.toNat = j
  · obtain ⟨n, k, y, h1, rfl⟩ := c
    have hlt := (List.getElem?_eq_some_iff.1 h1).1
    rw [h.laid n k y (hS n hlt) h1, h'.laid n k y (hS' n hlt) h1]
  · rw [h.same j (fun n k y _ h1 e => c ⟨n, k, y, h1, e⟩), h'.same j (fun n k y _ h1 e => c ⟨n, k, y, h1, e⟩)]
theorem Laid.layM {α β : Type} (f : α → β) (L : List β) (M : List (Int × α)) (hn : (M.map (·.1)).Nodup) (hr : ∀ p ∈ M, 0 ≤ p.1 ∧ p.1.toNat < L.length) : Laid f L M (List.range M.length) (layM f L M) := by
  have key : ∀ i, i ≤ M.length → Laid f L M (List.range i) ((M.take i).foldl (fun L p => L.set p.1.toNat (f p.2)) L) := by
    intro i
    induction i with
    | zero => intro _; simpa using Laid.start f L M
    | succ i ih =>
      intro hi
      have hi' : i < M.length := hi
      have hM : M[i]? = some ((M[i]).1, (M[i]).2) := by rw [List.getElem?_eq_getElem hi']
      have := (ih (by omega)).step hn hr hM (List.range (i + 1)) (fun q => by rw [List.mem_range, List.mem_range]; omega)
      rw [List.take_add_one, hM, List.foldl_append]
      exact this
  have := key M.length (Nat.le_refl _)
  rwa [List.take_length] at this
theorem Laid.full {α β : Type} {f : α → β} {L : List β} {M : List (Int × α)} {S : List Nat} {B : List β} (h : Laid f L M S B) (hn : (M.map (·.1)).Nodup) (hr : ∀ p ∈ M, 0 ≤ p.1 ∧ p.1.toNat < L.length) (hS : ∀ k, k < M.length → k ∈ S) :
    B = Go.Ow.layM f L M := h.unique (Laid.layM f L M hn hr) hS (fun k hk => by simpa using hk)
theorem nodup_len : ∀ (k : Nat) (l : List Nat), l.Nodup → (∀ q ∈ l, q < k) → l.length ≤ k
  | 0, l, _, h => by
    cases l with
    | nil => simp
    | cons a l => have := h a (by simp); omega
  | k + 1, l, hn, h => by
    by_cases c : k ∈ l
    · have h1 := nodup_len k (l.erase k) (hn.erase k) (fun q hq => by
        have := (hn.mem_erase_iff).1 hq
        have := h q this.2
        omega)
      rw [List.length_erase_of_mem c] at h1
      omega
    · have := nodup_len k l hn (fun q hq => by
        have := h q hq
        have : q ≠ k := fun e => c (e ▸ hq)
        omega)
      omega
theorem seen_more {k n : Nat} {l : List Nat} (hn : l.Nodup) (h : ∀ q ∈ l, q < k) (hk : n < k) (hl : n ∉ l) : l.length < k := by
  have := nodup_len k (n :: l) (List.nodup_cons.2 ⟨hl, hn⟩) (fun q hq => by
    rcases List.mem_cons.1 hq with rfl | hq
    · exact hk
    · exact h q hq)
  rw [List.length_cons] at this
  omega

theorem lay_step {β : Type} {B : List β} {k : Int} {v : β} (h : 0 ≤ k ∧ k.toNat < B.length) : (chk (0 ≤ k ∧ k.toNat < B.length) <| setI B k v fun m => some m) = some (B.set k.toNat v) := by
  unfold chk setI; rw [if_pos h, if_pos h]

theorem R.max2b {p q : Operand} {a b : UInt8} {ts : Array TypeId} (h1 : evo l p = some (.int .u8 (a.toNat : Int))) (h2 : evo l q = some (.int .u8 (b.toNat : Int))) : Runs x (.call ⟨.builtin .max, #[p, q], ts⟩) ty l own H (.int .u8 ((maxB a b).toNat : Int)) := fun ρ w _ _ _ _ hρ hm => by
  have e3 : Array.map ρ #[p, q] = #[.int .u8 (a.toNat : Int), .int .u8 (b.toNat : Int)] := by simp [hρ _ _ h1, hρ _ _ h2]
  have e : ((maxB a b).toNat : Int) = if (b.toNat : Int) > (a.toNat : Int) then (b.toNat : Int) else (a.toNat : Int) := by
    unfold maxB
    by_cases h : a < b
    · rw [if_pos h, if_pos (by have := UInt8.lt_iff_toNat_lt.1 h; omega)]
    · rw [if_neg h, if_neg (by have := mt UInt8.lt_iff_toNat_lt.2 h; omega)]
  rw [e]
  simp only [execOp, resolve, e3, Sem.run_bind, Sem.run_pure, Result.andThen, invoke, builtin, Builtin.max_, List.foldlM_cons, List.foldlM_nil, Builtin.max2]

end Go.Ow

/-
  What is proved here: bytes of a text are counted by the library's own entry; over OwZ.
-/
namespace Go.Ow
open Go.RowKit
set_option linter.unusedVariables false
set_option linter.unusedSimpArgs false
variable {x : Cx} {l : Slots} {own : List Own} {H : Heaplet} {ty : TypeId}

theorem bytesOf_toNat (m : List UInt8) : Lib.bytesOf (m.map fun b => (b.toNat : Int)) = m := by
  unfold Lib.bytesOf
  rw [List.map_map]
  conv => rhs; rw [← List.map_id m]
  refine List.map_congr_left (fun b _ => ?_)
  simp
theorem run_bytesOf {P : Program} {w : World} {v : Value} {m : List UInt8} (hw : Agrees H w) (hs : IsSlice H RU8 1 v m) : (Extern.Bytes.bytesOf v).run P w = .ok ⟨m.toArray⟩ w := by
  obtain ⟨ao, cap, rfl, h1, h2, h3, h4, h5⟩ := hs
  cases ao with
  | none =>
    have : m = [] := List.length_eq_zero_iff.1 (by have := h4 rfl; omega)
    subst this; rfl
  | some a =>
    have hl := Lib.run_loadBytesX (P := P) w (m.map fun b => (b.toNat : Int)) a .empty (fun j y hy => by
      rw [List.getElem?_map] at hy
      cases hj : m[j]? with
      | none => rw [hj] at hy; cases hy
      | some b =>
        rw [hj] at hy
        obtain rfl := Option.some.inj hy
        obtain ⟨bb, o, cs, e1, -, e3, e4⟩ := h5 j b hj
        obtain rfl := Option.some.inj e1
        obtain rfl : cs = [.int .u8 (b.toNat : Int)] := e3
        have := hw _ _ _ (e4 0 _ rfl)
        rw [add_lit]
        simpa using this)
    rw [List.length_map, bytesOf_toNat] at hl
    show (Extern.Bytes.loadBytes a m.length .empty).run P w = _
    rw [hl]
    simp
theorem run_count {P : Program} {w : World} {v : Value} {m : List UInt8} {c : UInt8} (hw : Agrees H w) (hs : IsSlice H RU8 1 v m) :
    (Extern.BytealgCount.count #[v, .int .u8 (c.toNat : Int)]).run P w = .ok (.int .i64 ((cntB m c : Nat) : Int)) w := by
  obtain ⟨ao, cap, rfl, h1, h2, h3, h4, h5⟩ := hs
  have hb : (Extern.Bytes.bytesOf (.slice ao m.length cap)).run P w = .ok ⟨m.toArray⟩ w := by
    cases ao with
    | none =>
      have : m = [] := List.length_eq_zero_iff.1 (by have := h4 rfl; omega)
      subst this; rfl
    | some a =>
      have hl := Lib.run_loadBytesX (P := P) w (m.map fun b => (b.toNat : Int)) a .empty (fun j y hy => by
        rw [List.getElem?_map] at hy
        cases hj : m[j]? with
        | none => rw [hj] at hy; cases hy
        | some b =>
          rw [hj] at hy
          obtain rfl := Option.some.inj hy
          obtain ⟨bb, o, cs, e1, -, e3, e4⟩ := h5 j b hj
          obtain rfl := Option.some.inj e1
          obtain rfl : cs = [.int .u8 (b.toNat : Int)] := e3
          have := hw _ _ _ (e4 0 _ rfl)
          rw [add_lit]
          simpa using this)
      rw [List.length_map, bytesOf_toNat] at hl
      show (Extern.Bytes.loadBytes a m.length .empty).run P w = _
      rw [hl]
      simp
  change Sem.run P (do
    let b ← Extern.Bytes.bytesOf (.slice ao m.length cap)
    let c' ← Extern.Bytes.asByte (.int .u8 (c.toNat : Int))
    pure (goInt (b.foldl (fun n x => if x == c' then n + 1 else n) (0 : Nat)))) w = _
  simp only [Sem.run_bind, hb, Extern.Bytes.asByte, Sem.run_pure, Result.andThen]
  have : (c.toNat : Int).toNat.toUInt8 = c := by simp
  rw [this]
  congr 1
  unfold goInt cntB
  congr 1
  rw [Lib.foldl_data]
  suffices H : ∀ (l : List UInt8) (k : Nat), l.foldl (fun (n : Int) x => if x == c then n + 1 else n) (k : Int) = ((l.foldl (fun n x => if x == c then n + 1 else n) k : Nat) : Int) from H m 0
  intro l
  induction l with
  | nil => intro k; rfl
  | cons b l ih =>
    intro k
    simp only [List.foldl_cons]
    split
    · exact ih (k + 1)
    · exact ih k
theorem R.countB {p q : Operand} {f : FuncId} {fn : Func} {m : List UInt8} {c : UInt8} {v : Value} {ts : Array TypeId} (hf : x.P.funcs[f]? = some fn) (hname : (fn.name == "runtime.NumGoroutine") = false) (hb : fn.body.isNone = true)
    (hn : Extern.findNext fn = none) (he : Extern.find fn = some Extern.BytealgCount.count) (h1 : evo l p = some v) (hs : IsSlice H RU8 1 v m) (h2 : evo l q = some (.int .u8 (c.toNat : Int))) :
    Runs x (.call ⟨.value (.func f), #[p, q], ts⟩) ty l own H (.int .i64 ((cntB m c : Nat) : Int)) := fun ρ w _ _ _ _ hρ hm => by
  have e3 : Array.map ρ #[p, q] = #[v, .int .u8 (c.toNat : Int)] := by simp [hρ _ _ h1, hρ _ _ h2]
  have e1 : ρ (.func f) = .func (.func f) #[] #[] := hρ _ _ rfl
  simp only [execOp, resolve, e1, e3, Deferred.ofValue, Sem.run_bind, Sem.run_pure, Result.andThen, invoke]
  have := run_callFunc_extern hf hname hb hn he #[v, .int .u8 (c.toNat : Int)] w
  rw [run_count hm.1 hs] at this
  simpa [Result.andThen] using this
end Go.Ow

/-
  What is proved here: new memory whose bytes are not told (bytealg.MakeNoZero); over OwZB.
-/
namespace Go.Ow
open Go.RowKit
set_option linter.unusedVariables false
set_option linter.unusedSimpArgs false
open Go.Lib

theorem digits_bytes : ∀ (n t : Nat) (acc : Array Value) (la : List UInt8), acc.toList = bvs la → ∃ L : List UInt8, (Extern.BytealgMakeNoZero.digits n t acc).toList = bvs L ∧ L.length = la.length + n
  | 0, t, acc, la, h => ⟨la, h, rfl⟩
  | n + 1, t, acc, la, h => by
    obtain ⟨L, h1, h2⟩ := digits_bytes n (t / 256) (acc.push (.int .u8 (Int.ofNat (t % 256)))) (la ++ [UInt8.ofNat t]) (by
      rw [Array.toList_push, h]
      simp [bvs, UInt8.toNat_ofNat'])
    exact ⟨L, h1, by rw [h2]; simp; omega⟩
theorem run_mnz {P : Program} (w : World) (ps : Array TypeId) (t e : TypeId) (ht : P.underlying t = some (.slice e)) (n : Nat) (hn : n ≤ 281474976710656) :
    ∃ (cs : Array Value) (L : List UInt8), (Extern.BytealgMakeNoZero.makeNoZero ps #[t] #[.int .i64 n]).run P w = .ok (.slice (some ⟨w.heap.size, 0, none⟩) n cs.size) (w.drew.drew.alloc (.cells cs e)) ∧ n ≤ cs.size ∧ cs.size ≤ maxLen ∧ cs.toList = bvs L ∧ L.length = cs.size := by
  have h1 : ¬ (n : Int) < 0 := by omega
  have h2 : ¬ (281474976710656 : Int) < (n : Int) := by omega
  obtain ⟨B, hB⟩ : ∃ B : Nat, (Extern.BytealgMakeNoZero.makeNoZero ps #[t] #[.int .i64 n]).run P w = .ok (.slice (some ⟨w.heap.size, 0, none⟩) n (grownCap w n 0 e)) (w.drew.drew.alloc (.cells (Extern.BytealgMakeNoZero.digits (grownCap w n 0 e) B #[]) e)) := by
    obtain ⟨q, hf, hdef⟩ : ∃ q : Question, q.forced = false ∧ Extern.BytealgMakeNoZero.makeNoZero ps #[t] #[.int .i64 n] =
      (do
        let .slice elem ← underlying t | stuck "bytealg.MakeNoZero: slice type expected"
        if (n : Int) < 0 || (n : Int) > 2 ^ 48 then runtimePanic (.error "makeslice: len out of range")
        let cap ← choose (.appendCap (n : Int).toNat 0 elem)
        askRoom cap
        let bytes ← choose q
        let a ← newRow elem (Extern.BytealgMakeNoZero.digits cap bytes #[])
        pure (.slice (some a) (n : Int).toNat cap)) := ⟨_, rfl, rfl⟩
    refine ⟨q.cut (w.tape (w.drawn + 1) q), ?_⟩
    rw [hdef]
    have ha : ∀ a b c, (Question.appendCap a b c).forced = false := fun _ _ _ => rfl
    simp [run_underlying ht, h1, h2, ha, hf, newRow, size_digits, grownCap]
  obtain ⟨L, g1, g2⟩ := digits_bytes (grownCap w n 0 e) B #[] [] rfl
  have hs : (Extern.BytealgMakeNoZero.digits (grownCap w n 0 e) B #[]).size = grownCap w n 0 e := by rw [size_digits]; simp
  refine ⟨Extern.BytealgMakeNoZero.digits (grownCap w n 0 e) B #[], L, by rw [hs]; exact hB, ?_, ?_, g1, ?_⟩
  · rw [hs]; exact grownCap_ge w n 0 e
  · rw [hs]; exact grownCap_le_maxLen w n 0 e (by unfold maxLen; omega)
  · rw [g2, hs]; simp

variable {x : Cx} {ops : Array Oper} {Q : Exit → Act → World → Prop} {rest : List Oper} {l : Slots} {own : List Own} {H HF : Heaplet}
variable {ty : TypeId} {d : Nat} {pos : String} {aft : Array Edge}
theorem JL.mkNZ {p : Operand} {f : FuncId} {fn : Func} {t E : TypeId} {N : Nat} {ts : Array TypeId} (hf : x.P.funcs[f]? = some fn) (hname : (fn.name == "runtime.NumGoroutine") = false) (hb : fn.body.isNone = true)
    (hn : Extern.findNext fn = none) (hu : x.P.underlying t = some (.slice E)) (he : Extern.find fn = some (Extern.BytealgMakeNoZero.makeNoZero fn.params #[t])) (h1 : evo l p = some (.int .i64 (N : Int))) (hN : N ≤ LIM) (hd : Nat.blt d x.n = true)
    (h : ∀ ao cap L K', L.length = N → RowOf HF RU8 x.w0.heap.size E 1 (.slice ao N cap) L K' → JL x ops Q rest ((d, .slice ao N cap) :: l) (K' :: own) H) :
    JL x ops Q (⟨some d, .call ⟨.value (.func f), #[p], ts⟩, ty, pos, aft, none⟩ :: rest) l own H := fun a w hh => by
  simp only [wpLs, wanted_none, if_true]
  refine ⟨fun _ _ => trivial, ?_⟩
  obtain ⟨cs, L, g1, g2, g3, g4, g5⟩ := run_mnz (P := x.P) w fn.params t E hu N (by simp only [LIM] at hN; omega)
  have hrun : (execOp a.eval ⟨some d, .call ⟨.value (.func f), #[p], ts⟩, ty, pos, aft, none⟩).run x.P w = .ok (.value (.slice (some ⟨w.heap.size, 0, none⟩) N cs.size)) (w.drew.drew.alloc (.cells cs E)) := by
    have e3 : Array.map a.eval #[p] = #[.int .i64 (N : Int)] := by simp [eval_of hh h1]
    have e1 : a.eval (.func f) = .func (.func f) #[] #[] := eval_of hh (o := .func f) rfl
    simp only [execOp, resolve, e1, e3, Deferred.ofValue, Sem.run_bind, Sem.run_pure, Result.andThen, invoke]
    have := run_callFunc_extern hf hname hb hn he #[.int .i64 (N : Int)] w
    rw [g1] at this
    simpa [Result.andThen] using this
  rw [semAt_of rfl, hrun]
  have hm2 : Mem x.w0 x.H0 x.S own.flatten H w.drew.drew := hh.mem.drew.drew
  refine h (some ⟨w.heap.size, 0, none⟩) cs.size (L.take N) [(w.heap.size, .cells cs E (0, 0))] (by rw [List.length_take]; omega)
    ⟨bvs (L.take N), ⟨by simp [bvs], .inr ⟨w.heap.size, cs.size, cs, by rw [List.length_take, Nat.min_eq_left (by omega)], rfl, hh.mem.kept.size, by rw [List.length_take]; omega, g3, by simp, ?_⟩⟩, Flat.bytes _, (Flat.bytes (H := H) _).one' RU8.one⟩ _ _ (Holds.put (x := x) (l := l) ?_ hd _)
  · rw [g4]; simp [bvs, List.map_take]
  · exact ⟨hh.size, hh.ds, hh.slots, by simpa using hm2.go0 (K' := [[(w.heap.size, .cells cs E (0, 0))]]) (by simpa using Mem.alloc hm2.agr (.cells cs E (0, 0)))⟩
/-! ### The first elements of an own row, with no room behind them -/
theorem RowOf.cutc {α : Type} {R : Rep α} {B size : Nat} {E : TypeId} {v : Value} {m m' : List α} {K : Own} {b : Int} (h : RowOf HF R B E size v m K) (hm : m' = cut m 0 b) (hab : (0 : Int) ≤ 0 ∧ 0 ≤ b ∧ b ≤ m.length) :
    ∃ v' cap ao', (∃ ao, v = .slice ao m.length cap ∧ b ≤ cap ∧ v' = sliced ao (0 : Int).toNat b.toNat b.toNat size) ∧ v' = .slice ao' m'.length m'.length ∧ RowOf HF R B E size v' m' K := by
  have hp := RowOf.pre h hm hab
  have hl : m'.length = b.toNat := by subst hm; simp only [cut, List.length_take, List.length_drop]; omega
  obtain ⟨cl, ⟨-, q⟩, -, -⟩ := h
  rcases q with ⟨q1, q2, rfl⟩ | ⟨g, c, cur, q1, rfl, q3, q4, q5, q6, q7⟩
  · have hb : b = 0 := by have := hab.2.2; omega
    have hm0 : m' = [] := List.length_eq_zero_iff.1 (by rw [hl, hb]; rfl)
    subst hb hm0
    exact ⟨_, 0, none, ⟨none, by rw [q1, q2], Int.le_refl _, rfl⟩, by simp [sliced], by
      have : sliced (none : Option Addr) (0 : Int).toNat (0 : Int).toNat (0 : Int).toNat size = .slice none 0 0 := by simp [sliced]
      rw [this]; exact RowOf.nil _ _ _ _ _⟩
  · have e3 : ∀ c : Nat, sliced (some (⟨g, 0, none⟩ : Addr)) (0 : Int).toNat b.toNat c size = .slice (some ⟨g, 0, none⟩) b.toNat c := fun c => by simp [sliced]
    obtain ⟨v1, cap, -, -, ⟨ao, e1, -, e2⟩, cells, ⟨h0, h1⟩, hf, ho⟩ := hp
    rw [q1] at e1; simp only [Value.slice.injEq] at e1
    obtain ⟨rfl, -, rfl⟩ := e1
    refine ⟨_, c, some ⟨g, 0, none⟩, ⟨_, q1, by have := hab.2.2; omega, rfl⟩, by rw [e3, hl], cells, ⟨h0, .inr ⟨g, b.toNat, cur, by rw [e3, hl], rfl, q3, by omega, by have := hab.2.2; omega, Nat.le_trans (Nat.mul_le_mul_right _ (by have := hab.2.2; omega)) q6, ?_⟩⟩, hf, ho⟩
    rcases h1 with ⟨h1, -⟩ | ⟨g', c', cur', h1, h2, -, -, -, -, h7⟩
    · rw [e2, e3] at h1; cases h1
    · simp only [List.cons.injEq, Prod.mk.injEq, Obj.cells.injEq] at h2
      obtain ⟨⟨-, rfl, -⟩, -⟩ := h2
      exact h7
end Go.Ow

/-
  What is proved here: iterators that are functions of the program, with cells of their own; over OwZC.
-/
namespace Go.Ow
open Go.RowKit
set_option linter.unusedVariables false
set_option linter.unusedSimpArgs false

variable {x : Cx} {ops : Array Oper} {Q : Exit → Act → World → Prop} {rest : List Oper} {l : Slots} {own : List Own} {H HF : Heaplet}
variable {ty : TypeId} {d : Nat} {pos : String} {aft : Array Edge}

end Go.Ow

/-
  What is proved here: memory that callees have made is taken back, to be written in: the law's memory of the beginning is set anew; cells of whole numbers may turn, headers stay; over OwZD.
-/
namespace Go.Ow
open Go.RowKit
set_option linter.unusedVariables false
set_option linter.unusedSimpArgs false

variable {x : Cx} {ops : Array Oper} {Q : Exit → Act → World → Prop} {rest : List Oper} {l : Slots} {own : List Own} {H HF : Heaplet}
variable {ty : TypeId} {d : Nat} {pos : String} {aft : Array Edge} {p q : Operand}

/-! ### Memory that is taken back -/
/-- the state, spelled anew: slots that are read no more are forgotten -/
theorem JC.tidy {c : Code} {l' : Slots} {own' : List Own} (hl : Sub l' l) (ho : own' = own) (h : JC x c Q l' own' H) : JC x c Q l own H := by
  subst ho; exact JC.sub hl h
theorem JC.tidyP {c : Code} {l' : Slots} {own' rst : List Own} (hl : Sub l' l) (hp : own.flatten.Perm (own'.flatten ++ rst.flatten)) (h : JC x c Q l' own' H) : JC x c Q l own H := fun a w hh => by
  have hh' := hh.sub hl
  exact h a w ⟨hh'.size, hh'.ds, hh'.slots, (hh'.mem.perm hp).sub (List.sublist_append_left _ _)⟩
end Go.Ow

/-
  What is proved here: memory that callees have made is taken back within a region, once and once more; over OwZE.
-/
namespace Go.Ow
open Go.RowKit
set_option linter.unusedVariables false
set_option linter.unusedSimpArgs false

variable {x : Cx} {ops : Array Oper} {Q : Exit → Act → World → Prop} {rest : List Oper} {l : Slots} {own : List Own} {H HF : Heaplet}

end Go.Ow

/-
  What is proved here: many steps in one: a function that carries out control, and operations that compute or touch own blocks; over the rules of before.
-/
namespace Go.Ow
open Go.RowKit
set_option linter.unusedVariables false
set_option linter.unusedSimpArgs false

/-! ### What is known of the program's types -/
structure Tab where
  shp : List (Nat × (Bool × Nat))
  fof : List (Nat × (Nat × Nat))
  zer : List (Nat × Value)
  plc : List (Nat × List (Nat × Nat))
def tl {β : Type} (i : Nat) : List (Nat × β) → Option β
  | [] => none
  | (k, v) :: r => bif Nat.beq k i then some v else tl i r
def tl2 (i j : Nat) : List (Nat × (Nat × Nat)) → Option Nat
  | [] => none
  | (k, q, v) :: r => bif Nat.beq k i && Nat.beq q j then some v else tl2 i j r
def Each {α : Type} (p : α → Prop) : List α → Prop
  | [] => True
  | a :: r => p a ∧ Each p r
structure Tab.Ok (tb : Tab) (P : Program) : Prop where
  shp : Each (fun e => shapeOf P e.1 = some e.2) tb.shp
  fof : Each (fun e => fieldOff P e.1 e.2.1 = some e.2.2) tb.fof
  zer : Each (fun e => zeroOf P e.1 = some e.2) tb.zer
  plc : Each (fun e => placesOf P e.1 = some e.2) tb.plc
theorem tl_ok {β : Type} {p : Nat → β → Prop} {i : Nat} {v : β} : ∀ {l : List (Nat × β)}, Each (fun e => p e.1 e.2) l → tl i l = some v → p i v
  | [], _, h => by cases h
  | (k, u) :: r, h, e => by
    simp only [tl] at e
    cases hb : Nat.beq k i with
    | true => rw [hb] at e; have := Nat.eq_of_beq_eq_true hb; subst this; cases e; exact h.1
    | false => rw [hb] at e; exact tl_ok h.2 e
theorem tl2_ok {p : Nat → Nat → Nat → Prop} {i j v : Nat} : ∀ {l : List (Nat × (Nat × Nat))}, Each (fun e => p e.1 e.2.1 e.2.2) l → tl2 i j l = some v → p i j v
  | [], _, h => by cases h
  | (k, q, u) :: r, h, e => by
    simp only [tl2] at e
    cases hb : Nat.beq k i with
    | true =>
      cases hc : Nat.beq q j with
      | true => rw [hb, hc] at e; have := Nat.eq_of_beq_eq_true hb; have := Nat.eq_of_beq_eq_true hc; subst_vars; cases e; exact h.1
      | false => rw [hb, hc] at e; exact tl2_ok h.2 e
    | false => rw [hb] at e; exact tl2_ok h.2 e

/-! ### Operations that compute -/
def evs (l : Slots) : List Operand → Option (List Value)
  | [] => some []
  | o :: r => match evo l o with
    | some v => match evs l r with
      | some vs => some (v :: vs)
      | none => none
    | none => none
theorem evs_ok {l : Slots} : ∀ {os : List Operand} {vs : List Value}, evs l os = some vs → os.mapM (evo l) = some vs
  | [], vs, h => by simp [evs] at h; simp [h]
  | o :: r, vs, h => by
    simp only [evs] at h
    split at h
    · rename_i v hv
      split at h
      · rename_i us hu
        cases h; simp [List.mapM_cons, hv, evs_ok hu]
      · cases h
    · cases h
def evp (l : Slots) : List (Nat × Operand) → Option (List (Nat × Value))
  | [] => some []
  | (k, o) :: r => match evo l o with
    | some v => match evp l r with
      | some vs => some ((k, v) :: vs)
      | none => none
    | none => none
theorem evp_ok {l : Slots} : ∀ {os : List (Nat × Operand)} {vs : List (Nat × Value)}, evp l os = some vs → os.mapM (fun p => (evo l p.2).map (fun u => (p.1, u))) = some vs
  | [], vs, h => by simp [evp] at h; simp [h]
  | (k, o) :: r, vs, h => by
    simp only [evp] at h
    split at h
    · rename_i v hv
      split at h
      · rename_i us hu
        cases h; simp [List.mapM_cons, hv, evp_ok hu]
      · cases h
    · cases h
/-- a list, its spine carried out -/
def spine {α β : Type} : List α → (List α → Option β) → Option β
  | [], k => k []
  | a :: r, k => spine r (fun r' => k (a :: r'))
theorem spine_eq {α β : Type} : ∀ (l : List α) (k : List α → Option β), spine l k = k l
  | [], _ => rfl
  | a :: r, k => by unfold spine; rw [spine_eq r]

def binI (op : BinOp) (m n : Int) : Option Value := match op with
  | .add => some (.int .i64 (w64 (m + n)))
  | .sub => some (.int .i64 (w64 (m - n)))
  | .mul => some (.int .i64 (w64 (m * n)))
  | .lss => some (.bool (decide (m < n)))
  | .leq => some (.bool (decide (m ≤ n)))
  | .gtr => some (.bool (decide (n < m)))
  | .geq => some (.bool (decide (n ≤ m)))
  | .eql => some (.bool (decide (m = n)))
  | .neq => some (.bool (!decide (m = n)))
  | _ => none

/-- what an operation yields: the value, the hints that are left, what must be one -/
def vop (tb : Tab) (own : List Own) (l : Slots) (hs : List Nat) : Op → Option (Value × List Nat × List Nat × List Nat)
  | .move o => match evo l o with
    | some v => some (v, hs, [], [])
    | none => none
  | .assign o => match evo l o with
    | some v => some (v, hs, [], [])
    | none => none
  | .nilCheck o => match evo l o with
    | some (.pointer (some a)) => some (.pointer (some a), hs, [], [])
    | _ => none
  | .pick c a b => match evo l c with
    | some (.bool true) => match evo l a with
      | some v => some (v, hs, [], [])
      | none => none
    | some (.bool false) => match evo l b with
      | some v => some (v, hs, [], [])
      | none => none
    | _ => none
  | .unOp .not _ o => match evo l o with
    | some (.bool b) => some (.bool (!b), hs, [], [])
    | _ => none
  | .extract o i => match evo l o with
    | some (.tuple vs) => match vs.toList[i]? with
      | some v => some (v, hs, [], [])
      | none => none
    | _ => none
  | .binOp op _ a b _ => match evo l a with
    | some (.int .i64 m) => match evo l b with
      | some (.int .i64 n) => match binI op m n with
        | some v => some (v, hs, [], [])
        | none => none
      | _ => none
    | _ => none
  | .fieldAddr S o k => match evo l o with
    | some (.pointer (some ⟨b, q, none⟩)) => match tl2 S k tb.fof with
      | some n => some (.pointer (some ⟨b, q + n, none⟩), hs, [], [])
      | none => none
    | _ => none
  | .load T o => match evo l o with
    | some (.pointer (some ⟨b, q, none⟩)) => match hs with
      | i :: hs' => match own[i]? with
        | some [(b', .cells cur t fr)] => match tl T tb.shp with
          | some (false, _) => match cur.toList[q]? with
            | some v => some (v, hs', [b], [b'])
            | none => none
          | some (true, n) => spine ((cur.toList.drop q).take n) fun vs =>
            bif Nat.beq vs.length n then some (.agg vs.toArray, hs', [b], [b']) else none
          | none => none
        | _ => none
      | [] => none
    | _ => none
  | .makeFunc fn fs cs => match evs l fs.toList with
    | some vf => match evs l cs.toList with
      | some vc => some (.func fn vf.toArray vc.toArray, hs, [], [])
      | none => none
    | none => none
  | .build T parts => match evp l parts.toList with
    | some vs => match tl T tb.zer with
      | some z => match tl T tb.plc with
        | some places => bif vs.all (fitsP places z.cells.toList.length) then spine (setP places z.cells.toList vs) fun cs => some (.agg cs.toArray, hs, [], []) else none
        | none => none
      | none => none
    | none => none
  | _ => none

theorem vop_noDefer {tb : Tab} {own : List Own} {l : Slots} {hs : List Nat} {op : Op} {r : Value × List Nat × List Nat × List Nat} (h : vop tb own l hs op = some r) : noDefer op = true := by
  cases op <;> first | rfl | (simp [vop] at h)
theorem vop_ok {x : Cx} {tb : Tab} (ht : tb.Ok x.P) {own : List Own} {l : Slots} {H : Heaplet} {hs hs' e1 e2 : List Nat} {op : Op} {ty : TypeId} {v : Value}
    (h : vop tb own l hs op = some (v, hs', e1, e2)) (he : e1 = e2) : Runs x op ty l own H v := by
  unfold vop at h
  split at h
  · split at h <;> first | cases h | skip
    rename_i hv; exact R.move hv
  · split at h <;> first | cases h | skip
    rename_i hv; exact R.assign hv
  · split at h <;> first | cases h | skip
    rename_i hv; exact R.nilCheck hv
  · split at h
    · rename_i hc; split at h <;> first | cases h | skip
      rename_i hv; exact R.pickT hc hv
    · rename_i hc; split at h <;> first | cases h | skip
      rename_i hv; exact R.pickF hc hv
    · cases h
  · split at h <;> first | cases h | skip
    rename_i hv; exact R.not hv
  · split at h
    · rename_i hv; split at h <;> first | cases h | skip
      rename_i hi; exact R.extract hv (by simpa using hi)
    · cases h
  · split at h
    · rename_i h1
      split at h
      · rename_i h2
        split at h
        · rename_i h3
          cases h
          unfold binI at h3
          split at h3 <;> first | (cases h3; done) | skip
          · cases h3; exact R.add_i h1 h2
          · cases h3; exact R.sub_i h1 h2
          · cases h3; exact R.mul_i h1 h2
          · cases h3; exact R.lss_i h1 h2
          · cases h3; exact R.leq_i h1 h2
          · cases h3; exact R.gtr_i h1 h2
          · cases h3; exact R.geq_i h1 h2
          · cases h3; exact R.eql_i h1 h2
          · cases h3; exact R.neq_i h1 h2
        · cases h
      · cases h
    · cases h
  · split at h
    · rename_i h1
      split at h
      · rename_i h2
        cases h
        exact R.fa (tl2_ok (p := fun a b c => fieldOff x.P a b = some c) ht.fof h2) h1
      · cases h
    · cases h
  · split at h
    · rename_i h1
      split at h
      · split at h
        · rename_i h2
          split at h
          · rename_i h3
            split at h
            · rename_i h4
              cases h
              have hb := List.cons.inj he
              rw [← hb.1] at h2
              exact R.ldo _ (tl_ok (p := fun a b => shapeOf x.P a = some b) ht.shp h3) h1 h2 h4
            · cases h
          · rename_i h3
            rw [spine_eq] at h
            cases hb : Nat.beq (List.length (List.take _ (List.drop _ _))) _ with
            | true =>
              rw [hb] at h
              cases h
              have hb' := List.cons.inj he
              rw [← hb'.1] at h2
              exact R.ldoN _ (tl_ok (p := fun a b => shapeOf x.P a = some b) ht.shp h3) h1 h2 rfl (Nat.eq_of_beq_eq_true hb)
            | false => rw [hb] at h; cases h
          · cases h
        · cases h
      · cases h
    · cases h
  · split at h
    · rename_i h1
      split at h
      · rename_i h2
        cases h
        exact R.func (evs_ok h1) (evs_ok h2)
      · cases h
    · cases h
  · split at h
    · rename_i h1
      split at h
      · rename_i h2
        split at h
        · rename_i h3
          cases hb : List.all _ (fitsP _ _) with
          | true =>
            rw [hb] at h
            rw [cond_true, spine_eq] at h
            cases h
            exact R.bldP (tl_ok (p := fun a b => zeroOf x.P a = some b) ht.zer h2) (tl_ok (p := fun a b => placesOf x.P a = some b) ht.plc h3) (evp_ok h1) hb rfl
          | false => rw [hb] at h; cases h
        · cases h
      · cases h
    · cases h
  · cases h

/-! ### Steps -/
inductive Cf where
  | c (c : Code)
  | l (ops : Array Oper) (rest : List Oper)
  | n (e : Exit)
/-- what waits -/
inductive KK where
  | s (d : Code)
  | b (id : Nat)
  | k (K : Act → World → Prop)
@[reducible] def den (x : Cx) : List KK → (Exit → Act → World → Prop) → (Exit → Act → World → Prop)
  | [], Q => Q
  | .s d :: ks, Q => Exit.then (d.wpIn (Fw x.r) 0 x.P (den x ks Q)) (den x ks Q)
  | .b id :: ks, Q => Exit.inBlock id (den x ks Q)
  | .k K :: ks, Q => Exit.then K (den x ks Q)
structure RS where
  cf : Cf
  ks : List KK
  l : Slots
  o : List Own
  hs : List Nat
  e1 : List Nat
  e2 : List Nat
def Goal (x : Cx) (Q : Exit → Act → World → Prop) (H : Heaplet) (s : RS) : Prop := match s.cf with
  | .c c => JC x c (den x s.ks Q) s.l s.o H
  | .l ops rest => JL x ops (den x s.ks Q) rest s.l s.o H
  | .n e => JN x (den x s.ks Q e) s.l s.o H
def setK {β : Type} : List Own → Nat → Own → (List Own → Option β) → Option β
  | [], _, _, _ => none
  | _ :: r, 0, s, k => k (s :: r)
  | a :: r, i + 1, s, k => setK r i s (fun r' => k (a :: r'))
theorem setK_eq {β : Type} : ∀ {own : List Own} {i : Nat} {s : Own} {k : List Own → Option β} {r : β}, setK own i s k = some r → k (own.set i s) = some r
  | [], _, _, _, _, h => by cases h
  | _ :: _, 0, _, _, _, h => h
  | a :: r, i + 1, s, k, _, h => setK_eq (own := r) (i := i) (k := fun r' => k (a :: r')) h

def mstep (tb : Tab) (N : Nat) : RS → Option RS
  | ⟨.c .skip, ks, l, o, hs, e1, e2⟩ => some ⟨.n .normal, ks, l, o, hs, e1, e2⟩
  | ⟨.c .ret, ks, l, o, hs, e1, e2⟩ => some ⟨.n .ret, ks, l, o, hs, e1, e2⟩
  | ⟨.c (.exit id), ks, l, o, hs, e1, e2⟩ => some ⟨.n (.exit id), ks, l, o, hs, e1, e2⟩
  | ⟨.c (.seq c d), ks, l, o, hs, e1, e2⟩ => some ⟨.c c, .s d :: ks, l, o, hs, e1, e2⟩
  | ⟨.c (.block id c), ks, l, o, hs, e1, e2⟩ => some ⟨.c c, .b id :: ks, l, o, hs, e1, e2⟩
  | ⟨.c (.region _ ops false), ks, l, o, hs, e1, e2⟩ => some ⟨.l ops ops.toList, ks, l, o, hs, e1, e2⟩
  | ⟨.c (.cond c a b), ks, l, o, hs, e1, e2⟩ => match evo l c with
    | some (.bool true) => some ⟨.c a, ks, l, o, hs, e1, e2⟩
    | some (.bool false) => some ⟨.c b, ks, l, o, hs, e1, e2⟩
    | _ => none
  | ⟨.n .normal, .s d :: ks, l, o, hs, e1, e2⟩ => some ⟨.c d, ks, l, o, hs, e1, e2⟩
  | ⟨.n .normal, .b _ :: ks, l, o, hs, e1, e2⟩ => some ⟨.n .normal, ks, l, o, hs, e1, e2⟩
  | ⟨.n .ret, .s _ :: ks, l, o, hs, e1, e2⟩ => some ⟨.n .ret, ks, l, o, hs, e1, e2⟩
  | ⟨.n .ret, .b _ :: ks, l, o, hs, e1, e2⟩ => some ⟨.n .ret, ks, l, o, hs, e1, e2⟩
  | ⟨.n (.exit id), .s _ :: ks, l, o, hs, e1, e2⟩ => some ⟨.n (.exit id), ks, l, o, hs, e1, e2⟩
  | ⟨.n .ret, .k _ :: ks, l, o, hs, e1, e2⟩ => some ⟨.n .ret, ks, l, o, hs, e1, e2⟩
  | ⟨.n (.exit id), .k _ :: ks, l, o, hs, e1, e2⟩ => some ⟨.n (.exit id), ks, l, o, hs, e1, e2⟩
  | ⟨.n (.exit id'), .b id :: ks, l, o, hs, e1, e2⟩ => bif Nat.beq id' id then some ⟨.n .normal, ks, l, o, hs, e1, e2⟩ else some ⟨.n (.exit id'), ks, l, o, hs, e1, e2⟩
  | ⟨.l ops [], ks, l, o, hs, e1, e2⟩ => some ⟨.n .normal, ks, l, o, hs, e1, e2⟩
  | ⟨.l ops (⟨some d, op, ty, pos, aft, none⟩ :: rest), ks, l, o, hs, e1, e2⟩ => match vop tb o l hs op with
    | some (v, hs', f1, f2) => bif Nat.blt d N then some ⟨.l ops rest, ks, (d, v) :: l, o, hs', f1 ++ e1, f2 ++ e2⟩ else none
    | none => none
  | ⟨.l ops (⟨none, .store T p q, ty, pos, aft, none⟩ :: rest), ks, l, o, hs, e1, e2⟩ => match evo l p with
    | some (.pointer (some ⟨b, k, none⟩)) => match evo l q with
      | some v => match hs with
        | i :: hs' => match o[i]? with
          | some [(b', .cells cur t (0, 0))] => match tl T tb.shp with
            | some (_, n) => bif Nat.beq v.cells.toList.length n && (v.cells.toList.all (·.oneCell') && Nat.ble (k + n) cur.toList.length) then
                spine (cur.toList.take k ++ v.cells.toList ++ cur.toList.drop (k + n)) fun cs => setK o i [(b', .cells cs.toArray t (0, 0))] fun o' => some ⟨.l ops rest, ks, l, o', hs', b :: e1, b' :: e2⟩
              else none
            | none => none
          | _ => none
        | [] => none
      | none => none
    | _ => none
  | ⟨.l ops (⟨dst, op, ty, pos, aft, some (j, b)⟩ :: rest), ks, l, o, hs, e1, e2⟩ => match ops.toList[j]? with
    | some oj => match oj.dst with
      | some t => match lk l t with
        | some (.bool true) => bif b then some ⟨.l ops (⟨dst, op, ty, pos, aft, none⟩ :: rest), ks, l, o, hs, e1, e2⟩ else match dst with
          | some d => bif Nat.blt d N then some ⟨.l ops rest, ks, (d, undef) :: l, o, hs, e1, e2⟩ else none
          | none => none
        | some (.bool false) => bif b then (match dst with
          | some d => bif Nat.blt d N then some ⟨.l ops rest, ks, (d, undef) :: l, o, hs, e1, e2⟩ else none
          | none => none) else some ⟨.l ops (⟨dst, op, ty, pos, aft, none⟩ :: rest), ks, l, o, hs, e1, e2⟩
        | some (.tuple ⟨[]⟩) => match dst with
          | some d => bif Nat.blt d N then some ⟨.l ops rest, ks, (d, undef) :: l, o, hs, e1, e2⟩ else none
          | none => none
        | _ => none
      | none => none
    | none => none
  | _ => none

theorem vop_len {tb : Tab} {own : List Own} {l : Slots} {hs hs' e1 e2 : List Nat} {op : Op} {v : Value} (h : vop tb own l hs op = some (v, hs', e1, e2)) : e1.length = e2.length := by
  cases op with
  | load T o =>
    simp only [vop] at h
    repeat' (first | (split at h) | (cases h; done))
    all_goals first | (cases h; rfl) | (cases h; done) | skip
    rw [spine_eq] at h
    cases hb : Nat.beq (List.length (List.take _ (List.drop _ _))) _ <;> rw [hb] at h <;> cases h
    rfl
  | build T ps =>
    simp only [vop] at h
    repeat' (first | (split at h) | (cases h; done))
    all_goals first | (cases h; done) | skip
    cases hb : List.all _ (fitsP _ _) with
    | true => rw [hb] at h; rw [cond_true, spine_eq] at h; cases h; rfl
    | false => rw [hb] at h; cases h
  | unOp q t p =>
    cases q <;> simp only [vop] at h
    all_goals first
      | (cases h; done)
      | (split at h
         · cases h; rfl
         · cases h)
  | _ =>
    simp only [vop] at h
    repeat' (first | (split at h) | (cases h; done))
    all_goals first | (cases h; rfl) | (cases h; done)
/-- a step is right, where what must be one is one -/
theorem mstep_ok {x : Cx} {tb : Tab} (ht : tb.Ok x.P) {Q : Exit → Act → World → Prop} {H : Heaplet} {s s' : RS} (h : mstep tb x.n s = some s') (he : s'.e1 = s'.e2) :
    s.e1 = s.e2 ∧ (Goal x Q H s' → Goal x Q H s) := by
  unfold mstep at h
  split at h
  · cases h; exact ⟨he, JC.skip⟩
  · cases h; exact ⟨he, JC.ret⟩
  · cases h; exact ⟨he, JC.exit⟩
  · cases h; exact ⟨he, JC.seq⟩
  · cases h; exact ⟨he, JC.block⟩
  · cases h; exact ⟨he, JC.region⟩
  · split at h
    · rename_i hc; cases h; exact ⟨he, JC.condT hc⟩
    · rename_i hc; cases h; exact ⟨he, JC.condF hc⟩
    · cases h
  · cases h; exact ⟨he, JN.next⟩
  · cases h; exact ⟨he, JN.blkN⟩
  · cases h; exact ⟨he, JN.passR⟩
  · cases h; exact ⟨he, JN.blkR⟩
  · cases h; exact ⟨he, JN.passX⟩
  · cases h; exact ⟨he, JN.passR⟩
  · cases h; exact ⟨he, JN.passX⟩
  · rename_i id' id ks l o hs e1 e2
    cases hb : Nat.beq id' id with
    | true => rw [hb] at h; cases h; have := Nat.eq_of_beq_eq_true hb; subst this; exact ⟨he, JN.exitSame⟩
    | false => rw [hb] at h; cases h; exact ⟨he, JN.exitOther hb⟩
  · cases h; exact ⟨he, JL.nil⟩
  · split at h
    · rename_i hv
      cases hb : Nat.blt _ x.n with
      | true =>
        rw [hb] at h; cases h
        have hl := vop_len hv
        obtain ⟨h1, h2⟩ := List.append_inj he hl
        exact ⟨h2, fun g => JL.val hb (vop_noDefer hv) (vop_ok ht hv h1) g⟩
      | false => rw [hb] at h; cases h
    · cases h
  · split at h
    · rename_i h1
      split at h
      · rename_i h2
        split at h
        · split at h
          · rename_i h3
            split at h
            · rename_i h4
              cases hb : (Nat.beq _ _ && (List.all _ (fun z : Value => z.oneCell') && Nat.ble _ _)) with
              | true =>
                rw [hb, cond_true, spine_eq] at h
                have h5 := setK_eq h
                cases h5
                obtain ⟨c1, c2⟩ := List.cons.inj he
                rw [← c1] at h3
                rw [Bool.and_eq_true, Bool.and_eq_true] at hb
                refine ⟨c2, fun g => JL.store _ (tl_ok (p := fun a b => shapeOf x.P a = some b) ht.shp h4) h1 h2 h3 (by simpa using Nat.eq_of_beq_eq_true hb.1) hb.2.1 (by simpa using Nat.le_of_ble_eq_true hb.2.2) ?_⟩
                rw [c1]; exact g
              | false => rw [hb] at h; cases h
            · cases h
          · cases h
        · cases h
      · cases h
    · cases h
  · split at h
    · rename_i hj
      split at h
      · rename_i hd
        split at h
        · rename_i hk
          rename_i b _ _ _ _ _ _ _ _ _ _ _ _
          cases b with
          | true => cases h; exact ⟨he, JL.gYes (by simpa using hj) hd hk⟩
          | false =>
            rw [cond_false] at h
            split at h <;> first | (cases h; done) | skip
            cases hb : Nat.blt _ x.n with
            | true => rw [hb] at h; cases h; exact ⟨he, JL.gNo (by simpa using hj) hd hk rfl hb⟩
            | false => rw [hb] at h; cases h
        · rename_i hk
          rename_i b _ _ _ _ _ _ _ _ _ _ _ _
          cases b with
          | false => cases h; exact ⟨he, JL.gYes (by simpa using hj) hd hk⟩
          | true =>
            rw [cond_true] at h
            split at h <;> first | (cases h; done) | skip
            cases hb : Nat.blt _ x.n with
            | true => rw [hb] at h; cases h; exact ⟨he, JL.gNo (by simpa using hj) hd hk rfl hb⟩
            | false => rw [hb] at h; cases h
        · rename_i hk
          split at h <;> first | (cases h; done) | skip
          cases hb : Nat.blt _ x.n with
          | true => rw [hb] at h; cases h; exact ⟨he, JL.gNoU (by simpa using hj) hd hk hb⟩
          | false => rw [hb] at h; cases h
        · cases h
      · cases h
    · cases h
  · cases h

/-- so many steps -/
def mrun (tb : Tab) (N : Nat) : Nat → RS → Option RS
  | 0, s => some s
  | k + 1, s => match mstep tb N s with
    | some s' => mrun tb N k s'
    | none => none
theorem mrun_ok {x : Cx} {tb : Tab} (ht : tb.Ok x.P) {Q : Exit → Act → World → Prop} {H : Heaplet} : ∀ {k : Nat} {s s' : RS}, mrun tb x.n k s = some s' → s'.e1 = s'.e2 →
    s.e1 = s.e2 ∧ (Goal x Q H s' → Goal x Q H s)
  | 0, s, s', h, he => by cases h; exact ⟨he, id⟩
  | k + 1, s, s', h, he => by
    simp only [mrun] at h
    split at h
    · rename_i h1
      obtain ⟨e1, g1⟩ := mrun_ok ht (k := k) h he
      obtain ⟨e2, g2⟩ := mstep_ok ht (H := H) (Q := Q) h1 e1
      exact ⟨e2, fun g => g2 (g1 g)⟩
    · cases h

section runs
variable {x : Cx} {tb : Tab} {Q : Exit → Act → World → Prop} {l l' : Slots} {own own' : List Own} {H : Heaplet} {ks' : List KK} {E : List Nat} {c c' : Code} {ops ops' : Array Oper} {rest rest' : List Oper} {e e' : Exit}
variable {d0 d1 d2 : Code} {i0 i1 i2 : Nat} {k0 k1 k2 : Act → World → Prop}
theorem Run.cc (hs : List Nat) (k : Nat) (ht : tb.Ok x.P) (h : mrun tb x.n k ⟨.c c, [], l, own, hs, [], []⟩ = some ⟨.c c', ks', l', own', [], E, E⟩) (g : JC x c' (den x ks' Q) l' own' H) : JC x c Q l own H := (mrun_ok (Q := Q) ht h rfl).2 g
theorem Run.ccz (hs : List Nat) (k : Nat) (ht : tb.Ok x.P) (h : mrun tb x.n k ⟨.c c, [], l, own, hs, [], []⟩ = some ⟨.c c', [], l', own', [], E, E⟩) (g : JC x c' Q l' own' H) : JC x c Q l own H := (mrun_ok (Q := Q) ht h rfl).2 g
theorem Run.cl (hs : List Nat) (k : Nat) (ht : tb.Ok x.P) (h : mrun tb x.n k ⟨.c c, [], l, own, hs, [], []⟩ = some ⟨.l ops' rest', ks', l', own', [], E, E⟩) (g : JL x ops' (den x ks' Q) rest' l' own' H) : JC x c Q l own H := (mrun_ok (Q := Q) ht h rfl).2 g
theorem Run.clz (hs : List Nat) (k : Nat) (ht : tb.Ok x.P) (h : mrun tb x.n k ⟨.c c, [], l, own, hs, [], []⟩ = some ⟨.l ops' rest', [], l', own', [], E, E⟩) (g : JL x ops' Q rest' l' own' H) : JC x c Q l own H := (mrun_ok (Q := Q) ht h rfl).2 g
theorem Run.cnz (hs : List Nat) (k : Nat) (ht : tb.Ok x.P) (h : mrun tb x.n k ⟨.c c, [], l, own, hs, [], []⟩ = some ⟨.n e', [], l', own', [], E, E⟩) (g : JN x (Q e') l' own' H) : JC x c Q l own H := (mrun_ok (Q := Q) ht h rfl).2 g
theorem Run.llz (hs : List Nat) (k : Nat) (ht : tb.Ok x.P) (h : mrun tb x.n k ⟨.l ops rest, [], l, own, hs, [], []⟩ = some ⟨.l ops' rest', [], l', own', [], E, E⟩) (g : JL x ops' Q rest' l' own' H) : JL x ops Q rest l own H := (mrun_ok (Q := Q) ht h rfl).2 g
theorem Run.lnz (hs : List Nat) (k : Nat) (ht : tb.Ok x.P) (h : mrun tb x.n k ⟨.l ops rest, [], l, own, hs, [], []⟩ = some ⟨.n e', [], l', own', [], E, E⟩) (g : JN x (Q e') l' own' H) : JL x ops Q rest l own H := (mrun_ok (Q := Q) ht h rfl).2 g
theorem Run.cc_s (hs : List Nat) (k : Nat) (ht : tb.Ok x.P) (h : mrun tb x.n k ⟨.c c, [.s d0], l, own, hs, [], []⟩ = some ⟨.c c', ks', l', own', [], E, E⟩) (g : JC x c' (den x ks' Q) l' own' H) : JC x c (Exit.then (d0.wpIn (Fw x.r) 0 x.P Q) Q) l own H := (mrun_ok (Q := Q) ht h rfl).2 g
theorem Run.ccz_s (hs : List Nat) (k : Nat) (ht : tb.Ok x.P) (h : mrun tb x.n k ⟨.c c, [.s d0], l, own, hs, [], []⟩ = some ⟨.c c', [], l', own', [], E, E⟩) (g : JC x c' Q l' own' H) : JC x c (Exit.then (d0.wpIn (Fw x.r) 0 x.P Q) Q) l own H := (mrun_ok (Q := Q) ht h rfl).2 g
theorem Run.cl_s (hs : List Nat) (k : Nat) (ht : tb.Ok x.P) (h : mrun tb x.n k ⟨.c c, [.s d0], l, own, hs, [], []⟩ = some ⟨.l ops' rest', ks', l', own', [], E, E⟩) (g : JL x ops' (den x ks' Q) rest' l' own' H) : JC x c (Exit.then (d0.wpIn (Fw x.r) 0 x.P Q) Q) l own H := (mrun_ok (Q := Q) ht h rfl).2 g
theorem Run.clz_s (hs : List Nat) (k : Nat) (ht : tb.Ok x.P) (h : mrun tb x.n k ⟨.c c, [.s d0], l, own, hs, [], []⟩ = some ⟨.l ops' rest', [], l', own', [], E, E⟩) (g : JL x ops' Q rest' l' own' H) : JC x c (Exit.then (d0.wpIn (Fw x.r) 0 x.P Q) Q) l own H := (mrun_ok (Q := Q) ht h rfl).2 g
theorem Run.cnz_s (hs : List Nat) (k : Nat) (ht : tb.Ok x.P) (h : mrun tb x.n k ⟨.c c, [.s d0], l, own, hs, [], []⟩ = some ⟨.n e', [], l', own', [], E, E⟩) (g : JN x (Q e') l' own' H) : JC x c (Exit.then (d0.wpIn (Fw x.r) 0 x.P Q) Q) l own H := (mrun_ok (Q := Q) ht h rfl).2 g
theorem Run.lc_s (hs : List Nat) (k : Nat) (ht : tb.Ok x.P) (h : mrun tb x.n k ⟨.l ops rest, [.s d0], l, own, hs, [], []⟩ = some ⟨.c c', ks', l', own', [], E, E⟩) (g : JC x c' (den x ks' Q) l' own' H) : JL x ops (Exit.then (d0.wpIn (Fw x.r) 0 x.P Q) Q) rest l own H := (mrun_ok (Q := Q) ht h rfl).2 g
theorem Run.lcz_s (hs : List Nat) (k : Nat) (ht : tb.Ok x.P) (h : mrun tb x.n k ⟨.l ops rest, [.s d0], l, own, hs, [], []⟩ = some ⟨.c c', [], l', own', [], E, E⟩) (g : JC x c' Q l' own' H) : JL x ops (Exit.then (d0.wpIn (Fw x.r) 0 x.P Q) Q) rest l own H := (mrun_ok (Q := Q) ht h rfl).2 g
theorem Run.ll_s (hs : List Nat) (k : Nat) (ht : tb.Ok x.P) (h : mrun tb x.n k ⟨.l ops rest, [.s d0], l, own, hs, [], []⟩ = some ⟨.l ops' rest', ks', l', own', [], E, E⟩) (g : JL x ops' (den x ks' Q) rest' l' own' H) : JL x ops (Exit.then (d0.wpIn (Fw x.r) 0 x.P Q) Q) rest l own H := (mrun_ok (Q := Q) ht h rfl).2 g
theorem Run.llz_s (hs : List Nat) (k : Nat) (ht : tb.Ok x.P) (h : mrun tb x.n k ⟨.l ops rest, [.s d0], l, own, hs, [], []⟩ = some ⟨.l ops' rest', [], l', own', [], E, E⟩) (g : JL x ops' Q rest' l' own' H) : JL x ops (Exit.then (d0.wpIn (Fw x.r) 0 x.P Q) Q) rest l own H := (mrun_ok (Q := Q) ht h rfl).2 g
theorem Run.lnz_s (hs : List Nat) (k : Nat) (ht : tb.Ok x.P) (h : mrun tb x.n k ⟨.l ops rest, [.s d0], l, own, hs, [], []⟩ = some ⟨.n e', [], l', own', [], E, E⟩) (g : JN x (Q e') l' own' H) : JL x ops (Exit.then (d0.wpIn (Fw x.r) 0 x.P Q) Q) rest l own H := (mrun_ok (Q := Q) ht h rfl).2 g
theorem Run.nc_s (hs : List Nat) (k : Nat) (ht : tb.Ok x.P) (h : mrun tb x.n k ⟨.n e, [.s d0], l, own, hs, [], []⟩ = some ⟨.c c', ks', l', own', [], E, E⟩) (g : JC x c' (den x ks' Q) l' own' H) : JN x ((Exit.then (d0.wpIn (Fw x.r) 0 x.P Q) Q) e) l own H := (mrun_ok (Q := Q) ht h rfl).2 g
theorem Run.ncz_s (hs : List Nat) (k : Nat) (ht : tb.Ok x.P) (h : mrun tb x.n k ⟨.n e, [.s d0], l, own, hs, [], []⟩ = some ⟨.c c', [], l', own', [], E, E⟩) (g : JC x c' Q l' own' H) : JN x ((Exit.then (d0.wpIn (Fw x.r) 0 x.P Q) Q) e) l own H := (mrun_ok (Q := Q) ht h rfl).2 g
theorem Run.nl_s (hs : List Nat) (k : Nat) (ht : tb.Ok x.P) (h : mrun tb x.n k ⟨.n e, [.s d0], l, own, hs, [], []⟩ = some ⟨.l ops' rest', ks', l', own', [], E, E⟩) (g : JL x ops' (den x ks' Q) rest' l' own' H) : JN x ((Exit.then (d0.wpIn (Fw x.r) 0 x.P Q) Q) e) l own H := (mrun_ok (Q := Q) ht h rfl).2 g
theorem Run.nlz_s (hs : List Nat) (k : Nat) (ht : tb.Ok x.P) (h : mrun tb x.n k ⟨.n e, [.s d0], l, own, hs, [], []⟩ = some ⟨.l ops' rest', [], l', own', [], E, E⟩) (g : JL x ops' Q rest' l' own' H) : JN x ((Exit.then (d0.wpIn (Fw x.r) 0 x.P Q) Q) e) l own H := (mrun_ok (Q := Q) ht h rfl).2 g
theorem Run.nnz_s (hs : List Nat) (k : Nat) (ht : tb.Ok x.P) (h : mrun tb x.n k ⟨.n e, [.s d0], l, own, hs, [], []⟩ = some ⟨.n e', [], l', own', [], E, E⟩) (g : JN x (Q e') l' own' H) : JN x ((Exit.then (d0.wpIn (Fw x.r) 0 x.P Q) Q) e) l own H := (mrun_ok (Q := Q) ht h rfl).2 g
theorem Run.cnz_k (hs : List Nat) (k : Nat) (ht : tb.Ok x.P) (h : mrun tb x.n k ⟨.c c, [.k k0], l, own, hs, [], []⟩ = some ⟨.n e', [], l', own', [], E, E⟩) (g : JN x (Q e') l' own' H) : JC x c (Exit.then k0 Q) l own H := (mrun_ok (Q := Q) ht h rfl).2 g
theorem Run.cnz_kb (hs : List Nat) (k : Nat) (ht : tb.Ok x.P) (h : mrun tb x.n k ⟨.c c, [.k k0, .b i1], l, own, hs, [], []⟩ = some ⟨.n e', [], l', own', [], E, E⟩) (g : JN x (Q e') l' own' H) : JC x c (Exit.then k0 (Exit.inBlock i1 Q)) l own H := (mrun_ok (Q := Q) ht h rfl).2 g
theorem Run.nnz_kb (hs : List Nat) (k : Nat) (ht : tb.Ok x.P) (h : mrun tb x.n k ⟨.n e, [.k k0, .b i1], l, own, hs, [], []⟩ = some ⟨.n e', [], l', own', [], E, E⟩) (g : JN x (Q e') l' own' H) : JN x ((Exit.then k0 (Exit.inBlock i1 Q)) e) l own H := (mrun_ok (Q := Q) ht h rfl).2 g
theorem Run.lnz_sk (hs : List Nat) (k : Nat) (ht : tb.Ok x.P) (h : mrun tb x.n k ⟨.l ops rest, [.s d0, .k k1], l, own, hs, [], []⟩ = some ⟨.n e', [], l', own', [], E, E⟩) (g : JN x (Q e') l' own' H) : JL x ops (Exit.then (d0.wpIn (Fw x.r) 0 x.P (Exit.then k1 Q)) (Exit.then k1 Q)) rest l own H := (mrun_ok (Q := Q) ht h rfl).2 g
theorem Run.cc_bs (hs : List Nat) (k : Nat) (ht : tb.Ok x.P) (h : mrun tb x.n k ⟨.c c, [.b i0, .s d1], l, own, hs, [], []⟩ = some ⟨.c c', ks', l', own', [], E, E⟩) (g : JC x c' (den x ks' Q) l' own' H) : JC x c (Exit.inBlock i0 (Exit.then (d1.wpIn (Fw x.r) 0 x.P Q) Q)) l own H := (mrun_ok (Q := Q) ht h rfl).2 g
theorem Run.cl_bs (hs : List Nat) (k : Nat) (ht : tb.Ok x.P) (h : mrun tb x.n k ⟨.c c, [.b i0, .s d1], l, own, hs, [], []⟩ = some ⟨.l ops' rest', ks', l', own', [], E, E⟩) (g : JL x ops' (den x ks' Q) rest' l' own' H) : JC x c (Exit.inBlock i0 (Exit.then (d1.wpIn (Fw x.r) 0 x.P Q) Q)) l own H := (mrun_ok (Q := Q) ht h rfl).2 g
theorem Run.clz_bs (hs : List Nat) (k : Nat) (ht : tb.Ok x.P) (h : mrun tb x.n k ⟨.c c, [.b i0, .s d1], l, own, hs, [], []⟩ = some ⟨.l ops' rest', [], l', own', [], E, E⟩) (g : JL x ops' Q rest' l' own' H) : JC x c (Exit.inBlock i0 (Exit.then (d1.wpIn (Fw x.r) 0 x.P Q) Q)) l own H := (mrun_ok (Q := Q) ht h rfl).2 g
theorem Run.llz_bs (hs : List Nat) (k : Nat) (ht : tb.Ok x.P) (h : mrun tb x.n k ⟨.l ops rest, [.b i0, .s d1], l, own, hs, [], []⟩ = some ⟨.l ops' rest', [], l', own', [], E, E⟩) (g : JL x ops' Q rest' l' own' H) : JL x ops (Exit.inBlock i0 (Exit.then (d1.wpIn (Fw x.r) 0 x.P Q) Q)) rest l own H := (mrun_ok (Q := Q) ht h rfl).2 g
theorem Run.lnz_bs (hs : List Nat) (k : Nat) (ht : tb.Ok x.P) (h : mrun tb x.n k ⟨.l ops rest, [.b i0, .s d1], l, own, hs, [], []⟩ = some ⟨.n e', [], l', own', [], E, E⟩) (g : JN x (Q e') l' own' H) : JL x ops (Exit.inBlock i0 (Exit.then (d1.wpIn (Fw x.r) 0 x.P Q) Q)) rest l own H := (mrun_ok (Q := Q) ht h rfl).2 g
theorem Run.nl_bs (hs : List Nat) (k : Nat) (ht : tb.Ok x.P) (h : mrun tb x.n k ⟨.n e, [.b i0, .s d1], l, own, hs, [], []⟩ = some ⟨.l ops' rest', ks', l', own', [], E, E⟩) (g : JL x ops' (den x ks' Q) rest' l' own' H) : JN x ((Exit.inBlock i0 (Exit.then (d1.wpIn (Fw x.r) 0 x.P Q) Q)) e) l own H := (mrun_ok (Q := Q) ht h rfl).2 g
theorem Run.nlz_bs (hs : List Nat) (k : Nat) (ht : tb.Ok x.P) (h : mrun tb x.n k ⟨.n e, [.b i0, .s d1], l, own, hs, [], []⟩ = some ⟨.l ops' rest', [], l', own', [], E, E⟩) (g : JL x ops' Q rest' l' own' H) : JN x ((Exit.inBlock i0 (Exit.then (d1.wpIn (Fw x.r) 0 x.P Q) Q)) e) l own H := (mrun_ok (Q := Q) ht h rfl).2 g
theorem Run.nnz_bs (hs : List Nat) (k : Nat) (ht : tb.Ok x.P) (h : mrun tb x.n k ⟨.n e, [.b i0, .s d1], l, own, hs, [], []⟩ = some ⟨.n e', [], l', own', [], E, E⟩) (g : JN x (Q e') l' own' H) : JN x ((Exit.inBlock i0 (Exit.then (d1.wpIn (Fw x.r) 0 x.P Q) Q)) e) l own H := (mrun_ok (Q := Q) ht h rfl).2 g
theorem Run.cnz_bk (hs : List Nat) (k : Nat) (ht : tb.Ok x.P) (h : mrun tb x.n k ⟨.c c, [.b i0, .k k1], l, own, hs, [], []⟩ = some ⟨.n e', [], l', own', [], E, E⟩) (g : JN x (Q e') l' own' H) : JC x c (Exit.inBlock i0 (Exit.then k1 Q)) l own H := (mrun_ok (Q := Q) ht h rfl).2 g
theorem Run.lnz_b (hs : List Nat) (k : Nat) (ht : tb.Ok x.P) (h : mrun tb x.n k ⟨.l ops rest, [.b i0], l, own, hs, [], []⟩ = some ⟨.n e', [], l', own', [], E, E⟩) (g : JN x (Q e') l' own' H) : JL x ops (Exit.inBlock i0 Q) rest l own H := (mrun_ok (Q := Q) ht h rfl).2 g
theorem Run.lnz_sbk (hs : List Nat) (k : Nat) (ht : tb.Ok x.P) (h : mrun tb x.n k ⟨.l ops rest, [.s d0, .b i1, .k k2], l, own, hs, [], []⟩ = some ⟨.n e', [], l', own', [], E, E⟩) (g : JN x (Q e') l' own' H) : JL x ops (Exit.then (d0.wpIn (Fw x.r) 0 x.P (Exit.inBlock i1 (Exit.then k2 Q))) (Exit.inBlock i1 (Exit.then k2 Q))) rest l own H := (mrun_ok (Q := Q) ht h rfl).2 g
theorem Run.llz_sbs (hs : List Nat) (k : Nat) (ht : tb.Ok x.P) (h : mrun tb x.n k ⟨.l ops rest, [.s d0, .b i1, .s d2], l, own, hs, [], []⟩ = some ⟨.l ops' rest', [], l', own', [], E, E⟩) (g : JL x ops' Q rest' l' own' H) : JL x ops (Exit.then (d0.wpIn (Fw x.r) 0 x.P (Exit.inBlock i1 (Exit.then (d2.wpIn (Fw x.r) 0 x.P Q) Q))) (Exit.inBlock i1 (Exit.then (d2.wpIn (Fw x.r) 0 x.P Q) Q))) rest l own H := (mrun_ok (Q := Q) ht h rfl).2 g
theorem Run.cnz_kkb (hs : List Nat) (k : Nat) (ht : tb.Ok x.P) (h : mrun tb x.n k ⟨.c c, [.k k0, .k k1, .b i2], l, own, hs, [], []⟩ = some ⟨.n e', [], l', own', [], E, E⟩) (g : JN x (Q e') l' own' H) : JC x c (Exit.then k0 (Exit.then k1 (Exit.inBlock i2 Q))) l own H := (mrun_ok (Q := Q) ht h rfl).2 g
end runs
end Go.Ow

/-
  What is proved here: rows with a room of noughts behind them: 'make' with a length and a greater room, appends within it, the row with its noughts; over OwZE.
-/
namespace Go.Ow
open Go.RowKit
set_option linter.unusedVariables false
set_option linter.unusedSimpArgs false

variable {x : Cx} {ops : Array Oper} {Q : Exit → Act → World → Prop} {rest : List Oper} {l : Slots} {own : List Own} {H HF : Heaplet}
variable {ty : TypeId} {d : Nat} {pos : String} {aft : Array Edge} {p q : Operand} {t : TypeId}

end Go.Ow

/-
  What is proved here: arrays of bytes: slices of them, slices as arrays, equality; appends of noughts to a slice that is full; over OwZF.
-/
namespace Go.Ow
open Go.RowKit
set_option linter.unusedVariables false
set_option linter.unusedSimpArgs false

variable {x : Cx} {ops : Array Oper} {Q : Exit → Act → World → Prop} {rest : List Oper} {l : Slots} {own : List Own} {H HF : Heaplet}
variable {ty : TypeId} {d : Nat} {pos : String} {aft : Array Edge} {p q : Operand} {t u : TypeId}

/-! ### Equality -/
theorem bvs_get {m : List UInt8} {i : Nat} (h : i < m.length) : (bvs m)[i]? = some (.int .u8 (m[i].toNat : Int)) := by
  unfold bvs; rw [List.getElem?_map, List.getElem?_eq_getElem h]; rfl
theorem run_eqItems_bytes {P : Program} {w : World} {dd e : Nat} (hu : P.underlying e = some (.int .u8)) (hs : shapeOf P e = some (false, 1)) (hc : P.cellsOf e = 1) (as bs : List UInt8) (hl : bs.length = as.length) :
    ∀ (n k : Nat), k + n = as.length → (Op.eqItems (dd + 1) e (P.cellsOf e) (bvs as).toArray (bvs bs).toArray (List.range' k n)).run P w = .ok (decide (as.drop k = bs.drop k)) w
  | 0, k, h => by
    rw [List.drop_eq_nil_of_le (by omega), List.drop_eq_nil_of_le (by omega)]
    simp [Op.eqItems]
  | n + 1, k, h => by
    have ha : k < as.length := by omega
    have hb : k < bs.length := by omega
    have h1 := run_part1 (P := P) (cs := (bvs as).toArray) (off := k) hs (by simpa using bvs_get ha) w
    have h2 := run_part1 (P := P) (cs := (bvs bs).toArray) (off := k) hs (by simpa using bvs_get hb) w
    have h3 := run_equalIn_int w dd e .u8 .u8 (as[k].toNat : Int) (bs[k].toNat : Int) hu
    have ih := run_eqItems_bytes (w := w) (dd := dd) hu hs hc as bs hl n (k + 1) (by omega)
    rw [List.range'_succ]
    simp only [Op.eqItems, Sem.run_bind, hc, Nat.mul_one, h1, h2, h3, Result.andThen]
    rw [hc] at ih
    rw [List.drop_eq_getElem_cons ha, List.drop_eq_getElem_cons hb]
    by_cases he : as[k] = bs[k]
    · have : ((as[k].toNat : Int) == (bs[k].toNat : Int)) = true := by rw [he]; simp
      rw [this]
      simp only [Bool.not_true, Bool.false_eq_true, if_false, ih, he, List.cons.injEq, true_and]
    · have : ((as[k].toNat : Int) == (bs[k].toNat : Int)) = false := by
        rw [beq_eq_false_iff_ne]; intro e; exact he (UInt8.toNat_inj.1 (by omega))
      simp only [this, Bool.not_false, if_true, Sem.run_pure, List.cons.injEq, he, false_and, decide_false]
theorem run_equalIn_bytes {P : Program} {w : World} {dd t e n : Nat} (ht : P.underlying t = some (.array n e)) (hu : P.underlying e = some (.int .u8)) (hs : shapeOf P e = some (false, 1)) (hc : P.cellsOf e = 1) (as bs : List UInt8) (ha : as.length = n) (hb : bs.length = n) :
    (Op.equalIn (dd + 2) t (.agg (bvs as).toArray) (.agg (bvs bs).toArray)).run P w = .ok (decide (as = bs)) w := by
  have hi : ∃ i, P.info? e = some i := by
    unfold shapeOf at hs
    split at hs
    · rename_i d i h1 h2; exact ⟨i, h2⟩
    · cases hs
  obtain ⟨i, hi⟩ := hi
  rw [run_equalIn_array w (dd + 1) (bvs as).toArray (bvs bs).toArray ht hi, List.range_eq_range', run_eqItems_bytes hu hs hc as bs (by omega) n 0 (by omega)]
  rfl
/-! ### An own array as a row -/
/-! ### Append of noughts to a slice that is full -/
end Go.Ow

/-
  What is proved here: cells that are made, at any time, in a region whose order Go leaves open: told apart from its other operations; over OwZG.
-/
namespace Go.Ow
open Go.RowKit
set_option linter.unusedVariables false
set_option linter.unusedSimpArgs false

variable {x : Cx} {ops : Array Oper} {Q : Exit → Act → World → Prop} {l : Slots} {own : List Own} {H : Heaplet} {so : List Own} {sH : Heaplet}

/-- an operation that makes a cell: its place, its slot -/
structure ASpec where
  i : Nat
  d : Nat
  T : TypeId
  z : Value
abbrev AM := List (ASpec × Option Nat)
def AM.sl : AM → Slots
  | [] => []
  | (s, some b) :: r => (s.d, .pointer (some ⟨b, 0, none⟩)) :: AM.sl r
  | (s, none) :: r => AM.sl r
def AM.ow : AM → List Own
  | [] => []
  | (s, some b) :: r => [(b, .cells s.z.cells s.T (0, 0))] :: AM.ow r
  | (s, none) :: r => AM.ow r
def AM.lst : AM → Array Bool → Array Bool
  | [], a => a
  | (s, some _) :: r, a => AM.lst r (a.setIfInBounds s.i true)
  | (s, none) :: r, a => AM.lst r a
def AM.left : AM → Nat
  | [] => 0
  | (_, some _) :: r => AM.left r
  | (_, none) :: r => AM.left r + 1
def AM.bs (m : AM) : List Bool := m.map (·.2.isSome)
def lstB : List ASpec → List Bool → Array Bool → Array Bool
  | s :: r, true :: bs, a => lstB r bs (a.setIfInBounds s.i true)
  | _ :: r, false :: bs, a => lstB r bs a
  | _, _, a => a
def undone : List ASpec → List Bool → List Nat
  | _ :: r, true :: bs => undone r bs
  | s :: r, false :: bs => s.i :: undone r bs
  | _, _ => []
def allB : Nat → List (List Bool)
  | 0 => [[]]
  | n + 1 => (allB n).flatMap fun bs => [true :: bs, false :: bs]
theorem allB_mem : ∀ (bs : List Bool), bs ∈ allB bs.length
  | [] => by simp [allB]
  | b :: bs => by
    simp only [List.length_cons, allB, List.mem_flatMap]
    exact ⟨bs, allB_mem bs, by cases b <;> simp⟩
theorem AM.lst_eq : ∀ (m : AM) (a : Array Bool), m.lst a = lstB (m.map (·.1)) m.bs a
  | [], _ => rfl
  | (s, some b) :: r, a => AM.lst_eq r _
  | (s, none) :: r, a => AM.lst_eq r _
theorem set_true_comm (a : Array Bool) (i j : Nat) : (a.setIfInBounds i true).setIfInBounds j true = (a.setIfInBounds j true).setIfInBounds i true := by
  by_cases h : i = j
  · subst h; rfl
  · exact Array.setIfInBounds_comm _ _ h
theorem AM.lst_set : ∀ (m : AM) (a : Array Bool) (k : Nat), (m.lst a).setIfInBounds k true = m.lst (a.setIfInBounds k true)
  | [], _, _ => rfl
  | (s, some b) :: r, a, k => by show (AM.lst r _).setIfInBounds k true = AM.lst r _; rw [AM.lst_set r, set_true_comm]
  | (s, none) :: r, a, k => AM.lst_set r a k
theorem AM.lst_none : ∀ (A : List ASpec) (a : Array Bool), AM.lst (A.map fun s => (s, none)) a = a
  | [], _ => rfl
  | s :: r, a => AM.lst_none r a
theorem AM.sl_none : ∀ (A : List ASpec), AM.sl (A.map fun s => (s, none)) = []
  | [] => rfl
  | s :: r => AM.sl_none r
theorem AM.ow_none : ∀ (A : List ASpec), AM.ow (A.map fun s => (s, none)) = []
  | [] => rfl
  | s :: r => AM.ow_none r
theorem AM.left_none : ∀ (A : List ASpec), AM.left (A.map fun s => (s, none)) = A.length
  | [] => rfl
  | s :: r => by show AM.left (r.map fun s => (s, none)) + 1 = _; rw [AM.left_none r]; rfl
/-- one that is not made yet is made -/
theorem AM.split : ∀ (m : AM) (k : Nat), k ∈ undone (m.map (·.1)) m.bs → ∃ m1 m2 s, m = m1 ++ (s, none) :: m2 ∧ s.i = k
  | (s, some b) :: r, k, h => by
    obtain ⟨m1, m2, s', rfl, e⟩ := AM.split r k h
    exact ⟨(s, some b) :: m1, m2, s', rfl, e⟩
  | (s, none) :: r, k, h => by
    have h' : k ∈ s.i :: undone (r.map (·.1)) (AM.bs r) := h
    rcases List.mem_cons.1 h' with e | e
    · exact ⟨[], r, s, rfl, e.symm⟩
    · obtain ⟨m1, m2, s', rfl, e2⟩ := AM.split r k e
      exact ⟨(s, none) :: m1, m2, s', rfl, e2⟩
theorem AM.made_left : ∀ (m1 m2 : AM) (s : ASpec) (b : Nat), (m1 ++ (s, none) :: m2).left = (m1 ++ (s, some b) :: m2).left + 1
  | [], _, _, _ => rfl
  | (_, some _) :: r, m2, s, b => AM.made_left r m2 s b
  | (_, none) :: r, m2, s, b => by show AM.left (r ++ _) + 1 = AM.left (r ++ _) + 1 + 1; rw [AM.made_left r m2 s b]
theorem AM.made_lst : ∀ (m1 m2 : AM) (s : ASpec) (b : Nat) (a : Array Bool), (m1 ++ (s, some b) :: m2).lst a = (m1 ++ (s, none) :: m2).lst (a.setIfInBounds s.i true)
  | [], _, _, _, _ => rfl
  | (t, some _) :: r, m2, s, b, a => by show AM.lst (r ++ _) _ = AM.lst (r ++ _) _; rw [AM.made_lst r m2 s b, set_true_comm]
  | (t, none) :: r, m2, s, b, a => AM.made_lst r m2 s b a
theorem AM.made_map : ∀ (m1 m2 : AM) (s : ASpec) (b : Nat), (m1 ++ (s, some b) :: m2).map (·.1) = (m1 ++ (s, none) :: m2).map (·.1) := fun m1 m2 s b => by simp
theorem AM.made_ow : ∀ (m1 m2 : AM) (s : ASpec) (b : Nat), (AM.ow (m1 ++ (s, some b) :: m2)).Perm ([(b, .cells s.z.cells s.T (0, 0))] :: AM.ow (m1 ++ (s, none) :: m2))
  | [], _, _, _ => List.Perm.refl _
  | (t, some c) :: r, m2, s, b => ((AM.made_ow r m2 s b).cons _).trans (List.Perm.swap _ _ _)
  | (t, none) :: r, m2, s, b => AM.made_ow r m2 s b
theorem lk_app : ∀ (l t : Slots) (i : Nat), lk (l ++ t) i = match lk l i with | some v => some v | none => lk t i
  | [], _, _ => rfl
  | (k, v) :: r, t, i => by
    simp only [List.cons_append, lk]
    cases h : Nat.beq k i with
    | true => rfl
    | false => exact lk_app r t i
theorem lk_appL {l t : Slots} {i : Nat} {v : Value} (h : lk l i = some v) : lk (l ++ t) i = some v := by rw [lk_app, h]
theorem evo_app {l t : Slots} {o : Operand} {v : Value} (h : evo l o = some v) : evo (l ++ t) o = some v := by
  cases o with
  | tmp k => exact lk_appL h
  | const u => exact h
  | global g => exact h
  | func f => exact h
theorem AM.made_lk : ∀ (m1 m2 : AM) (s : ASpec) (b : Nat) (i : Nat) (v : Value), ((m1 ++ (s, none) :: m2).map (fun p => p.1.d)).Nodup → lk (AM.sl (m1 ++ (s, some b) :: m2)) i = some v →
    (i = s.d ∧ v = .pointer (some ⟨b, 0, none⟩)) ∨ (i ≠ s.d ∧ lk (AM.sl (m1 ++ (s, none) :: m2)) i = some v)
  | [], m2, s, b, i, v, hn, h => by
    have h' : lk ((s.d, .pointer (some ⟨b, 0, none⟩)) :: AM.sl m2) i = some v := h
    simp only [lk] at h'
    cases hb : Nat.beq s.d i with
    | true => rw [hb] at h'; simp at h'; exact .inl ⟨(Nat.eq_of_beq_eq_true hb).symm, h'.symm⟩
    | false =>
      rw [hb] at h'
      exact .inr ⟨fun e => by subst e; simp at hb, h'⟩
  | (t, some c) :: r, m2, s, b, i, v, hn, h => by
    have h' : lk ((t.d, .pointer (some ⟨c, 0, none⟩)) :: AM.sl (r ++ (s, some b) :: m2)) i = some v := h
    have hn' : t.d ∉ (r ++ (s, none) :: m2).map (fun p => p.1.d) ∧ ((r ++ (s, none) :: m2).map (fun p => p.1.d)).Nodup := by
      rw [List.cons_append, List.map_cons, List.nodup_cons] at hn; exact hn
    have hts : t.d ≠ s.d := fun e => hn'.1 (by rw [e]; simp)
    show _ ∨ (_ ∧ lk ((t.d, .pointer (some ⟨c, 0, none⟩)) :: AM.sl (r ++ (s, none) :: m2)) i = some v)
    simp only [lk] at h' ⊢
    cases hb : Nat.beq t.d i with
    | true =>
      rw [hb] at h'
      have e : t.d = i := Nat.eq_of_beq_eq_true hb
      exact .inr ⟨by rw [← e]; exact hts, h'⟩
    | false => rw [hb] at h'; exact AM.made_lk r m2 s b i v hn'.2 h'
  | (t, none) :: r, m2, s, b, i, v, hn, h => by
    have hn' : ((r ++ (s, none) :: m2).map (fun p => p.1.d)).Nodup := by
      rw [List.cons_append, List.map_cons, List.nodup_cons] at hn; exact hn.2
    exact AM.made_lk r m2 s b i v hn' h

/-- what is asked of the list -/
def AOk (x : Cx) (ops : Array Oper) : List ASpec → Prop
  | [] => True
  | s :: r => (∃ ty pos aft, ops[s.i]? = some ⟨some s.d, .alloc s.T, ty, pos, aft, none⟩ ∧ zeroOf x.P s.T = some s.z ∧ Nat.blt s.d x.n = true) ∧ AOk x ops r
theorem AOk.at {A : List ASpec} (h : AOk x ops A) {s : ASpec} (hs : s ∈ A) : ∃ ty pos aft, ops[s.i]? = some ⟨some s.d, .alloc s.T, ty, pos, aft, none⟩ ∧ zeroOf x.P s.T = some s.z ∧ Nat.blt s.d x.n = true := by
  induction A with
  | nil => cases hs
  | cons t r ih =>
    rcases List.mem_cons.1 hs with rfl | h'
    · exact h.1
    · exact ih h.2 h'
def freeIn (l : Slots) : List ASpec → Bool
  | [] => true
  | s :: r => (lk l s.d).isNone && r.all (fun t => !Nat.beq t.d s.d) && freeIn l r
theorem freeIn.lk {A : List ASpec} (h : freeIn l A = true) {s : ASpec} (hs : s ∈ A) : lk l s.d = none := by
  induction A with
  | nil => cases hs
  | cons t r ih =>
    simp only [freeIn, Bool.and_eq_true] at h
    rcases List.mem_cons.1 hs with rfl | h'
    · simpa using h.1.1
    · exact ih h.2 h'
theorem freeIn.nodup {A : List ASpec} (h : freeIn l A = true) : (A.map (·.d)).Nodup := by
  induction A with
  | nil => exact List.nodup_nil
  | cons t r ih =>
    simp only [freeIn, Bool.and_eq_true] at h
    rw [List.map_cons, List.nodup_cons]
    refine ⟨fun hm => ?_, ih h.2⟩
    obtain ⟨s, hs, e⟩ := List.mem_map.1 hm
    have := List.all_eq_true.1 h.1.2 s hs
    simp [e] at this

def JAA (x : Cx) (ops : Array Oper) (Q : Exit → Act → World → Prop) (so : List Own) (sH : Heaplet) (A : List ASpec) (fuel : Nat) (listed : Array Bool) (l : Slots) (own : List Own) (H : Heaplet) : Prop :=
  ∀ m : AM, m.map (·.1) = A → (∀ p ∈ m, ∀ b, p.2 = some b → x.w0.heap.size ≤ b) → JA x ops Q so sH (fuel + m.left) (m.lst listed) (l ++ m.sl) (own ++ m.ow) H
def JOA (x : Cx) (ops : Array Oper) (Q : Exit → Act → World → Prop) (so : List Own) (sH : Heaplet) (A : List ASpec) (fuel : Nat) (listed : Array Bool) (i : Nat) (l : Slots) (own : List Own) (H : Heaplet) : Prop :=
  ∀ m : AM, m.map (·.1) = A → (∀ p ∈ m, ∀ b, p.2 = some b → x.w0.heap.size ≤ b) → JO x ops Q so sH (fuel + m.left) (m.lst listed) i (l ++ m.sl) (own ++ m.ow) H

theorem JAA.start (A : List ASpec) {fuel N : Nat} {listed : Array Bool} (hN : fuel + A.length = N) (h : JAA x ops Q so sH A fuel listed l own H) : JA x ops Q so sH N listed l own H := by
  have := h (A.map fun s => (s, none)) (by simp [Function.comp_def]) (fun p hp b e => by obtain ⟨s, -, rfl⟩ := List.mem_map.1 hp; cases e)
  rw [AM.lst_none, AM.sl_none, AM.ow_none, AM.left_none, hN] at this
  simpa using this
theorem SubO.app : ∀ {so own : List Own} (t : List Own), SubO so own → SubO so (own ++ t)
  | [], _, _, _ => trivial
  | s :: r, own, t, h => by
    obtain ⟨⟨i, hi⟩, h2⟩ := h
    refine ⟨⟨i, ?_⟩, SubO.app t h2⟩
    rw [List.getElem?_append_left (List.getElem?_eq_some_iff.1 hi).1]; exact hi
theorem JN.slots {K : Act → World → Prop} {l' : Slots} (h : ∀ i v, lk l' i = some v → lk l i = some v) (hk : JN x K l' own H) : JN x K l own H := fun a w hh =>
  hk a w ⟨hh.size, hh.ds, fun i v e => hh.slots i v (h i v e), hh.mem⟩
/-- a cell is made -/
theorem JOA.make {A : List ASpec} {F : Nat} {listed : Array Bool} (hA : AOk x ops A) (hle : Hle sH H) (hso : SubO so own) (hf : freeIn l A = true) {m : AM} (hm : m.map (·.1) = A) (hb : ∀ p ∈ m, ∀ b, p.2 = some b → x.w0.heap.size ≤ b)
    {k : Nat} (hk : k ∈ undone A m.bs) (ih : ∀ m' : AM, m'.left < m.left → m'.map (·.1) = A → (∀ p ∈ m', ∀ b, p.2 = some b → x.w0.heap.size ≤ b) → JA x ops Q so sH (F + m'.left) (m'.lst listed) (l ++ m'.sl) (own ++ m'.ow) H) :
    ∃ f, F + m.left = f + 1 ∧ JO x ops Q so sH f (m.lst listed) k (l ++ m.sl) (own ++ m.ow) H := by
  rw [← hm] at hk
  obtain ⟨m1, m2, s, rfl, rfl⟩ := AM.split m k hk
  have hsA : s ∈ A := by rw [← hm]; simp
  obtain ⟨ty, pos, aft, ho, hz, hd⟩ := hA.at hsA
  have hl := AM.made_left m1 m2 s 0
  refine ⟨F + AM.left (m1 ++ (s, some 0) :: m2), by omega, ?_⟩
  refine JO.step ho trivial rfl (fun K hK => ?_)
  refine JL.alloc hz hd (fun b hbb => ?_)
  refine JL.nil ?_
  have hleft : AM.left (m1 ++ (s, some b) :: m2) = AM.left (m1 ++ (s, some 0) :: m2) := by
    have := AM.made_left m1 m2 s b; omega
  have hmm : (m1 ++ (s, some b) :: m2).map (·.1) = A := by rw [AM.made_map]; exact hm
  have hJ := ih (m1 ++ (s, some b) :: m2) (by omega) hmm (fun p hp b' e => by
    rcases List.mem_append.1 hp with h | h
    · exact hb p (by simp [h]) b' e
    · rcases List.mem_cons.1 h with rfl | h
      · simp at e; subst e; exact hbb
      · exact hb p (by simp [h]) b' e)
  rw [hleft, AM.made_lst, ← AM.lst_set] at hJ
  have hnd : ((m1 ++ (s, none) :: m2).map (fun p => p.1.d)).Nodup := by
    have := freeIn.nodup hf; rw [← hm, List.map_map] at this; exact this
  have hln := freeIn.lk hf hsA
  have hsub : ∀ i v, lk (l ++ AM.sl (m1 ++ (s, some b) :: m2)) i = some v → lk ((s.d, .pointer (some ⟨b, 0, none⟩)) :: (l ++ AM.sl (m1 ++ (s, none) :: m2))) i = some v := fun i v e => by
    rw [lk_app] at e
    simp only [lk]
    cases hli : lk l i with
    | some u =>
      rw [hli] at e; simp at e; subst e
      have : Nat.beq s.d i = false := by
        cases hbq : Nat.beq s.d i with
        | false => rfl
        | true => have := Nat.eq_of_beq_eq_true hbq; rw [← this, hln] at hli; cases hli
      rw [this]; exact lk_appL hli
    | none =>
      rw [hli] at e
      rcases AM.made_lk m1 m2 s b i v hnd e with ⟨rfl, rfl⟩ | ⟨hne, h⟩
      · simp
      · have : Nat.beq s.d i = false := by
          cases hbq : Nat.beq s.d i with
          | false => rfl
          | true => exact absurd (Nat.eq_of_beq_eq_true hbq).symm hne
        rw [this, lk_app, hli]; exact h
  have hperm : ([(b, Obj.cells s.z.cells s.T (0, 0))] :: (own ++ AM.ow (m1 ++ (s, none) :: m2))).flatten.Perm (own ++ AM.ow (m1 ++ (s, some b) :: m2)).flatten := by
    refine List.Perm.flatten ?_
    refine List.Perm.trans ?_ ((AM.made_ow m1 m2 s b).symm.append_left own)
    exact List.perm_middle.symm
  refine JN.slots hsub (JN.perm hperm (hK _ _ _ ?_ hJ))
  exact stab_of hle (hso.app _)

/-- some of the others may come up, too -/
theorem JAA.many {A : List ASpec} (R : List Nat) {fuel : Nat} {listed : Array Bool} (hA : AOk x ops A) (hle : Hle sH H) (hso : SubO so own) (hf : freeIn l A = true)
    (hr : (allB A.length).all (fun bs => !(Region.ready .any ops (lstB A bs listed)).isEmpty && (Region.ready .any ops (lstB A bs listed)).all (fun k => R.contains k || (undone A bs).contains k)) = true)
    (h : ∀ i ∈ R, JOA x ops Q so sH A fuel listed i l own H) : JAA x ops Q so sH A (fuel + 1) listed l own H := by
  intro m
  obtain ⟨n, hn⟩ : ∃ n, n = m.left := ⟨_, rfl⟩
  induction n using Nat.strongRecOn generalizing m with
  | _ n ih =>
    intro hm hb a w hh
    have hmem : m.bs ∈ allB A.length := by have := allB_mem m.bs; rwa [show m.bs.length = A.length by rw [← hm]; simp [AM.bs]] at this
    have h1 := List.all_eq_true.1 hr _ hmem
    simp only [Bool.and_eq_true] at h1
    have hlst : m.lst listed = lstB A m.bs listed := by rw [AM.lst_eq, hm]
    rw [← hlst] at h1
    rw [show fuel + 1 + m.left = (fuel + m.left) + 1 by omega]
    refine ⟨fun h0 => ?_, fun k hk => ?_⟩
    · rw [h0] at h1; simp at h1
    · have hk2 := List.all_eq_true.1 h1.2 k hk
      simp only [Bool.or_eq_true, List.contains_iff_mem] at hk2
      rcases hk2 with hk2 | hk2
      · exact h k hk2 m hm hb a w hh
      · obtain ⟨f, hf1, hJ⟩ := JOA.make (F := fuel + 1) (listed := listed) (Q := Q) hA hle hso hf hm hb hk2 (fun m' hlt hm' hb' => ih m'.left (by omega) m' rfl hm' hb')
        rw [show fuel + m.left = f by omega]
        exact hJ a w hh
/-- nothing else may come up, as long as one of them is not made -/
def AllA : List ASpec → Nat → (AM → Prop) → Prop
  | [], _, P => P []
  | s :: r, N, P => ∀ b, N ≤ b → AllA r N (fun m => P ((s, some b) :: m))
theorem AllA.at : ∀ {A : List ASpec} {N : Nat} {P : AM → Prop}, AllA A N P → ∀ m : AM, m.map (·.1) = A → m.left = 0 → (∀ p ∈ m, ∀ b, p.2 = some b → N ≤ b) → P m
  | [], _, _, h, [], _, _, _ => h
  | s :: r, N, P, h, (t, some b) :: m, hm, h0, hb => by
    simp only [List.map_cons, List.cons.injEq] at hm
    obtain ⟨rfl, hm⟩ := hm
    exact AllA.at (h b (hb (t, some b) (by simp) b rfl)) m hm h0 (fun p hp => hb p (by simp [hp]))
  | s :: r, N, P, h, (t, none) :: m, hm, h0, hb => by cases h0
theorem left_undone : ∀ (m : AM), m.left ≠ 0 → m.bs.all id = false
  | [], h => absurd rfl h
  | (_, some _) :: r, h => by have := left_undone r h; simpa [AM.bs] using this
  | (_, none) :: r, h => rfl
theorem JAA.all {A : List ASpec} {fuel : Nat} {listed : Array Bool} (hA : AOk x ops A) (hle : Hle sH H) (hso : SubO so own) (hf : freeIn l A = true)
    (hr : (allB A.length).all (fun bs => bs.all id || (!(Region.ready .any ops (lstB A bs listed)).isEmpty && (Region.ready .any ops (lstB A bs listed)).all (fun k => (undone A bs).contains k))) = true)
    (h : AllA A x.w0.heap.size (fun m => JA x ops Q so sH fuel (m.lst listed) (l ++ m.sl) (own ++ m.ow) H)) : JAA x ops Q so sH A fuel listed l own H := by
  intro m
  obtain ⟨n, hn⟩ : ∃ n, n = m.left := ⟨_, rfl⟩
  induction n using Nat.strongRecOn generalizing m with
  | _ n ih =>
    intro hm hb
    by_cases h0 : m.left = 0
    · rw [h0]; exact h.at m hm h0 hb
    intro a w hh
    have hmem : m.bs ∈ allB A.length := by have := allB_mem m.bs; rwa [show m.bs.length = A.length by rw [← hm]; simp [AM.bs]] at this
    have h1 := List.all_eq_true.1 hr _ hmem
    rw [left_undone m h0] at h1
    simp only [Bool.false_or, Bool.and_eq_true] at h1
    have hlst : m.lst listed = lstB A m.bs listed := by rw [AM.lst_eq, hm]
    rw [← hlst] at h1
    obtain ⟨f, hf0⟩ : ∃ f, fuel + m.left = f + 1 := ⟨fuel + m.left - 1, by omega⟩
    rw [hf0]
    refine ⟨fun h0 => ?_, fun k hk => ?_⟩
    · rw [h0] at h1; simp at h1
    · have hk2 := List.all_eq_true.1 h1.2 k hk
      simp only [List.contains_iff_mem] at hk2
      obtain ⟨f', hf1, hJ⟩ := JOA.make (F := fuel) (listed := listed) (Q := Q) hA hle hso hf hm hb hk2 (fun m' hlt hm' hb' => ih m'.left (by omega) m' rfl hm' hb')
      rw [show f = f' by omega]
      exact hJ a w hh

/-- 'l2' is 'l1', and the tail behind it -/
inductive AppL {α : Type} (t : List α) : List α → List α → Prop
  | nil : AppL t [] t
  | cons {a : α} {l1 l2 : List α} (h : AppL t l1 l2) : AppL t (a :: l1) (a :: l2)
theorem AppL.eq {α : Type} {t l1 l2 : List α} (h : AppL t l1 l2) : l2 = l1 ++ t := by
  induction h with
  | nil => rfl
  | cons _ ih => rw [ih]; rfl
theorem guard_app {t : Slots} {g : Option (Nat × Bool)} (h : guardYes ops l g) : guardYes ops (l ++ t) g := by
  cases g with
  | none => trivial
  | some jb => obtain ⟨j, b⟩ := jb; obtain ⟨k, oj, h1, h2, h3⟩ := h; exact ⟨k, oj, h1, h2, lk_appL h3⟩
theorem JOA.step {A : List ASpec} {fuel i : Nat} {listed listed' : Array Bool} {dst : Option Tmp} {op : Op} {ty : TypeId} {pos : String} {aft : Array Edge} {g : Option (Nat × Bool)}
    (ho : ops[i]? = some ⟨dst, op, ty, pos, aft, g⟩) (hg : guardYes ops l g) (hl : listed.setIfInBounds i true = listed')
    (h : ∀ (tl : Slots) (to : List Own) (K : Act → World → Prop), (∀ {l' own' H' l2 own2}, AppL tl l' l2 → AppL to own' own2 → (∀ a w, Holds x l2 own2 H' a w → Stab so sH w) → JAA x ops Q so sH A fuel listed' l' own' H' → JN x K l2 own2 H') →
      JL x ops (fun e a w => match e with | .normal => K a w | e => Q e a w) [⟨dst, op, ty, pos, aft, none⟩] (l ++ tl) (own ++ to) H) :
    JOA x ops Q so sH A fuel listed i l own H := fun m hm hb => by
  refine JO.step ho (guard_app hg) rfl (fun K hK => h m.sl m.ow K (fun {l' own' H' l2 own2} e1 e2 hst hJ => ?_))
  have e1 := e1.eq
  have e2 := e2.eq
  subst e1; subst e2
  refine hK _ _ _ hst ?_
  have := hJ m hm hb
  rw [← hl, ← AM.lst_set] at this
  exact this
theorem Runs.app {op : Op} {ty : TypeId} {v : Value} {t : Slots} (h : Runs x op ty l own H v) : Runs x op ty (l ++ t) own H v := fun ρ w d pos aft g hρ hs => h ρ w d pos aft g (fun o u e => hρ o u (evo_app e)) hs
/-- it may be taken now, whatever was made -/
def TakeA (ops : Array Oper) (A : List ASpec) (listed : Array Bool) (i : Nat) : Bool := (allB A.length).all fun bs => (Region.ready .any ops (lstB A bs listed)).contains i && Region.free .any ops (lstB A bs listed) i
theorem TakeA.take {A : List ASpec} {listed : Array Bool} {i : Nat} (h : TakeA ops A listed i = true) {m : AM} (hm : m.map (·.1) = A) : Take ops (m.lst listed) i (m.lst (listed.setIfInBounds i true)) := by
  have hmem : m.bs ∈ allB A.length := by have := allB_mem m.bs; rwa [show m.bs.length = A.length by rw [← hm]; simp [AM.bs]] at this
  have h1 := List.all_eq_true.1 h _ hmem
  have hlst : m.lst listed = lstB A m.bs listed := by rw [AM.lst_eq, hm]
  rw [← hlst] at h1
  simp only [Bool.and_eq_true] at h1
  exact ⟨h1.1, h1.2, AM.lst_set _ _ _⟩
theorem JAA.val {A : List ASpec} {fuel i d : Nat} {listed listed' : Array Bool} {op : Op} {ty : TypeId} {pos : String} {aft : Array Edge} {g : Option (Nat × Bool)} {v : Value} (hreg : Reg ops) (hc : Calm Q)
    (ho : ops[i]? = some ⟨some d, op, ty, pos, aft, g⟩) (ht : TakeA ops A listed i = true) (hl : listed.setIfInBounds i true = listed') (hg : guardYes ops l g) (hle : Hle sH H) (hso : SubO so own) (hr : Runs x op ty l so sH v) (hd : Nat.blt d x.n = true)
    (h : JAA x ops Q so sH A fuel listed' ((d, v) :: l) own H) : JAA x ops Q so sH A (fuel + 1) listed l own H := fun m hm hb => by
  rw [show fuel + 1 + m.left = (fuel + m.left) + 1 by omega]
  subst hl
  exact JA.val hreg hc ho (TakeA.take ht hm) (guard_app hg) (stab_of hle (hso.app _)) hr.app hd (h m hm hb)
theorem JAA.one {A : List ASpec} {fuel i : Nat} {listed : Array Bool} (hA : AOk x ops A) (hle : Hle sH H) (hso : SubO so own) (hf : freeIn l A = true)
    (hr : (allB A.length).all (fun bs => !(Region.ready .any ops (lstB A bs listed)).isEmpty && (Region.ready .any ops (lstB A bs listed)).all (fun k => [i].contains k || (undone A bs).contains k)) = true)
    (h : JOA x ops Q so sH A fuel listed i l own H) : JAA x ops Q so sH A (fuel + 1) listed l own H := JAA.many [i] hA hle hso hf hr (fun k hk => by simp at hk; subst hk; exact h)
theorem JAA.two {A : List ASpec} {fuel i j : Nat} {listed : Array Bool} (hA : AOk x ops A) (hle : Hle sH H) (hso : SubO so own) (hf : freeIn l A = true)
    (hr : (allB A.length).all (fun bs => !(Region.ready .any ops (lstB A bs listed)).isEmpty && (Region.ready .any ops (lstB A bs listed)).all (fun k => [i, j].contains k || (undone A bs).contains k)) = true)
    (h : JOA x ops Q so sH A fuel listed i l own H) (h' : JOA x ops Q so sH A fuel listed j l own H) : JAA x ops Q so sH A (fuel + 1) listed l own H := JAA.many [i, j] hA hle hso hf hr (fun k hk => by
  simp only [List.mem_cons, List.not_mem_nil, or_false] at hk
  rcases hk with rfl | rfl
  · exact h
  · exact h')
end Go.Ow

/-
  What is proved here: a range over a function whose assignments make cells; over OwZH.
-/
namespace Go.Ow
open Go.RowKit
set_option linter.unusedVariables false
set_option linter.unusedSimpArgs false
variable {x : Cx} {ops : Array Oper} {Q : Exit → Act → World → Prop} {rest : List Oper} {l : Slots} {own : List Own} {H HF : Heaplet}
variable {ty : TypeId} {d : Nat} {pos : String} {aft : Array Edge}

end Go.Ow

/-
  What is proved here: a region whose order Go leaves open, again: what is known of it is said once; a segment that is turned later may be read by what comes ahead of that.
-/
namespace Go.Ow
open Go.RowKit
set_option linter.unusedVariables false
set_option linter.unusedSimpArgs false

section orders
variable {F : Fence} {n : Nat} {P : Program} {md : Region.Mode} {ops : Array Oper} {Q : Exit → Act → World → Prop} {S : Array Bool → World → Prop}
/-- whatever order: behind each operation S holds, of what is done so far -/
def wpAT (F : Fence) (n : Nat) (P : Program) (md : Region.Mode) (ops : Array Oper) (Q : Exit → Act → World → Prop) (S : Array Bool → World → Prop) : Nat → Array Bool → Act → World → Prop
  | 0, listed, a, w => Region.ready md ops listed = [] ∧ Q .normal a w
  | fuel + 1, listed, a, w => (Region.ready md ops listed = [] → Q .normal a w) ∧
    ∀ i ∈ Region.ready md ops listed, wpOpIn F n P ops Q i (fun a' w' => S (listed.setIfInBounds i true) w' ∧ wpAT F n P md ops Q S fuel (listed.setIfInBounds i true) a' w') a w
theorem wpAT_sound : ∀ (fuel : Nat) (listed : Array Bool) (a : Act) (w : World), wpAT F n P md ops Q S fuel listed a w → wpAnyIn F n P md ops Q fuel listed a w
  | 0, _, _, _, h => h
  | fuel + 1, listed, a, w, h => ⟨h.1, fun i hi => wpOpIn_mono (fun a' w' h' => wpAT_sound fuel _ a' w' h'.2) (h.2 i hi)⟩
/-- D hangs on i: none of it comes up while i is not done -/
def hangs (md : Region.Mode) (ops : Array Oper) (i : Nat) (D : List Nat) (listed : Array Bool) : Bool :=
  D.all fun d => !listed.getD d true && (match ops[d]? with | none => false | some o => o.after.any fun e => Region.binds md e && (e.on == i || D.contains e.on))
theorem wpAT_first (hF : ∀ f, F.fn f) {i : Nat} {oi : Oper} {v : Value} (hi : ops[i]? = some oi) (hsel : ∀ (j : Nat) (o : Oper) cs b, ops[j]? = some o → o.op ≠ .select cs b)
    (hdef : ∀ (j : Nat) (o : Oper), ops[j]? = some o → noDefer o.op = true) (hQ : ∀ c a w, Q (.panic c) (a.put oi.dst v) w → Q (.panic c) a w) (hmono : ∀ L j w, S L w → S (L.setIfInBounds j true) w)
    (hskip : ∀ L w, S (L.setIfInBounds i true) w → S L w) {D : List Nat} {T : World → Prop} (hT : ∀ L w, (∀ d ∈ D, L.getD d true = false) → S L w → T w) :
    ∀ (fuel : Nat) (listed : Array Bool) (a : Act) (w : World),
      (∀ j oj, ops[j]? = some oj → j ≠ i → listed.getD j true = false → (∀ e ∈ oj.after, Region.binds md e = true → e.on ≠ i) → oi.apart ops oj = true) →
      hangs md ops i D listed = true →
      i ∈ Region.ready md ops listed → YieldsS P ops T oi v a → S listed w →
      wpAT F n P md ops Q S fuel (listed.setIfInBounds i true) (a.put oi.dst v) w → wpAT F n P md ops Q S (fuel + 1) listed a w := by
  have hDs : ∀ {listed : Array Bool}, hangs md ops i D listed = true → ∀ d ∈ D, listed.getD d true = false := fun h d hd => by
    have := List.all_eq_true.1 h d hd
    rw [Bool.and_eq_true] at this
    simpa using this.1
  intro fuel
  induction fuel with
  | zero =>
    intro listed a w _ hD hr hy hS H
    refine ⟨fun h => (by rw [h] at hr; cases hr), fun j hj => ?_⟩
    by_cases hji : j = i
    · subst hji; exact hy.op hF hi (hdef _ _ hi) (hT _ _ (hDs hD) hS) ⟨hmono _ _ _ hS, H⟩
    · have := ready_mono hj hji
      rw [H.1] at this
      cases this
  | succ fuel ih =>
    intro listed a w hfree hD hr hy hS H
    refine ⟨fun h => (by rw [h] at hr; cases hr), fun j hj => ?_⟩
    by_cases hji : j = i
    · subst hji; exact hy.op hF hi (hdef _ _ hi) (hT _ _ (hDs hD) hS) ⟨hmono _ _ _ hS, H⟩
    · have h1 := H.2 j (ready_mono hj hji)
      obtain ⟨hjun, oj, hoj, hall⟩ := mem_ready.1 hj
      have h0 := (mem_ready.1 hr).1
      have hnot : ∀ e ∈ oj.after, Region.binds md e = true → e.on ≠ i := fun e he hb heq => by
        have h1 := hall e he hb
        rw [heq] at h1
        rcases Nat.lt_or_ge i listed.size with h' | h'
        · simp [h'] at h0 h1; rw [h0] at h1; cases h1
        · simp [Array.getElem?_eq_none h'] at h1
      have hjD : j ∉ D := fun hjD => by
        have := List.all_eq_true.1 hD j hjD
        rw [Bool.and_eq_true, hoj] at this
        obtain ⟨e, he, hb⟩ := Array.any_eq_true'.1 this.2
        rw [Bool.and_eq_true, Bool.or_eq_true] at hb
        rcases hb.2 with h | h
        · exact hnot e he hb.1 (by simpa using h)
        · have h2 := hDs hD e.on (by simpa using h)
          have h3 := hall e he hb.1
          rcases Nat.lt_or_ge e.on listed.size with h' | h'
          · simp [h'] at h2 h3; rw [h2] at h3; cases h3
          · simp [Array.getElem?_eq_none h'] at h3
      have hD' : hangs md ops i D (listed.setIfInBounds j true) = true := List.all_eq_true.2 fun d hd => by
        have := List.all_eq_true.1 hD d hd
        rw [getD_set_ne true (fun e => hjD (by rw [e]; exact hd))]; exact this
      have h2 := wpOpIn_putS (S := T) hF hoj (hfree j oj hoj hji hjun hnot) (fun cs b => hsel i oi cs b hi) (fun cs b => hsel j oj cs b hoj) (hdef j oj hoj) hQ hy h1
      have hfree' : ∀ k ok, ops[k]? = some ok → k ≠ i → (listed.setIfInBounds j true).getD k true = false →
          (∀ e ∈ ok.after, Region.binds md e = true → e.on ≠ i) → oi.apart ops ok = true := fun k ok hk hki hun hno => by
        refine hfree k ok hk hki ?_ hno
        by_cases hjk : j = k
        · subst hjk; exact hjun
        · rw [getD_set_ne true hjk] at hun; exact hun
      refine wpOpIn_mono (fun a' w' h3 => ?_) h2
      have hS' : S (listed.setIfInBounds j true) w' := hskip _ _ (by rw [Array.setIfInBounds_comm _ _ hji]; exact h3.2.1)
      refine ⟨hS', ih (listed.setIfInBounds j true) a' w' hfree' hD' (ready_mono hr (Ne.symm hji)) h3.1 hS' ?_⟩
      rw [Array.setIfInBounds_comm _ _ hji]
      exact h3.2.2
end orders

/-! ### The same from a state -/
variable {x : Cx} {ops : Array Oper} {K : Act → World → Prop} {l : Slots} {own : List Own} {H : Heaplet}

/-- the segments, each with what turns it -/
abbrev Segs := List (Own × List Nat)
def SB (so : Segs) (sH : Heaplet) (L : Array Bool) (w : World) : Prop := Agrees sH w ∧ ∀ x ∈ so, (∃ t ∈ x.2, L.getD t true = true) ∨ ∀ p ∈ x.1, w.heap[p.1]? = some p.2
theorem SB.mono {so : Segs} {sH : Heaplet} {L : Array Bool} {w : World} (j : Nat) (h : SB so sH L w) : SB so sH (L.setIfInBounds j true) w := by
  refine ⟨h.1, fun x hx => (h.2 x hx).imp (fun ⟨t, ht, e⟩ => ⟨t, ht, ?_⟩) id⟩
  by_cases c : j = t
  · subst c
    rcases Nat.lt_or_ge j L.size with h' | h'
    · simp [h']
    · simp [Array.getElem?_eq_none h']
  · rw [getD_set_ne true c]; exact e
def noTurn (so : Segs) (i : Nat) : Bool := so.all fun x => !x.2.contains i
theorem SB.skip {so : Segs} {sH : Heaplet} {i : Nat} (hn : noTurn so i = true) {L : Array Bool} {w : World} (h : SB so sH (L.setIfInBounds i true) w) : SB so sH L w := by
  refine ⟨h.1, fun x hx => (h.2 x hx).imp (fun ⟨t, ht, e⟩ => ⟨t, ht, ?_⟩) id⟩
  have := List.all_eq_true.1 hn x hx
  have hne : i ≠ t := fun c => by subst c; simp at this; exact this ht
  rw [getD_set_ne true hne] at e; exact e
/-- the segments that stand as long as none of D is done -/
def segsOf (D : List Nat) : Segs → List Own
  | [] => []
  | x :: q => cond (x.2.all fun t => D.contains t) (x.1 :: segsOf D q) (segsOf D q)
theorem SB.stab {so : Segs} {sH : Heaplet} {D : List Nat} {L : Array Bool} {w : World} (hD : ∀ d ∈ D, L.getD d true = false) (h : SB so sH L w) : Stab (segsOf D so) sH w := by
  refine ⟨h.1, ?_⟩
  have h2 := h.2
  clear h
  induction so with
  | nil => intro p hp; simp [segsOf] at hp
  | cons y q ih =>
    have ihq := ih (fun x hx => h2 x (List.mem_cons_of_mem _ hx))
    intro p hp
    unfold segsOf at hp
    cases e : (y.2.all fun t => D.contains t) with
    | false => rw [e, cond_false] at hp; exact ihq p hp
    | true =>
      rw [e, cond_true, List.flatten_cons, List.mem_append] at hp
      rcases hp with hp | hp
      · rcases h2 y (List.mem_cons_self ..) with ⟨t, ht, e2⟩ | h3
        · have := List.all_eq_true.1 e t ht
          rw [hD t (by simpa using this)] at e2; cases e2
        · exact h3 p hp
      · exact ihq p hp
/-- what is kept now -/
def Kept' : Segs → Array Bool → List Own → Prop
  | [], _, _ => True
  | x :: q, L, own => ((x.2.any fun t => L.getD t true) = true ∨ ∃ i : Nat, own[i]? = some x.1) ∧ Kept' q L own
theorem Kept'.sb {so : Segs} {sH : Heaplet} {L : Array Bool} (hle : Hle sH H) (hk : Kept' so L own) {a : Act} {w : World} (hh : Holds x l own H a w) : SB so sH L w := by
  refine ⟨hh.mem.agr.le hle, ?_⟩
  induction so with
  | nil => intro y hy; cases hy
  | cons z q ih =>
    intro y hy
    rcases List.mem_cons.1 hy with rfl | hy
    · rcases hk.1 with h | ⟨i, hi⟩
      · obtain ⟨t, ht, e⟩ := List.any_eq_true.1 h; exact .inl ⟨t, ht, e⟩
      · exact .inr fun p hp => hh.mem.ok.here p (List.mem_flatten.2 ⟨_, List.mem_of_getElem? hi, hp⟩)
    · exact ih hk.2 y hy
theorem Kept'.mono {so : Segs} {L : Array Bool} (j : Nat) (hk : Kept' so L own) : Kept' so (L.setIfInBounds j true) own := by
  induction so with
  | nil => trivial
  | cons z q ih =>
    refine ⟨hk.1.imp (fun h => ?_) id, ih hk.2⟩
    obtain ⟨t, ht, e⟩ := List.any_eq_true.1 h
    refine List.any_eq_true.2 ⟨t, ht, ?_⟩
    by_cases c : j = t
    · subst c
      rcases Nat.lt_or_ge j L.size with h' | h'
      · simp [h']
      · simp [Array.getElem?_eq_none h']
    · rw [getD_set_ne true c]; exact e

theorem kept0 {so : Segs} {L : Array Bool} (ps : List Nat) (h : ps.map (fun i => own[i]?) = so.map fun x => some x.1) : Kept' so L own := by
  induction so generalizing ps with
  | nil => trivial
  | cons z q ih =>
    cases ps with
    | nil => cases h
    | cons p ps =>
      simp only [List.map_cons, List.cons.injEq] at h
      exact ⟨.inr ⟨p, h.1⟩, ih ps h.2⟩
def picked (own : List Own) : List Bool → List Nat → List (Option Own)
  | b :: bs, p :: ps => cond b none own[p]? :: picked own bs ps
  | _, _ => []
def wanted' : List Bool → Segs → List (Option Own)
  | b :: bs, x :: q => cond b none (some x.1) :: wanted' bs q
  | _, _ => []
theorem kept1 {so : Segs} {L : Array Bool} (bs : List Bool) (ps : List Nat) (h1 : so.map (fun x => x.2.any fun t => L.getD t true) = bs) (h : picked own bs ps = wanted' bs so) : Kept' so L own := by
  induction so generalizing ps bs with
  | nil => trivial
  | cons z q ih =>
    subst h1
    cases ps with
    | nil => cases h
    | cons p ps =>
      simp only [List.map_cons, picked, wanted', List.cons.injEq] at h
      refine ⟨?_, ih _ ps rfl h.2⟩
      cases e : (z.2.any fun t => L.getD t true) with
      | true => exact .inl rfl
      | false =>
        have h2 := h.1
        rw [e] at h2
        exact .inr ⟨p, h2⟩
def JB (x : Cx) (ops : Array Oper) (K : Act → World → Prop) (so : Segs) (sH : Heaplet) (fuel : Nat) (listed : Array Bool) (l : Slots) (own : List Own) (H : Heaplet) : Prop :=
  Reg ops → Hle sH H → Kept' so listed own → ∀ a w, Holds x l own H a w → wpAT (Fw x.r) 0 x.P .any ops (onlyN K) (SB so sH) fuel listed a w
def JOB (x : Cx) (ops : Array Oper) (K : Act → World → Prop) (so : Segs) (sH : Heaplet) (fuel : Nat) (listed : Array Bool) (i : Nat) (l : Slots) (own : List Own) (H : Heaplet) : Prop :=
  Reg ops → Hle sH H → Kept' so listed own → ∀ a w, Holds x l own H a w →
    wpOpIn (Fw x.r) 0 x.P ops (onlyN K) i (fun a' w' => SB so sH (listed.setIfInBounds i true) w' ∧ wpAT (Fw x.r) 0 x.P .any ops (onlyN K) (SB so sH) fuel (listed.setIfInBounds i true) a' w') a w
theorem JC.drawB {Q : Exit → Act → World → Prop} {so : Segs} (N : Nat) {id : Nat} (hN : ops.size = N) (hm : x.P.follows .mixedOrders = true) (hreg : Reg ops) (hk : Kept' so (Array.replicate N false) own)
    (h : JB x ops (Q .normal) so H N (Array.replicate N false) l own H) : JC x (.region id ops true) Q l own H := fun a w hh => by
  subst hN
  refine wpIn_mono (Q := onlyN (Q .normal)) (wpIn_region_any hm (wpAT_sound _ _ _ _ (h hreg (Hle.refl _) hk a w.drew ⟨hh.size, hh.ds, hh.slots, hh.mem.drew⟩))) ?_
  intro e a w hq
  cases e with
  | normal => exact hq
  | exit id => exact hq.elim
  | goto t => exact hq.elim
  | ret => exact hq.elim
  | panic c => exact hq.elim
  | outgrown => exact hq.elim
section
variable {so : Segs} {sH : Heaplet} {fuel i d : Nat} {listed listed' : Array Bool} {op : Op} {ty : TypeId} {pos : String} {aft : Array Edge} {g : Option (Nat × Bool)} {v : Value}
theorem JB.val (D : List Nat) (ho : ops[i]? = some ⟨some d, op, ty, pos, aft, g⟩) (hr : Runs x op ty l (segsOf D so) sH v)
    (h : JB x ops K so sH fuel listed' ((d, v) :: l) own H)
    (ht : Take ops listed i listed' := by exact ⟨by kernel_rfl, by kernel_rfl, rfl⟩) (hg : guardYes ops l g := by first | exact trivial | exact ⟨_, _, rfl, rfl, rfl⟩)
    (hD : hangs .any ops i D listed = true := by kernel_rfl) (hn : noTurn so i = true := by rfl) (hd : Nat.blt d x.n = true := by rfl) :
    JB x ops K so sH (fuel + 1) listed l own H := fun hreg hle hk a w hh => by
  have hl := ht.nxt
  subst hl
  exact wpAT_first (fun _ => trivial) ho (Region.noSelect_spec hreg.sel) hreg.noDefer (fun c a' w' h' => h') (fun _ j _ h => h.mono j) (fun _ _ h => h.skip hn) (D := D) (T := Stab (segsOf D so) sH) (fun _ _ hD h => h.stab hD)
    fuel listed a w (Region.free_spec ho ht.free) hD (by simpa using ht.rdy)
    (.inl ⟨wanted_yes hh hg, fun w' hw' => hr a.eval w' (some d) pos aft g (fun o u e => eval_of hh e) hw'⟩) (hk.sb hle hh) (h hreg hle (hk.mono i) _ _ (hh.put hd v))
theorem JB.no {j t : Nat} {b b' : Bool} {oj : Oper} (ho : ops[i]? = some ⟨some d, op, ty, pos, aft, some (j, b)⟩) (hj : ops[j]? = some oj) (htj : oj.dst = some t) (hb : lk l t = some (.bool b')) (hne : (b' == b) = false)
    (h : JB x ops K so sH fuel listed' ((d, undef) :: l) own H)
    (ht : Take ops listed i listed' := by exact ⟨by kernel_rfl, by kernel_rfl, rfl⟩) (hn : noTurn so i = true := by rfl) (hd : Nat.blt d x.n = true := by rfl) :
    JB x ops K so sH (fuel + 1) listed l own H := fun hreg hle hk a w hh => by
  have hl := ht.nxt
  subst hl
  have hw : Region.wanted ⟨some d, op, ty, pos, aft, some (j, b)⟩ (yielded ops a.tmps) = false := by
    simp only [Region.wanted, yielded, hj, Option.bind_some, htj]
    have := hh.slots t _ hb
    cases hs : a.tmps[t]? with
    | none => simp [hs, undef] at this
    | some u => simp [hs] at this; subst this; simpa using hne
  exact wpAT_first (fun _ => trivial) ho (Region.noSelect_spec hreg.sel) hreg.noDefer (fun c a' w' h' => h') (fun _ j _ h => h.mono j) (fun _ _ h => h.skip hn) (D := []) (T := fun _ => True) (fun _ _ _ _ => trivial)
    fuel listed a w (Region.free_spec ho ht.free) rfl (by simpa using ht.rdy) (.inr ⟨hw, rfl⟩) (hk.sb hle hh) (h hreg hle (hk.mono i) _ _ (hh.put hd undef))
theorem JB.noU {j t : Nat} {b : Bool} {oj : Oper} (ho : ops[i]? = some ⟨some d, op, ty, pos, aft, some (j, b)⟩) (hj : ops[j]? = some oj) (htj : oj.dst = some t) (hb : lk l t = some undef)
    (h : JB x ops K so sH fuel listed' ((d, undef) :: l) own H)
    (ht : Take ops listed i listed' := by exact ⟨by kernel_rfl, by kernel_rfl, rfl⟩) (hn : noTurn so i = true := by rfl) (hd : Nat.blt d x.n = true := by rfl) :
    JB x ops K so sH (fuel + 1) listed l own H := fun hreg hle hk a w hh => by
  have hl := ht.nxt
  subst hl
  have hw : Region.wanted ⟨some d, op, ty, pos, aft, some (j, b)⟩ (yielded ops a.tmps) = false := by
    simp only [Region.wanted, yielded, hj, Option.bind_some, htj]
    have := hh.slots t _ hb
    cases hs : a.tmps[t]? with
    | none => simp
    | some u => simp [hs] at this; subst this; simp [undef]
  exact wpAT_first (fun _ => trivial) ho (Region.noSelect_spec hreg.sel) hreg.noDefer (fun c a' w' h' => h') (fun _ j _ h => h.mono j) (fun _ _ h => h.skip hn) (D := []) (T := fun _ => True) (fun _ _ _ _ => trivial)
    fuel listed a w (Region.free_spec ho ht.free) rfl (by simpa using ht.rdy) (.inr ⟨hw, rfl⟩) (hk.sb hle hh) (h hreg hle (hk.mono i) _ _ (hh.put hd undef))
theorem JB.doneN (hr : Region.ready .any ops listed = []) (h : JN x K l own H) : JB x ops K so sH fuel listed l own H := fun _ _ _ a w hh => by
  cases fuel with
  | zero => exact ⟨hr, h a w hh⟩
  | succ fuel => exact ⟨fun _ => h a w hh, by rw [hr]; simp⟩
theorem JB.one (hr : Region.ready .any ops listed = [i]) (h1 : JOB x ops K so sH fuel listed i l own H) : JB x ops K so sH (fuel + 1) listed l own H := fun hreg hle hk a w hh => by
  refine ⟨fun h0 => (by rw [hr] at h0; cases h0), fun k hk' => ?_⟩
  rw [hr] at hk'; simp at hk'; subst hk'; exact h1 hreg hle hk a w hh
theorem JB.two {j : Nat} (hr : Region.ready .any ops listed = [i, j]) (h1 : JOB x ops K so sH fuel listed i l own H) (h2 : JOB x ops K so sH fuel listed j l own H) :
    JB x ops K so sH (fuel + 1) listed l own H := fun hreg hle hk a w hh => by
  refine ⟨fun h0 => (by rw [hr] at h0; cases h0), fun k hk' => ?_⟩
  rw [hr] at hk'; simp at hk'; rcases hk' with rfl | rfl
  · exact h1 hreg hle hk a w hh
  · exact h2 hreg hle hk a w hh
theorem JOB.step {dst : Option Tmp} (ho : ops[i]? = some ⟨dst, op, ty, pos, aft, g⟩) (hg : guardYes ops l g) (hl : listed.setIfInBounds i true = listed')
    (h : ∀ K' : Act → World → Prop, (∀ l' own' H', Hle sH H' → Kept' so listed' own' → JB x ops K so sH fuel listed' l' own' H' → JN x K' l' own' H') →
      JL x ops (fun e a w => match e with | .normal => K' a w | e => onlyN K e a w) [⟨dst, op, ty, pos, aft, none⟩] l own H) :
    JOB x ops K so sH fuel listed i l own H := fun hreg hle hk a w hh => by
  subst hl
  have := h (fun a' w' => SB so sH (listed.setIfInBounds i true) w' ∧ wpAT (Fw x.r) 0 x.P .any ops (onlyN K) (SB so sH) fuel (listed.setIfInBounds i true) a' w')
    (fun l' own' H' hle' hk' hJ a' w' hh' => ⟨hk'.sb hle' hh', hJ hreg hle' hk' a' w' hh'⟩) a w hh
  simp only [wpLs, wanted_none, if_true] at this
  unfold wpOpIn
  simp only [ho]
  rw [if_pos (wanted_yes hh hg)]
  refine ⟨fun _ _ => trivial, ?_⟩
  have h2 := this.2
  have es : ∀ (ρ : Operand → Value), Oper.semAt (Fw x.r).round ρ ⟨dst, op, ty, pos, aft, g⟩ = Oper.semAt (Fw x.r).round ρ ⟨dst, op, ty, pos, aft, none⟩ := fun ρ => by
    unfold Oper.semAt; cases (Fw x.r).round <;> cases op <;> rfl
  rw [es]
  generalize (Oper.semAt (Fw x.r).round a.eval ⟨dst, op, ty, pos, aft, none⟩).run x.P w = r at *
  cases r with
  | ok y w' =>
    cases y <;> simp only [Oper.uponIn] at h2 ⊢ <;> first | exact h2 | exact ⟨h2.1, CallsIn.mono h2.2 (fun e w'' he => by cases e <;> exact he)⟩ | exact ⟨h2.1, RoundIn.mono h2.2 (fun e w'' he => by cases e <;> exact he)⟩
  | halt y w' => cases y <;> simp only [Oper.uponIn] at h2 ⊢ <;> exact h2
end
end Go.Ow

/-
  What is proved here: contracts said by lists of places: what is handed in, what comes back; rules for entering, leaving and calling that read these lists.
-/
namespace Go.Ow
open Go.RowKit
set_option linter.unusedVariables false
set_option linter.unusedSimpArgs false

class MonoC {α : Type} (R : Rep α) : Prop where
  h : R.Mono
instance : MonoC RU8 := ⟨RU8.mono⟩
instance : MonoC RU32 := ⟨RU32.mono⟩
instance : MonoC RU64 := ⟨RU64.mono⟩
instance : MonoC RInt := ⟨RInt.mono⟩
instance : MonoC RBool := ⟨RBool.mono⟩
instance : MonoC RStr := ⟨RStr.mono⟩
instance {α : Type} {R : Rep α} {n : Nat} [h : MonoC R] : MonoC (RSl R n) := ⟨RSl.mono h.h⟩
instance : MonoC R_Call := ⟨R_Call.mono⟩
instance : MonoC R_Change := ⟨R_Change.mono⟩
instance : MonoC R_Deed := ⟨R_Deed.mono⟩
instance : MonoC R_Disk := ⟨R_Disk.mono⟩
instance : MonoC R_Entry := ⟨R_Entry.mono⟩
instance : MonoC R_Info := ⟨R_Info.mono⟩
instance : MonoC R_Label := ⟨R_Label.mono⟩
instance : MonoC R_Line := ⟨R_Line.mono⟩
instance : MonoC R_Object := ⟨R_Object.mono⟩
instance : MonoC R_Pair := ⟨R_Pair.mono⟩
instance : MonoC R_Part := ⟨R_Part.mono⟩
instance : MonoC R_Pool := ⟨R_Pool.mono⟩
instance : MonoC R_Ptr := ⟨R_Ptr.mono⟩
instance : MonoC R_Reply := ⟨R_Reply.mono⟩
instance : MonoC R_Signer := ⟨R_Signer.mono⟩
instance : MonoC R_Store := ⟨R_Store.mono⟩
instance : MonoC R_Stream := ⟨R_Stream.mono⟩
instance : MonoC R_Write := ⟨R_Write.mono⟩
instance : MonoC R_WriteO := ⟨R_WriteO.mono⟩

/-- one place of what is handed in, or comes back -/
inductive Sp : Type 1 where
  | i (n : Int)
  | b (x : Bool)
  | w8 (x : UInt8)
  | w32 (x : UInt32)
  | w64 (x : UInt64)
  | s (l : List UInt8)
  | st (c : Nat)
  | fv (f : Nat)
  | cx {α : Type} (N : Bool) (R : Rep α) (hR : MonoC R) (n : Nat) (m : List α)
  | sx {α : Type} (N : Bool) (R : Rep α) (hR : MonoC R) (n : Nat) (m : List α)
  | rx {α : Type} (N : Bool) (R : Rep α) (hR : MonoC R) (E n : Nat) (m : List α)
@[reducible] def Sp.sl {α : Type} (N : Bool) (R : Rep α) [h : MonoC R] (n : Nat) (m : List α) : Sp := .sx N R h n m
@[reducible] def Sp.cl {α : Type} (N : Bool) (R : Rep α) [h : MonoC R] (n : Nat) (m : List α) : Sp := .cx N R h n m
@[reducible] def Sp.row {α : Type} (N : Bool) (R : Rep α) [h : MonoC R] (E n : Nat) (m : List α) : Sp := .rx N R h E n m
/-! structures, place by place -/
def takeK : Nat → List Value → (List Value → List Value → Prop) → Prop
  | 0, vs, k => k [] vs
  | c + 1, v :: vs, k => takeK c vs (fun a b => k (v :: a) b)
  | _ + 1, [], k => k [] []
theorem takeK_eq : ∀ (c : Nat) (vs : List Value) (k : List Value → List Value → Prop), takeK c vs k → k (vs.take c) (vs.drop c)
  | 0, vs, k, h => h
  | c + 1, [], k, h => h
  | c + 1, v :: vs, k, h => takeK_eq c vs (fun a b => k (v :: a) b) h
/-- the values, those of numbers, flags and texts spelled anew -/
def fl : List Sp → List Value → List Value
  | [], _ => []
  | .st c :: as, .agg cs :: vs => .agg ((fl as (cs.toList ++ vs)).take c).toArray :: (fl as (cs.toList ++ vs)).drop c
  | .st _ :: _, _ => []
  | .sx .. :: as, v :: vs => v :: fl as vs
  | .cx .. :: as, v :: vs => v :: fl as vs
  | .fv f :: as, _ :: vs => .func (.func f) #[] #[] :: fl as vs
  | .rx .. :: as, v :: vs => v :: fl as vs
  | .i n :: as, _ :: vs => .int .i64 n :: fl as vs
  | .b x :: as, _ :: vs => .bool x :: fl as vs
  | .w8 x :: as, _ :: vs => .int .u8 (x.toNat : Int) :: fl as vs
  | .w32 x :: as, _ :: vs => .int .u32 (x.toNat : Int) :: fl as vs
  | .w64 x :: as, _ :: vs => .int .u64 (x.toNat : Int) :: fl as vs
  | .s x :: as, _ :: vs => .string (Ow.bs x) :: fl as vs
  | _ :: _, [] => []
theorem fl_st {c : Nat} {as : List Sp} {cs : Array Value} {vs : List Value} (h : fl (.st c :: as) (.agg cs :: vs) = .agg cs :: vs) :
    fl as (cs.toList ++ vs) = cs.toList ++ vs ∧ (cs.toList ++ vs).take c = cs.toList ∧ (cs.toList ++ vs).drop c = vs := by
  simp only [fl] at h
  obtain ⟨h1, h2⟩ := List.cons.inj h
  have h3 := congrArg Array.toList (Value.agg.inj h1)
  rw [List.toList_toArray] at h3
  have h4 : fl as (cs.toList ++ vs) = cs.toList ++ vs := by
    conv => lhs; rw [← List.take_append_drop c (fl as (cs.toList ++ vs)), h3, h2]
  exact ⟨h4, by rw [← h4]; exact h3, by rw [← h4]; exact h2⟩

/-! ### What is handed in -/
def Ent (H : Heaplet) : List Sp → (List Value → Prop) → Prop
  | [], k => k []
  | .st c :: as, k => Ent H as (fun vs => takeK c vs (fun a b => k (.agg a.toArray :: b)))
  | .sx _ R hR n m :: as, k => ∀ (ao : Option Addr) (ln cap : Nat), IsSlice H R n (.slice ao ln cap) m → Ent H as (fun vs => k (.slice ao ln cap :: vs))
  | .rx .. :: as, k => True
  | .cx .. :: as, k => True
  | .fv f :: as, k => Ent H as (fun vs => k (.func (.func f) #[] #[] :: vs))
  | .i n :: as, k => Ent H as (fun vs => k (.int .i64 n :: vs))
  | .b x :: as, k => Ent H as (fun vs => k (.bool x :: vs))
  | .w8 x :: as, k => Ent H as (fun vs => k (.int .u8 (x.toNat : Int) :: vs))
  | .w32 x :: as, k => Ent H as (fun vs => k (.int .u32 (x.toNat : Int) :: vs))
  | .w64 x :: as, k => Ent H as (fun vs => k (.int .u64 (x.toNat : Int) :: vs))
  | .s x :: as, k => Ent H as (fun vs => k (.string (Ow.bs x) :: vs))
def Fit (H : Heaplet) : List Sp → List Value → Prop
  | [], _ => True
  | .st _ :: as, .agg cs :: vs => Fit H as (cs.toList ++ vs)
  | .st _ :: _, _ => False
  | .sx _ R hR n m :: as, v :: vs => IsSlice H R n v m ∧ Fit H as vs
  | .rx .. :: _, _ => False
  | .cx .. :: _, _ => False
  | .fv _ :: as, _ :: vs => Fit H as vs
  | .i _ :: as, _ :: vs => Fit H as vs
  | .b _ :: as, _ :: vs => Fit H as vs
  | .w8 _ :: as, _ :: vs => Fit H as vs
  | .w32 _ :: as, _ :: vs => Fit H as vs
  | .w64 _ :: as, _ :: vs => Fit H as vs
  | .s _ :: as, _ :: vs => Fit H as vs
  | _ :: _, [] => False
theorem ent_fit {H : Heaplet} : ∀ {as : List Sp} {vs : List Value} {k : List Value → Prop}, Ent H as k → fl as vs = vs → Fit H as vs → k vs
  | [], vs, k, h, e, _ => by simp only [fl] at e; rw [← e]; exact h
  | .st c :: as, [], k, h, e, f => f.elim
  | .st c :: as, v :: vs, k, h, e, f => by
    cases v <;> first | exact f.elim | skip
    rename_i cs
    obtain ⟨e1, e2, e3⟩ := fl_st e
    have := takeK_eq _ _ _ (ent_fit (as := as) (k := fun vs => takeK c vs (fun a b => k (.agg a.toArray :: b))) h e1 f)
    rw [e2, e3] at this
    simpa using this
  | .rx .. :: as, [], k, h, e, f => f.elim
  | .rx .. :: as, _ :: _, k, h, e, f => f.elim
  | .cx .. :: as, [], k, h, e, f => f.elim
  | .cx .. :: as, _ :: _, k, h, e, f => f.elim
  | .fv _ :: as, [], k, h, e, f => f.elim
  | .fv _ :: as, _ :: vs, k, h, e, f => by obtain ⟨e1, e2⟩ := List.cons.inj e; subst e1; exact ent_fit (k := fun vs => k (_ :: vs)) h e2 f
  | .sx _ R hR n m :: as, [], k, h, e, f => f.elim
  | .sx _ R hR n m :: as, v :: vs, k, h, e, f => by
    obtain ⟨ao, cap, rfl⟩ := IsSlice.val f.1
    exact ent_fit (as := as) (k := fun vs => k (_ :: vs)) (h ao m.length cap f.1) (List.cons.inj e).2 f.2
  | .i _ :: as, [], k, h, e, f => f.elim
  | .i _ :: as, _ :: vs, k, h, e, f => by obtain ⟨e1, e2⟩ := List.cons.inj e; subst e1; exact ent_fit (k := fun vs => k (_ :: vs)) h e2 f
  | .b _ :: as, [], k, h, e, f => f.elim
  | .b _ :: as, _ :: vs, k, h, e, f => by obtain ⟨e1, e2⟩ := List.cons.inj e; subst e1; exact ent_fit (k := fun vs => k (_ :: vs)) h e2 f
  | .w8 _ :: as, [], k, h, e, f => f.elim
  | .w8 _ :: as, _ :: vs, k, h, e, f => by obtain ⟨e1, e2⟩ := List.cons.inj e; subst e1; exact ent_fit (k := fun vs => k (_ :: vs)) h e2 f
  | .w32 _ :: as, [], k, h, e, f => f.elim
  | .w32 _ :: as, _ :: vs, k, h, e, f => by obtain ⟨e1, e2⟩ := List.cons.inj e; subst e1; exact ent_fit (k := fun vs => k (_ :: vs)) h e2 f
  | .w64 _ :: as, [], k, h, e, f => f.elim
  | .w64 _ :: as, _ :: vs, k, h, e, f => by obtain ⟨e1, e2⟩ := List.cons.inj e; subst e1; exact ent_fit (k := fun vs => k (_ :: vs)) h e2 f
  | .s _ :: as, [], k, h, e, f => f.elim
  | .s _ :: as, _ :: vs, k, h, e, f => by obtain ⟨e1, e2⟩ := List.cons.inj e; subst e1; exact ent_fit (k := fun vs => k (_ :: vs)) h e2 f

/-! ### What comes back -/
def HN : Bool → Heaplet → Heaplet → Heaplet
  | true, H0, H => New H0 H
  | false, _, H => H
def Out (H0 H : Heaplet) : List Sp → List Value → List Own → Prop
  | [], _, Ks => Ks = []
  | .st _ :: bs, .agg cs :: vs, Ks => Out H0 H bs (cs.toList ++ vs) Ks
  | .st _ :: _, _, _ => False
  | .sx N R hR n m :: bs, v :: vs, Ks => IsSlice (HN N H0 H) R n v m ∧ Out H0 H bs vs Ks
  | .rx N R hR E n m :: bs, v :: vs, K :: Ks => (∃ B, RowOf (HN N H0 H) R B E n v m K) ∧ Out H0 H bs vs Ks
  | .rx .. :: _, _ :: _, [] => False
  | .cx N R hR n m :: bs, v :: vs, Ks => ((∃ ao ln, v = .slice ao ln ln) ∧ IsSlice (HN N H0 H) R n v m) ∧ Out H0 H bs vs Ks
  | .fv _ :: _, _, _ => False
  | .i _ :: bs, _ :: vs, Ks => Out H0 H bs vs Ks
  | .b _ :: bs, _ :: vs, Ks => Out H0 H bs vs Ks
  | .w8 _ :: bs, _ :: vs, Ks => Out H0 H bs vs Ks
  | .w32 _ :: bs, _ :: vs, Ks => Out H0 H bs vs Ks
  | .w64 _ :: bs, _ :: vs, Ks => Out H0 H bs vs Ks
  | .s _ :: bs, _ :: vs, Ks => Out H0 H bs vs Ks
  | _ :: _, [], _ => False
def Bnd (H0 H : Heaplet) (B : Nat) (own : List Own) : List Sp → (List Value → List Own → Prop) → Prop
  | [], k => k [] own
  | .st c :: bs, k => Bnd H0 H B own bs (fun vs o => takeK c vs (fun a b => k (.agg a.toArray :: b) o))
  | .sx true R hR n m :: bs, k => ∀ (ao : Option Addr) (ln cap : Nat), IsSlice (New H0 H) R n (.slice ao ln cap) m → Bnd H0 H B own bs (fun vs o => k (.slice ao ln cap :: vs) o)
  | .sx false R hR n m :: bs, k => ∀ (ao : Option Addr) (ln cap : Nat), IsSlice H R n (.slice ao ln cap) m → Bnd H0 H B own bs (fun vs o => k (.slice ao ln cap :: vs) o)
  | .rx true R hR E n m :: bs, k => ∀ (ao : Option Addr) (ln cap : Nat) (K : Own), RowOf (New H0 H) R B E n (.slice ao ln cap) m K → Bnd H0 H B own bs (fun vs o => k (.slice ao ln cap :: vs) (K :: o))
  | .rx false R hR E n m :: bs, k => ∀ (ao : Option Addr) (ln cap : Nat) (K : Own), RowOf H R B E n (.slice ao ln cap) m K → Bnd H0 H B own bs (fun vs o => k (.slice ao ln cap :: vs) (K :: o))
  | .cx true R hR n m :: bs, k => ∀ (ao : Option Addr) (ln : Nat), IsSlice (New H0 H) R n (.slice ao ln ln) m → Bnd H0 H B own bs (fun vs o => k (.slice ao ln ln :: vs) o)
  | .cx false R hR n m :: bs, k => ∀ (ao : Option Addr) (ln : Nat), IsSlice H R n (.slice ao ln ln) m → Bnd H0 H B own bs (fun vs o => k (.slice ao ln ln :: vs) o)
  | .fv _ :: bs, k => True
  | .i n :: bs, k => Bnd H0 H B own bs (fun vs o => k (.int .i64 n :: vs) o)
  | .b x :: bs, k => Bnd H0 H B own bs (fun vs o => k (.bool x :: vs) o)
  | .w8 x :: bs, k => Bnd H0 H B own bs (fun vs o => k (.int .u8 (x.toNat : Int) :: vs) o)
  | .w32 x :: bs, k => Bnd H0 H B own bs (fun vs o => k (.int .u32 (x.toNat : Int) :: vs) o)
  | .w64 x :: bs, k => Bnd H0 H B own bs (fun vs o => k (.int .u64 (x.toNat : Int) :: vs) o)
  | .s x :: bs, k => Bnd H0 H B own bs (fun vs o => k (.string (Ow.bs x) :: vs) o)
theorem bnd_out {H0 H1 H : Heaplet} {B : Nat} {own : List Own} (hle : Hle H0 H1) : ∀ {bs : List Sp} {vs : List Value} {Ks : List Own} {k : List Value → List Own → Prop},
    Bnd H0 H B own bs k → fl bs vs = vs → Out H1 H bs vs Ks → (∀ p ∈ Ks.flatten, B ≤ p.1) → k vs (Ks ++ own)
  | [], vs, Ks, k, h, e, f, hB => by simp only [fl] at e; rw [← e, show Ks = [] from f]; exact h
  | .st c :: bs, [], Ks, k, h, e, f, hB => f.elim
  | .st c :: bs, v :: vs, Ks, k, h, e, f, hB => by
    cases v <;> first | exact f.elim | skip
    rename_i cs
    obtain ⟨e1, e2, e3⟩ := fl_st e
    have := takeK_eq _ _ _ (bnd_out hle (k := fun vs o => takeK c vs (fun a b => k (.agg a.toArray :: b) o)) h e1 f hB)
    rw [e2, e3] at this
    simpa using this
  | .sx N R hR n m :: bs, [], Ks, k, h, e, f, hB => f.elim
  | .sx true R hR n m :: bs, v :: vs, Ks, k, h, e, f, hB => by
    obtain ⟨ao, cap, rfl⟩ := IsSlice.val f.1
    exact bnd_out hle (k := fun vs o => k (_ :: vs) o) (h ao m.length cap (IsSlice.mono hR.h (New.call hle) f.1)) (List.cons.inj e).2 f.2 hB
  | .sx false R hR n m :: bs, v :: vs, Ks, k, h, e, f, hB => by
    obtain ⟨ao, cap, rfl⟩ := IsSlice.val f.1
    exact bnd_out hle (k := fun vs o => k (_ :: vs) o) (h ao m.length cap f.1) (List.cons.inj e).2 f.2 hB
  | .rx N R hR E n m :: bs, [], Ks, k, h, e, f, hB => f.elim
  | .rx N R hR E n m :: bs, v :: vs, [], k, h, e, f, hB => f.elim
  | .rx true R hR E n m :: bs, v :: vs, K :: Ks, k, h, e, f, hB => by
    obtain ⟨⟨B', f1⟩, f2⟩ := f
    obtain ⟨ao, cap, rfl⟩ := RowOf.val f1
    have f3 := RowOf.base (RowOf.mono hR.h (New.call hle) f1) (fun p hp => hB p (by simp [hp]))
    exact bnd_out hle (k := fun vs o => k (_ :: vs) (K :: o)) (h ao m.length cap K f3) (List.cons.inj e).2 f2 (fun p hp => hB p (by rw [List.flatten_cons]; exact List.mem_append_right _ hp))
  | .rx false R hR E n m :: bs, v :: vs, K :: Ks, k, h, e, f, hB => by
    obtain ⟨⟨B', f1⟩, f2⟩ := f
    obtain ⟨ao, cap, rfl⟩ := RowOf.val f1
    have f3 := RowOf.base f1 (fun p hp => hB p (by simp [hp]))
    exact bnd_out hle (k := fun vs o => k (_ :: vs) (K :: o)) (h ao m.length cap K f3) (List.cons.inj e).2 f2 (fun p hp => hB p (by rw [List.flatten_cons]; exact List.mem_append_right _ hp))
  | .fv _ :: bs, [], Ks, k, h, e, f, hB => f.elim
  | .fv _ :: bs, _ :: _, Ks, k, h, e, f, hB => f.elim
  | .cx N R hR n m :: bs, [], Ks, k, h, e, f, hB => f.elim
  | .cx true R hR n m :: bs, v :: vs, Ks, k, h, e, f, hB => by
    obtain ⟨⟨⟨ao, ln, rfl⟩, f1⟩, f2⟩ := f
    exact bnd_out hle (k := fun vs o => k (_ :: vs) o) (h ao ln (IsSlice.mono hR.h (New.call hle) f1)) (List.cons.inj e).2 f2 hB
  | .cx false R hR n m :: bs, v :: vs, Ks, k, h, e, f, hB => by
    obtain ⟨⟨⟨ao, ln, rfl⟩, f1⟩, f2⟩ := f
    exact bnd_out hle (k := fun vs o => k (_ :: vs) o) (h ao ln f1) (List.cons.inj e).2 f2 hB
  | .i _ :: bs, [], Ks, k, h, e, f, hB => f.elim
  | .i _ :: bs, _ :: vs, Ks, k, h, e, f, hB => by obtain ⟨e1, e2⟩ := List.cons.inj e; subst e1; exact bnd_out hle (k := fun vs o => k (_ :: vs) o) h e2 f hB
  | .b _ :: bs, [], Ks, k, h, e, f, hB => f.elim
  | .b _ :: bs, _ :: vs, Ks, k, h, e, f, hB => by obtain ⟨e1, e2⟩ := List.cons.inj e; subst e1; exact bnd_out hle (k := fun vs o => k (_ :: vs) o) h e2 f hB
  | .w8 _ :: bs, [], Ks, k, h, e, f, hB => f.elim
  | .w8 _ :: bs, _ :: vs, Ks, k, h, e, f, hB => by obtain ⟨e1, e2⟩ := List.cons.inj e; subst e1; exact bnd_out hle (k := fun vs o => k (_ :: vs) o) h e2 f hB
  | .w32 _ :: bs, [], Ks, k, h, e, f, hB => f.elim
  | .w32 _ :: bs, _ :: vs, Ks, k, h, e, f, hB => by obtain ⟨e1, e2⟩ := List.cons.inj e; subst e1; exact bnd_out hle (k := fun vs o => k (_ :: vs) o) h e2 f hB
  | .w64 _ :: bs, [], Ks, k, h, e, f, hB => f.elim
  | .w64 _ :: bs, _ :: vs, Ks, k, h, e, f, hB => by obtain ⟨e1, e2⟩ := List.cons.inj e; subst e1; exact bnd_out hle (k := fun vs o => k (_ :: vs) o) h e2 f hB
  | .s _ :: bs, [], Ks, k, h, e, f, hB => f.elim
  | .s _ :: bs, _ :: vs, Ks, k, h, e, f, hB => by obtain ⟨e1, e2⟩ := List.cons.inj e; subst e1; exact bnd_out hle (k := fun vs o => k (_ :: vs) o) h e2 f hB

/-! ### Contracts -/
def PostC {ρ : Type} (q : Bool) (H : Heaplet) (B : ρ → List Sp) (r : ρ) (u : Value) (K : List Own) (H' : Heaplet) : Prop := ∃ vs, u = pack vs ∧ fl (B r) vs = vs ∧ Out H H' (B r) vs K ∧ (q = true → H' = H)
def Con {ρ : Type} (P : Program) (f : FuncId) (q : Bool) (As : List Sp) (o : Option ρ) (B : ρ → List Sp) : Prop :=
  ∀ H, Ent H As (fun vs => ∀ r, o = some r → Does P f vs.toArray [] H (PostC q H B r))
theorem Con.does {ρ : Type} {P : Program} {f : FuncId} {q : Bool} {As : List Sp} {o : Option ρ} {B : ρ → List Sp} {H : Heaplet} {vs : List Value} {r : ρ}
    (C : Con P f q As o B) (e : fl As vs = vs) (h : Fit H As vs) (hr : o = some r) : Does P f vs.toArray [] H (PostC q H B r) := ent_fit (C H) e h r hr

section rules
variable {x : Cx} {ops : Array Oper} {Q : Exit → Act → World → Prop} {rest : List Oper} {l : Slots} {own : List Own} {H : Heaplet} {ty : TypeId} {d : Nat} {pos : String} {aft : Array Edge}
/-- who is called, with what -/
def prep (l : Slots) (c : Operand) (as : List Operand) (d N : Nat) : Option (Nat × List Value) := match evo l c with
  | some (.func (.func f) ⟨[]⟩ ⟨[]⟩) => match evs l as with
    | some vs => bif Nat.blt d N then some (f, vs) else none
    | none => none
  | _ => none
theorem prep_ok {l : Slots} {c : Operand} {as : List Operand} {d N f : Nat} {vs : List Value} (h : prep l c as d N = some (f, vs)) :
    evo l c = some (.func (.func f) #[] #[]) ∧ as.mapM (evo l) = some vs ∧ Nat.blt d N = true := by
  unfold prep at h
  split at h
  · rename_i h1
    split at h
    · rename_i h2
      cases hb : Nat.blt d N with
      | true => rw [hb] at h; cases h; exact ⟨h1, evs_ok h2, rfl⟩
      | false => rw [hb] at h; cases h
    · cases h
  · cases h
variable {ρ β : Type} {o : Option ρ} {k : ρ → Option β} {c : Operand} {as : Array Operand} {ts : Array TypeId} {f : FuncId} {vs : List Value} {As : List Sp} {B : ρ → List Sp}
theorem JL.con' {y : ρ} (hy : o = some y) (he : Enters x.P f) (hp : prep l c as.toList d x.n = some (f, vs)) (C : Con x.P f false As o B) (e : fl As vs = vs) (hA : Fit H As vs)
    (h : ∀ H', Hle H H' → Bnd x.H0 H' x.w0.heap.size own (B y) (fun us o' => JL x ops Q rest ((d, pack us) :: l) o' H')) :
    JL x ops Q (⟨some d, .call ⟨.value c, as, ts⟩, ty, pos, aft, none⟩ :: rest) l own H := fun a w hh => by
  obtain ⟨h1, h2, h3⟩ := prep_ok hp
  refine JL.call he h1 h2 (C.does e hA hy) h3 (fun v K' H' hR hle hf => ?_) a w hh
  obtain ⟨us, rfl, e2, ho, -⟩ := hR
  exact bnd_out hh.mem.le (k := fun us o' => JL x ops Q rest ((d, pack us) :: l) o' H') (h H' hle) e2 ho hf
theorem JL.con {r' : β} (hx : Option.bind o k = some r') (he : Enters x.P f) (hp : prep l c as.toList d x.n = some (f, vs)) (C : Con x.P f false As o B) (e : fl As vs = vs) (hA : Fit H As vs)
    (h : ∀ y, o = some y → k y = some r' → ∀ H', Hle H H' → Bnd x.H0 H' x.w0.heap.size own (B y) (fun us o' => JL x ops Q rest ((d, pack us) :: l) o' H')) :
    JL x ops Q (⟨some d, .call ⟨.value c, as, ts⟩, ty, pos, aft, none⟩ :: rest) l own H := by
  obtain ⟨y, hy, hk⟩ := bnd_some hx
  exact JL.con' hy he hp C e hA (h y hy hk)
theorem JL.conQ' {y : ρ} (hy : o = some y) (he : Enters x.P f) (hp : prep l c as.toList d x.n = some (f, vs)) (C : Con x.P f true As o B) (e : fl As vs = vs) (hA : Fit H As vs)
    (h : Bnd x.H0 H x.w0.heap.size own (B y) (fun us o' => JL x ops Q rest ((d, pack us) :: l) o' H)) :
    JL x ops Q (⟨some d, .call ⟨.value c, as, ts⟩, ty, pos, aft, none⟩ :: rest) l own H := fun a w hh => by
  obtain ⟨h1, h2, h3⟩ := prep_ok hp
  refine JL.call he h1 h2 (C.does e hA hy) h3 (fun v K' H' hR hle hf => ?_) a w hh
  obtain ⟨us, rfl, e2, ho, hq⟩ := hR
  have := hq rfl
  subst this
  exact bnd_out hh.mem.le (k := fun us o' => JL x ops Q rest ((d, pack us) :: l) o' _) h e2 ho hf
theorem JL.conQ {r' : β} (hx : Option.bind o k = some r') (he : Enters x.P f) (hp : prep l c as.toList d x.n = some (f, vs)) (C : Con x.P f true As o B) (e : fl As vs = vs) (hA : Fit H As vs)
    (h : ∀ y, o = some y → k y = some r' → Bnd x.H0 H x.w0.heap.size own (B y) (fun us o' => JL x ops Q rest ((d, pack us) :: l) o' H)) :
    JL x ops Q (⟨some d, .call ⟨.value c, as, ts⟩, ty, pos, aft, none⟩ :: rest) l own H := by
  obtain ⟨y, hy, hk⟩ := bnd_some hx
  exact JL.conQ' hy he hp C e hA (h y hy hk)
/-- results that do not lead to memory that stays -/
def Cst : List Sp → Prop
  | [] => True
  | .sx .. :: _ => False
  | .cx .. :: _ => False
  | .rx _ R _ _ _ _ :: bs => R.Const ∧ Cst bs
  | _ :: bs => Cst bs
theorem cst_out {H0 H H2 H3 : Heaplet} : ∀ {bs : List Sp} {vs : List Value} {Ks : List Own}, Cst bs → Out H0 H bs vs Ks → Out H2 H3 bs vs Ks
  | [], _, _, _, f => f
  | .st _ :: bs, [], _, _, f => f.elim
  | .st _ :: bs, v :: vs, _, hc, f => by cases v <;> first | exact f.elim | exact cst_out (bs := bs) hc f
  | .sx .. :: _, _, _, hc, _ => hc.elim
  | .cx .. :: _, _, _, hc, _ => hc.elim
  | .fv _ :: _, [], _, _, f => f.elim
  | .fv _ :: _, _ :: _, _, _, f => f.elim
  | .rx .. :: _, [], _, _, f => f.elim
  | .rx .. :: _, _ :: _, [], _, f => f.elim
  | .rx .. :: bs, _ :: _, _ :: _, hc, f => ⟨⟨f.1.choose, RowOf.const hc.1 f.1.choose_spec⟩, cst_out (bs := bs) hc.2 f.2⟩
  | .i _ :: _, [], _, _, f => f.elim
  | .i _ :: bs, _ :: _, _, hc, f => cst_out (bs := bs) hc f
  | .b _ :: _, [], _, _, f => f.elim
  | .b _ :: bs, _ :: _, _, hc, f => cst_out (bs := bs) hc f
  | .w8 _ :: _, [], _, _, f => f.elim
  | .w8 _ :: bs, _ :: _, _, hc, f => cst_out (bs := bs) hc f
  | .w32 _ :: _, [], _, _, f => f.elim
  | .w32 _ :: bs, _ :: _, _, hc, f => cst_out (bs := bs) hc f
  | .w64 _ :: _, [], _, _, f => f.elim
  | .w64 _ :: bs, _ :: _, _, hc, f => cst_out (bs := bs) hc f
  | .s _ :: _, [], _, _, f => f.elim
  | .s _ :: bs, _ :: _, _, hc, f => cst_out (bs := bs) hc f
/-- own blocks are lent -/
theorem JL.conL' {q : Bool} {y : ρ} (hy : o = some y) (he : Enters x.P f) (hp : prep l c as.toList d x.n = some (f, vs)) (C : Con x.P f q As o B) (e : fl As vs = vs) (hA : ∀ H2, Hle H H2 → Lent own H2 → Fit H2 As vs) (hc : Cst (B y))
    (h : Bnd x.H0 H x.w0.heap.size own (B y) (fun us o' => JL x ops Q rest ((d, pack us) :: l) o' H)) :
    JL x ops Q (⟨some d, .call ⟨.value c, as, ts⟩, ty, pos, aft, none⟩ :: rest) l own H := fun a w hh => by
  obtain ⟨h1, h2, h3⟩ := prep_ok hp
  refine JL.callL3 (R := fun H2 => PostC q H2 B y) he h1 h2 (fun H2 h4 h5 => C.does e (hA H2 h4 h5) hy) h3 (fun H2 v K' H' hR hf => ?_) a w hh
  obtain ⟨us, rfl, e2, ho, -⟩ := hR
  exact bnd_out (Hle.refl _) (k := fun us o' => JL x ops Q rest ((d, pack us) :: l) o' H) h e2 (cst_out hc ho) hf
theorem JL.conL {q : Bool} {r' : β} (hx : Option.bind o k = some r') (he : Enters x.P f) (hp : prep l c as.toList d x.n = some (f, vs)) (C : Con x.P f q As o B) (e : fl As vs = vs) (hA : ∀ H2, Hle H H2 → Lent own H2 → Fit H2 As vs) (hc : ∀ y, Cst (B y))
    (h : ∀ y, o = some y → k y = some r' → Bnd x.H0 H x.w0.heap.size own (B y) (fun us o' => JL x ops Q rest ((d, pack us) :: l) o' H)) :
    JL x ops Q (⟨some d, .call ⟨.value c, as, ts⟩, ty, pos, aft, none⟩ :: rest) l own H := by
  obtain ⟨y, hy, hk⟩ := bnd_some hx
  exact JL.conL' hy he hp C e hA (hc y) (h y hy hk)

/-! ### Leaving -/
def rets (l : Slots) : List ResultVar → Option (List Value)
  | [] => some []
  | .tmp t :: r => match lk l t with
    | some v => match rets l r with
      | some vs => some (v :: vs)
      | none => none
    | none => none
  | .cell .. :: _ => none
theorem rets_ok {P : Program} {l : Slots} {own : List Own} : ∀ {rs : List ResultVar} {vs : List Value}, rets l rs = some vs → Res P l own rs vs
  | [], vs, h => by simp [rets] at h; rw [h]; exact rfl
  | .tmp t :: r, vs, h => by
    simp only [rets] at h
    split at h
    · rename_i h1
      split at h
      · rename_i h2; cases h; exact Res.tmp h1 (rets_ok h2)
      · cases h
    · cases h
  | .cell .. :: _, _, h => by cases h
def pickL : List Nat → List Own → Option (List Own × List Own)
  | [], own => some ([], own)
  | i :: is, own => match own[i]? with
    | some s => match pickL is (own.eraseIdx i) with
      | some (K, r) => some (s :: K, r)
      | none => none
    | none => none
theorem pickL_ok : ∀ {is : List Nat} {own K r : List Own}, pickL is own = some (K, r) → own.flatten.Perm (K.flatten ++ r.flatten)
  | [], own, K, r, h => by cases h; exact picks0
  | i :: is, own, K, r, h => by
    simp only [pickL] at h
    split at h
    · rename_i h1
      split at h
      · rename_i h2; cases h; exact picks i h1 (pickL_ok h2)
      · cases h
    · cases h
/-- the way out: the values that are answered, their blocks -/
def outp (l : Slots) (own : List Own) (rs : List ResultVar) (e : Exit) (ds : List Deferred) (is : List Nat) : Option (List Value × List Own) := match ds with
  | [] => match e with
    | .ret => match rets l rs, pickL is own with
      | some vs, some (K, _) => some (vs, K)
      | _, _ => none
    | .normal => match rets l rs, pickL is own with
      | some vs, some (K, _) => some (vs, K)
      | _, _ => none
    | _ => none
  | _ => none
theorem outp_ok {P : Program} {l : Slots} {own : List Own} {rs : List ResultVar} {e : Exit} {ds : List Deferred} {is : List Nat} {vs : List Value} {K : List Own} (h : outp l own rs e ds is = some (vs, K)) :
    ds = [] ∧ (e = .ret ∨ e = .normal) ∧ Res P l own rs vs ∧ ∃ r : List Own, own.flatten.Perm (K.flatten ++ r.flatten) := by
  unfold outp at h
  split at h
  · split at h
    · split at h
      · rename_i h1 h2; cases h; exact ⟨rfl, .inl rfl, rets_ok h1, _, pickL_ok h2⟩
      · cases h
    · split at h
      · rename_i h1 h2; cases h; exact ⟨rfl, .inr rfl, rets_ok h1, _, pickL_ok h2⟩
      · cases h
    · cases h
  · cases h
variable {fn : Func} {ex : Exit} {z r : ρ} {Ks : List Own}
theorem JN.con (is : List Nat) (ho : outp l own fn.results.toList ex x.ds is = some (vs, Ks)) (hx : some z = some r) (hs : fl (B z) vs = vs) (hf : Out x.H0 H (B z) vs Ks) :
    JN x (Ret x fn (PostC false x.H0 B r) ex) l own H := by
  obtain ⟨h1, h2, h3, q, h4⟩ := outp_ok (P := x.P) ho
  obtain rfl := Option.some.inj hx
  exact JN.outP h2 (by simp) h1 h3 h4 ⟨vs, rfl, hs, hf, fun h => by cases h⟩
theorem JN.conQ (is : List Nat) (ho : outp l own fn.results.toList ex x.ds is = some (vs, Ks)) (hx : some z = some r) (hs : fl (B z) vs = vs) (hf : Out x.H0 x.H0 (B z) vs Ks) :
    JN x (Ret x fn (PostC true x.H0 B r) ex) l own x.H0 := by
  obtain ⟨h1, h2, h3, q, h4⟩ := outp_ok (P := x.P) ho
  obtain rfl := Option.some.inj hx
  exact JN.outP h2 (by simp) h1 h3 h4 ⟨vs, rfl, hs, hf, fun h => rfl⟩
end rules

/-! ### The same, in the older words -/
def Exo (H0 H : Heaplet) : List Sp → (List Value → List Own → Prop) → Prop
  | [], k => k [] []
  | .st c :: bs, k => Exo H0 H bs (fun vs o => takeK c vs (fun a b => k (.agg a.toArray :: b) o))
  | .sx true R hR n m :: bs, k => ∃ (ao : Option Addr) (ln cap : Nat), IsSlice (New H0 H) R n (.slice ao ln cap) m ∧ Exo H0 H bs (fun vs o => k (.slice ao ln cap :: vs) o)
  | .sx false R hR n m :: bs, k => ∃ (ao : Option Addr) (ln cap : Nat), IsSlice H R n (.slice ao ln cap) m ∧ Exo H0 H bs (fun vs o => k (.slice ao ln cap :: vs) o)
  | .rx true R hR E n m :: bs, k => ∃ (ao : Option Addr) (ln cap : Nat) (K : Own), RowOf (New H0 H) R 0 E n (.slice ao ln cap) m K ∧ Exo H0 H bs (fun vs o => k (.slice ao ln cap :: vs) (K :: o))
  | .rx false R hR E n m :: bs, k => ∃ (ao : Option Addr) (ln cap : Nat) (K : Own), RowOf H R 0 E n (.slice ao ln cap) m K ∧ Exo H0 H bs (fun vs o => k (.slice ao ln cap :: vs) (K :: o))
  | .cx true R hR n m :: bs, k => ∃ (ao : Option Addr) (ln : Nat), IsSlice (New H0 H) R n (.slice ao ln ln) m ∧ Exo H0 H bs (fun vs o => k (.slice ao ln ln :: vs) o)
  | .cx false R hR n m :: bs, k => ∃ (ao : Option Addr) (ln : Nat), IsSlice H R n (.slice ao ln ln) m ∧ Exo H0 H bs (fun vs o => k (.slice ao ln ln :: vs) o)
  | .fv _ :: _, _ => False
  | .i n :: bs, k => Exo H0 H bs (fun vs o => k (.int .i64 n :: vs) o)
  | .b x :: bs, k => Exo H0 H bs (fun vs o => k (.bool x :: vs) o)
  | .w8 x :: bs, k => Exo H0 H bs (fun vs o => k (.int .u8 (x.toNat : Int) :: vs) o)
  | .w32 x :: bs, k => Exo H0 H bs (fun vs o => k (.int .u32 (x.toNat : Int) :: vs) o)
  | .w64 x :: bs, k => Exo H0 H bs (fun vs o => k (.int .u64 (x.toNat : Int) :: vs) o)
  | .s x :: bs, k => Exo H0 H bs (fun vs o => k (.string (Ow.bs x) :: vs) o)
theorem takeK_of {c : Nat} : ∀ {vs : List Value} {k : List Value → List Value → Prop}, k (vs.take c) (vs.drop c) → takeK c vs k := by
  induction c with
  | zero => intro vs k h; exact h
  | succ c ih =>
    intro vs k h
    cases vs with
    | nil => exact h
    | cons v vs => exact ih (k := fun a b => k (v :: a) b) h
theorem exo_out {H0 H : Heaplet} : ∀ {bs : List Sp} {vs : List Value} {Ks : List Own} {k : List Value → List Own → Prop}, fl bs vs = vs → Out H0 H bs vs Ks → k vs Ks → Exo H0 H bs k
  | [], vs, Ks, k, e, f, h => by simp only [fl] at e; rw [← e, show Ks = [] from f] at h; exact h
  | .st c :: bs, [], Ks, k, e, f, h => f.elim
  | .st c :: bs, v :: vs, Ks, k, e, f, h => by
    cases v <;> first | exact f.elim | skip
    rename_i cs
    obtain ⟨e1, e2, e3⟩ := fl_st e
    refine exo_out (bs := bs) (k := fun vs o => takeK c vs (fun a b => k (.agg a.toArray :: b) o)) e1 f (takeK_of ?_)
    rw [e2, e3]; simpa using h
  | .sx N R hR n m :: bs, [], Ks, k, e, f, h => f.elim
  | .sx true R hR n m :: bs, v :: vs, Ks, k, e, f, h => by
    obtain ⟨ao, cap, rfl⟩ := IsSlice.val f.1
    exact ⟨ao, _, cap, f.1, exo_out (bs := bs) (k := fun vs o => k (_ :: vs) o) (List.cons.inj e).2 f.2 h⟩
  | .sx false R hR n m :: bs, v :: vs, Ks, k, e, f, h => by
    obtain ⟨ao, cap, rfl⟩ := IsSlice.val f.1
    exact ⟨ao, _, cap, f.1, exo_out (bs := bs) (k := fun vs o => k (_ :: vs) o) (List.cons.inj e).2 f.2 h⟩
  | .rx N R hR E n m :: bs, [], Ks, k, e, f, h => f.elim
  | .rx N R hR E n m :: bs, v :: vs, [], k, e, f, h => f.elim
  | .rx true R hR E n m :: bs, v :: vs, K :: Ks, k, e, f, h => by
    obtain ⟨⟨B', f1⟩, f2⟩ := f
    obtain ⟨ao, cap, rfl⟩ := RowOf.val f1
    exact ⟨ao, _, cap, K, RowOf.weak (Nat.zero_le _) f1, exo_out (bs := bs) (k := fun vs o => k (_ :: vs) (K :: o)) (List.cons.inj e).2 f2 h⟩
  | .rx false R hR E n m :: bs, v :: vs, K :: Ks, k, e, f, h => by
    obtain ⟨⟨B', f1⟩, f2⟩ := f
    obtain ⟨ao, cap, rfl⟩ := RowOf.val f1
    exact ⟨ao, _, cap, K, RowOf.weak (Nat.zero_le _) f1, exo_out (bs := bs) (k := fun vs o => k (_ :: vs) (K :: o)) (List.cons.inj e).2 f2 h⟩
  | .fv _ :: bs, [], Ks, k, e, f, h => f.elim
  | .fv _ :: bs, _ :: _, Ks, k, e, f, h => f.elim
  | .cx N R hR n m :: bs, [], Ks, k, e, f, h => f.elim
  | .cx true R hR n m :: bs, v :: vs, Ks, k, e, f, h => by
    obtain ⟨⟨⟨ao, ln, rfl⟩, f1⟩, f2⟩ := f
    exact ⟨ao, ln, f1, exo_out (bs := bs) (k := fun vs o => k (_ :: vs) o) (List.cons.inj e).2 f2 h⟩
  | .cx false R hR n m :: bs, v :: vs, Ks, k, e, f, h => by
    obtain ⟨⟨⟨ao, ln, rfl⟩, f1⟩, f2⟩ := f
    exact ⟨ao, ln, f1, exo_out (bs := bs) (k := fun vs o => k (_ :: vs) o) (List.cons.inj e).2 f2 h⟩
  | .i _ :: bs, [], Ks, k, e, f, h => f.elim
  | .i _ :: bs, _ :: vs, Ks, k, e, f, h => by obtain ⟨e1, e2⟩ := List.cons.inj e; subst e1; exact exo_out (bs := bs) (k := fun vs o => k (_ :: vs) o) e2 f h
  | .b _ :: bs, [], Ks, k, e, f, h => f.elim
  | .b _ :: bs, _ :: vs, Ks, k, e, f, h => by obtain ⟨e1, e2⟩ := List.cons.inj e; subst e1; exact exo_out (bs := bs) (k := fun vs o => k (_ :: vs) o) e2 f h
  | .w8 _ :: bs, [], Ks, k, e, f, h => f.elim
  | .w8 _ :: bs, _ :: vs, Ks, k, e, f, h => by obtain ⟨e1, e2⟩ := List.cons.inj e; subst e1; exact exo_out (bs := bs) (k := fun vs o => k (_ :: vs) o) e2 f h
  | .w32 _ :: bs, [], Ks, k, e, f, h => f.elim
  | .w32 _ :: bs, _ :: vs, Ks, k, e, f, h => by obtain ⟨e1, e2⟩ := List.cons.inj e; subst e1; exact exo_out (bs := bs) (k := fun vs o => k (_ :: vs) o) e2 f h
  | .w64 _ :: bs, [], Ks, k, e, f, h => f.elim
  | .w64 _ :: bs, _ :: vs, Ks, k, e, f, h => by obtain ⟨e1, e2⟩ := List.cons.inj e; subst e1; exact exo_out (bs := bs) (k := fun vs o => k (_ :: vs) o) e2 f h
  | .s _ :: bs, [], Ks, k, e, f, h => f.elim
  | .s _ :: bs, _ :: vs, Ks, k, e, f, h => by obtain ⟨e1, e2⟩ := List.cons.inj e; subst e1; exact exo_out (bs := bs) (k := fun vs o => k (_ :: vs) o) e2 f h
def QQ : Bool → Heaplet → Heaplet → Prop
  | true, H, H' => H = H'
  | false, _, _ => True
theorem Con.doesX {ρ : Type} {P : Program} {f : FuncId} {q : Bool} {As : List Sp} {o : Option ρ} {B : ρ → List Sp} {H : Heaplet} {vs : List Value} {r : ρ}
    (C : Con P f q As o B) (e : fl As vs = vs) (h : Fit H As vs) (hr : o = some r) : Does P f vs.toArray [] H (fun u K' H' => Exo H H' (B r) (fun us Ks => u = pack us ∧ K' = Ks ∧ QQ q H H')) :=
  (C.does e h hr).mono fun v K' H' ⟨us, e1, e2, e3, e4⟩ => exo_out e2 e3 ⟨e1, rfl, by cases q with | true => exact (e4 rfl).symm | false => trivial⟩

/-! ### Entering -/
def numK : List Nat → List Value → (Slots → Prop) → Prop
  | n :: ns, v :: vs, k => numK ns vs (fun l => k ((n, v) :: l))
  | _, _, k => k []
theorem numK_eq : ∀ (ns : List Nat) (vs : List Value) (k : Slots → Prop), numK ns vs k → k (ns.zip vs)
  | [], vs, k, h => by simpa [numK] using h
  | n :: ns, [], k, h => h
  | n :: ns, v :: vs, k, h => numK_eq ns vs (fun l => k ((n, v) :: l)) h
theorem lk_zip : ∀ (vs : List Value) (k n i : Nat) (v : Value), lk ((List.range' k n).zip vs) i = some v → k ≤ i ∧ vs[i - k]? = some v
  | [], k, n, i, v, h => by simp [lk] at h
  | u :: vs, k, 0, i, v, h => by simp [lk] at h
  | u :: vs, k, n + 1, i, v, h => by
    simp only [List.range'_succ, List.zip_cons_cons, lk] at h
    cases hb : Nat.beq k i with
    | true =>
      have e : k = i := Nat.eq_of_beq_eq_true hb
      subst e; rw [hb] at h; simp at h; subst h; simp
    | false =>
      have ne : k ≠ i := by intro e; subst e; simp at hb
      rw [hb] at h
      obtain ⟨h1, h2⟩ := lk_zip vs (k + 1) n i v h
      refine ⟨by omega, ?_⟩
      rw [show i - k = (i - (k + 1)) + 1 by omega]; simpa using h2
theorem enter_slots {vs : List Value} {N i : Nat} {v : Value} (hn : vs.length ≤ N) (e : lk ((List.range' 0 24).zip vs) i = some v) : ((vs.toArray ++ Array.replicate (N - vs.toArray.size) undef)[i]?).getD undef = v := by
  obtain ⟨_, h2⟩ := lk_zip vs 0 24 i v e
  have hi : i < vs.length := by
    rcases Nat.lt_or_ge i vs.length with h' | h'
    · exact h'
    · simp [List.getElem?_eq_none h'] at h2
  have h3 : vs[i] = v := by simpa [List.getElem?_eq_getElem hi] using h2
  have : i < (vs.toArray ++ Array.replicate (N - vs.toArray.size) undef).size := by simp; omega
  simp only [Array.getElem?_eq_getElem this, Option.getD_some]
  rw [Array.getElem_append_left (by simpa using hi)]
  simpa using h3
theorem Does.enterC {P : Program} {f : FuncId} {fn : Func} {c : Code} {vs : List Value} {H : Heaplet} {R : Value → List Own → Heaplet → Prop}
    (hf : P.funcs[f]? = some fn) (hb : fn.body = some c) (hn : Nat.ble vs.length fn.ntmps = true)
    (h : numK [0, 1, 2, 3, 4, 5, 6, 7, 8, 9, 10, 11, 12, 13, 14, 15, 16, 17, 18, 19, 20, 21, 22, 23] vs (fun l => ∀ w,
      JC { P := P, r := none, n := fn.ntmps, w0 := w, H0 := H, S := [], ds := [] } c (Ret { P := P, r := none, n := fn.ntmps, w0 := w, H0 := H, S := [], ds := [] } fn R) l [] H)) : Does P f vs.toArray [] H R := fun w ha hk => by
  have hn := Nat.le_of_ble_eq_true hn
  have h := numK_eq _ _ _ h
  refine callsIn_of_wp hf hb trivial ?_
  refine h w _ w ⟨?_, rfl, fun i v e => enter_slots hn e, ⟨ha, hk, Kept.refl _ _, fun p hp => .inl (List.mem_map_of_mem hp), Hle.refl _, fun _ _ _ => rfl, Mem.soft0⟩⟩
  simp; omega
theorem Does.enterMC {P : Program} {f : FuncId} {fn : Func} {c : Code} {vs : List Value} {H : Heaplet} {R : Value → List Own → Heaplet → Prop}
    (hf : P.funcs[f]? = some fn) (hb : fn.body = some c) (hn : Nat.ble vs.length fn.ntmps = true)
    (h : numK [0, 1, 2, 3, 4, 5, 6, 7, 8, 9, 10, 11, 12, 13, 14, 15, 16, 17, 18, 19, 20, 21, 22, 23] vs (fun l => ∀ w,
      JC { P := P, r := none, n := fn.ntmps, w0 := w, H0 := H, S := [], ds := [] } c (RetM { P := P, r := none, n := fn.ntmps, w0 := w, H0 := H, S := [], ds := [] } fn R) l [] H)) : Does P f vs.toArray [] H R := fun w ha hk => by
  have hn := Nat.le_of_ble_eq_true hn
  have h := numK_eq _ _ _ h
  refine callsIn_of_wp_marks hf hb trivial ?_
  refine h w _ w ⟨?_, rfl, fun i v e => enter_slots hn e, ⟨ha, hk, Kept.refl _ _, fun p hp => .inl (List.mem_map_of_mem hp), Hle.refl _, fun _ _ _ => rfl, Mem.soft0⟩⟩
  simp; omega

/-! ### Two ways, the plain function's with the code's -/
section ways
variable {α : Type} {A B : Option α} {r : α} {x : Cx} {ops : Array Oper} {Q : Exit → Act → World → Prop} {K : Act → World → Prop} {rest : List Oper} {l : Slots} {own : List Own} {H sH : Heaplet} {b : Bool}
theorem JC.ifx {c : Tmp} {d e : Code} (hx : _root_.cond b A B = some r) (hc : lk l c = some (.bool b)) (ht : b = true → A = some r → JC x d Q ((c, .bool true) :: l) own H) (hf : b = false → B = some r → JC x e Q ((c, .bool false) :: l) own H) :
    JC x (.cond (.tmp c) d e) Q l own H := JC.condB hc (fun h => ht h (cond_t h hx)) (fun h => hf h (cond_f h hx))
theorem JL.gX (t : Nat) (hx : _root_.cond b A B = some r) (hb : lk l t = some (.bool b)) (ht : b = true → A = some r → JL x ops Q rest ((t, .bool true) :: l) own H)
    (hf : b = false → B = some r → JL x ops Q rest ((t, .bool false) :: l) own H) : JL x ops Q rest l own H := JL.gSplit hb (fun h => ht h (cond_t h hx)) (fun h => hf h (cond_f h hx))
end ways

/-! ### Many readings of a region whose order is open -/
section many
variable {x : Cx} {ops : Array Oper} {K : Act → World → Prop} {l l' : Slots} {own : List Own} {H sH : Heaplet} {so : Segs}
def markAll (listed : Array Bool) : List Nat → Array Bool
  | [] => listed
  | i :: is => markAll (listed.setIfInBounds i true) is
def okAll (ops : Array Oper) (listed : Array Bool) : List Nat → Bool
  | [] => true
  | i :: is => (Region.free .any ops listed i && (Region.ready .any ops listed).contains i) && okAll ops (listed.setIfInBounds i true) is
/-- does an operation's guard let it by? none: it is not known -/
def gate (ops : List Oper) (l : Slots) : Option (Nat × Bool) → Option Bool
  | none => some true
  | some (j, b) => match ops[j]? with
    | some oj => match oj.dst with
      | some t => match lk l t with
        | some (.bool true) => some b
        | some (.bool false) => bif b then some false else some true
        | some (.tuple ⟨[]⟩) => some false
        | _ => none
      | none => none
    | none => none
def valAll (tb : Tab) (N : Nat) (ops : List Oper) (own : List Own) : List Nat → Slots → List Nat → List Nat → List Nat → Option (Slots × List Nat × List Nat × List Nat)
  | [], l, hs, e1, e2 => some (l, hs, e1, e2)
  | i :: is, l, hs, e1, e2 => match ops[i]? with
    | some ⟨some d, op, ty, pos, aft, g⟩ => bif Nat.blt d N then match gate ops l g with
        | some true => match vop tb own l hs op with
          | some (v, hs', f1, f2) => valAll tb N ops own is ((d, v) :: l) hs' (f1 ++ e1) (f2 ++ e2)
          | none => none
        | some false => valAll tb N ops own is ((d, undef) :: l) hs e1 e2
        | none => none
      else none
    | _ => none
theorem valAll_len {tb : Tab} {N : Nat} {os : List Oper} {own : List Own} : ∀ {is : List Nat} {l l' : Slots} {hs hs' e1 e2 f1 f2 : List Nat}, valAll tb N os own is l hs e1 e2 = some (l', hs', f1, f2) → ∃ a b, a.length = b.length ∧ f1 = a ++ e1 ∧ f2 = b ++ e2
  | [], _, _, _, _, _, _, _, _, h => by cases h; exact ⟨[], [], rfl, rfl, rfl⟩
  | i :: is, l, l', hs, hs', e1, e2, f1, f2, h => by
    simp only [valAll] at h
    split at h
    · rename_i d op ty pos aft g _
      cases hb : Nat.blt d N with
      | false => rw [hb] at h; cases h
      | true =>
        rw [hb, cond_true] at h
        split at h
        · split at h
          · rename_i v1 hs1 g1 g2 hv
            obtain ⟨a, b, h1, h2, h3⟩ := valAll_len h
            have h4 := vop_len hv
            exact ⟨a ++ g1, b ++ g2, by rw [List.length_append, List.length_append, h1, h4], by rw [h2, List.append_assoc], by rw [h3, List.append_assoc]⟩
          · cases h
        · exact valAll_len h
        · cases h
    · cases h
theorem gate_yes {l : Slots} {g : Option (Nat × Bool)} (h : gate ops.toList l g = some true) : guardYes ops l g := by
  cases g with
  | none => trivial
  | some g =>
    obtain ⟨j, b⟩ := g
    simp only [gate] at h
    split at h
    · rename_i h1
      split at h
      · rename_i h2
        split at h
        · rename_i h3; cases h; exact ⟨_, _, by simpa using h1, h2, h3⟩
        · rename_i h3
          cases b with
          | true => cases h
          | false => exact ⟨_, _, by simpa using h1, h2, h3⟩
        · cases h
        · cases h
      · cases h
    · cases h
theorem JB.run' {tb : Tab} (ht : tb.Ok x.P) : ∀ {is : List Nat} {listed : Array Bool} {l l' : Slots} {hs hs' e1 e2 f1 f2 : List Nat} {fuel : Nat}, okAll ops listed is = true → is.all (noTurn so) = true →
    valAll tb x.n ops.toList (segsOf [] so) is l hs e1 e2 = some (l', hs', f1, f2) → f1 = f2 → e1.length = e2.length → JB x ops K so sH fuel (markAll listed is) l' own H → JB x ops K so sH (fuel + is.length) listed l own H
  | [], _, _, _, _, _, _, _, _, _, _, _, _, h, _, _, g => by cases h; exact g
  | i :: is, listed, l, l', hs, hs', e1, e2, f1, f2, fuel, hok, hnt, h, he, hl, gg => by
    simp only [valAll] at h
    simp only [okAll, Bool.and_eq_true] at hok
    simp only [List.all_cons, Bool.and_eq_true] at hnt
    split at h
    · rename_i d op ty pos aft g ho
      have ho' : ops[i]? = some ⟨some d, op, ty, pos, aft, g⟩ := by simpa using ho
      cases hb : Nat.blt d x.n with
      | false => rw [hb] at h; cases h
      | true =>
        rw [hb, cond_true] at h
        split at h
        · rename_i hg
          split at h
          · rename_i v1 hs1 g1 g2 hv
            have hlen := vop_len hv
            obtain ⟨a, b, h1, h2, h3⟩ := valAll_len h
            have e : a ++ (g1 ++ e1) = b ++ (g2 ++ e2) := by rw [← h2, ← h3, he]
            have e' := (List.append_inj e h1).2
            obtain ⟨e'', _⟩ := List.append_inj e' hlen
            exact JB.val [] ho' (vop_ok ht hv e'') (JB.run' ht hok.2 hnt.2 h he (by simp [hlen, hl]) gg) ⟨hok.1.2, hok.1.1, rfl⟩ (gate_yes hg) rfl hnt.1 hb
          · cases h
        · rename_i hg
          cases g with
          | none => cases hg
          | some g =>
            obtain ⟨j, bq⟩ := g
            simp only [gate] at hg
            split at hg
            · rename_i h1
              split at hg
              · rename_i h2
                split at hg
                · rename_i h3; cases hg
                  exact JB.no ho' (by simpa using h1) h2 h3 rfl (JB.run' ht hok.2 hnt.2 h he hl gg) ⟨hok.1.2, hok.1.1, rfl⟩ hnt.1 hb
                · rename_i h3
                  cases bq with
                  | true => exact JB.no ho' (by simpa using h1) h2 h3 rfl (JB.run' ht hok.2 hnt.2 h he hl gg) ⟨hok.1.2, hok.1.1, rfl⟩ hnt.1 hb
                  | false => cases hg
                · rename_i h3
                  exact JB.noU ho' (by simpa using h1) h2 h3 (JB.run' ht hok.2 hnt.2 h he hl gg) ⟨hok.1.2, hok.1.1, rfl⟩ hnt.1 hb
                · cases hg
              · cases hg
            · cases hg
        · cases h
    · cases h
theorem JB.run {tb : Tab} {F : Nat} {listed : Array Bool} {E : List Nat} (n : Nat) (is hs : List Nat) (ht : tb.Ok x.P) (hv : valAll tb x.n ops.toList (segsOf [] so) is l hs [] [] = some (l', [], E, E))
    (h : JB x ops K so sH (F - n) (markAll listed is) l' own H) (hok : okAll ops listed is = true := by kernel_rfl) (hnt : is.all (noTurn so) = true := by rfl) (hn : (Nat.beq is.length n && Nat.ble n F) = true := by rfl) :
    JB x ops K so sH F listed l own H := by
  rw [Bool.and_eq_true] at hn
  have h1 := Nat.eq_of_beq_eq_true hn.1
  have h2 := Nat.le_of_ble_eq_true hn.2
  have := JB.run' ht hok hnt hv rfl rfl h
  rw [h1, Nat.sub_add_cancel h2] at this
  exact this
end many

/-! ### Results that stand in cells -/
section cells
variable {x : Cx} {l : Slots} {own : List Own} {H : Heaplet} {vs : List Value} {ρ : Type} {B : ρ → List Sp} {fn : Func} {ex : Exit} {z r : ρ} {Ks : List Own}
/-- the values that are answered; those in cells by hints -/
def retC (tb : Tab) (l : Slots) (own : List Own) : List ResultVar → List Nat → Option (List Value × List Nat × List Nat)
  | [], _ => some ([], [], [])
  | .tmp t :: r, hs => match lk l t with
    | some v => match retC tb l own r hs with
      | some (vs, e1, e2) => some (v :: vs, e1, e2)
      | none => none
    | none => none
  | .cell t T :: r, i :: hs => match lk l t with
    | some (.pointer (some ⟨b, 0, none⟩)) => match own[i]? with
      | some [(b', .cells cur tt fr)] => match tl T tb.shp with
        | some (true, n) => bif Nat.beq n cur.toList.length then match retC tb l own r hs with
            | some (vs, e1, e2) => some (.agg cur :: vs, b :: e1, b' :: e2)
            | none => none
          else none
        | some (false, _) => match cur.toList[0]? with
          | some v => match retC tb l own r hs with
            | some (vs, e1, e2) => some (v :: vs, b :: e1, b' :: e2)
            | none => none
          | none => none
        | none => none
      | _ => none
    | _ => none
  | .cell .. :: _, [] => none
theorem retC_ok {P : Program} {tb : Tab} (ht : tb.Ok P) : ∀ {rs : List ResultVar} {hs : List Nat} {vs : List Value} {e1 e2 : List Nat}, retC tb l own rs hs = some (vs, e1, e2) → e1 = e2 → Res P l own rs vs
  | [], _, _, _, _, h, _ => by cases h; exact rfl
  | .tmp t :: r, hs, vs, e1, e2, h, he => by
    simp only [retC] at h
    split at h
    · rename_i h1
      split at h
      · rename_i h2; cases h; exact Res.tmp h1 (retC_ok ht h2 he)
      · cases h
    · cases h
  | .cell t T :: r, [], vs, e1, e2, h, he => by cases h
  | .cell t T :: r, i :: hs, vs, e1, e2, h, he => by
    simp only [retC] at h
    split at h
    · rename_i h1
      split at h
      · rename_i h2
        split at h
        · rename_i n h3
          rename_i b _ _ cur _ _ _
          cases hb : Nat.beq n (Array.toList cur).length with
          | true =>
            rw [hb, cond_true] at h
            split at h
            · rename_i h4
              cases h
              obtain ⟨c1, c2⟩ := List.cons.inj he
              subst c1
              have := Nat.eq_of_beq_eq_true hb
              exact Res.cellN i h1 h2 (by rw [← this]; exact tl_ok (p := fun a b => shapeOf P a = some b) ht.shp h3) (retC_ok ht h4 c2)
            · cases h
          | false => rw [hb] at h; cases h
        · rename_i n h3
          split at h
          · rename_i h5
            split at h
            · rename_i h4
              cases h
              obtain ⟨c1, c2⟩ := List.cons.inj he
              subst c1
              exact Res.cell1 i h1 h2 (tl_ok (p := fun a b => shapeOf P a = some b) ht.shp h3) h5 (retC_ok ht h4 c2)
            · cases h
          · cases h
        · cases h
      · cases h
    · cases h
def outc (tb : Tab) (l : Slots) (own : List Own) (rs : List ResultVar) (e : Exit) (ds : List Deferred) (hs is : List Nat) : Option (List Value × List Own × List Nat × List Nat) := match ds with
  | [] => match e with
    | .ret => match retC tb l own rs hs, pickL is own with
      | some (vs, e1, e2), some (K, _) => some (vs, K, e1, e2)
      | _, _ => none
    | .normal => match retC tb l own rs hs, pickL is own with
      | some (vs, e1, e2), some (K, _) => some (vs, K, e1, e2)
      | _, _ => none
    | _ => none
  | _ => none
theorem outc_ok {P : Program} {tb : Tab} (ht : tb.Ok P) {rs : List ResultVar} {e : Exit} {ds : List Deferred} {hs is : List Nat} {K : List Own} {E : List Nat} (h : outc tb l own rs e ds hs is = some (vs, K, E, E)) :
    ds = [] ∧ (e = .ret ∨ e = .normal) ∧ Res P l own rs vs ∧ ∃ r : List Own, own.flatten.Perm (K.flatten ++ r.flatten) := by
  unfold outc at h
  split at h
  · split at h
    · split at h
      · rename_i h1 h2; cases h; exact ⟨rfl, .inl rfl, retC_ok ht h1 rfl, _, pickL_ok h2⟩
      · cases h
    · split at h
      · rename_i h1 h2; cases h; exact ⟨rfl, .inr rfl, retC_ok ht h1 rfl, _, pickL_ok h2⟩
      · cases h
    · cases h
  · cases h
variable {tb : Tab} {E : List Nat}
theorem JN.conCQ (hs is : List Nat) (ht : tb.Ok x.P) (ho : outc tb l own fn.results.toList ex x.ds hs is = some (vs, Ks, E, E)) (hx : some z = some r) (hv : fl (B z) vs = vs) (hf : Out x.H0 x.H0 (B z) vs Ks) :
    JN x (Ret x fn (PostC true x.H0 B r) ex) l own x.H0 := by
  obtain ⟨h1, h2, h3, q, h4⟩ := outc_ok ht ho
  obtain rfl := Option.some.inj hx
  exact JN.outP h2 (by simp) h1 h3 h4 ⟨vs, rfl, hv, hf, fun h => rfl⟩
theorem JN.conCM {x0 : Cx} {own2 : List Own} (Ds hs is : List Nat) (ht : tb.Ok x.P) (hp : own.flatten.Perm ((marked Ds).flatten ++ own2.flatten)) (h4 : x.P = x0.P ∧ x.w0 = x0.w0 ∧ x.H0 = x0.H0 ∧ x.S = x0.S) (hd : x.ds = Ds.map mark)
    (ho : outc tb l own2 fn.results.toList ex [] hs is = some (vs, Ks, E, E)) (hx : some z = some r) (hv : fl (B z) vs = vs) (hf : Out x0.H0 H (B z) vs Ks) :
    JN x (RetM x0 fn (PostC false x0.H0 B r) ex) l own H := by
  obtain ⟨h1, h2, h3, q, h5⟩ := outc_ok ht ho
  obtain rfl := Option.some.inj hx
  exact JN.outMP Ds h2 h4 hd (by simp) hp h3 h5 ⟨vs, rfl, hv, hf, fun h => by cases h⟩
end cells

/-! ### Cuts and loops that name what stays -/
section cuts
variable {x : Cx} {Q : Exit → Act → World → Prop} {l l0 l' : Slots} {own o0 o' : List Own} {H g' : Heaplet} {c : Code} {τ β : Type} {o : Option τ} {k : τ → Option β} {r : β}
def selL (l : Slots) : List Nat → Option Slots
  | [] => some []
  | i :: is => match lk l i with
    | some v => match selL l is with
      | some q => some ((i, v) :: q)
      | none => none
    | none => none
def selO (own : List Own) : List Nat → Option (List Own)
  | [] => some []
  | i :: is => match own[i]? with
    | some s => match selO own is with
      | some q => some (s :: q)
      | none => none
    | none => none
def keysOf : Slots → List Nat
  | [] => []
  | (k, _) :: r => k :: keysOf r
theorem selL_sub {l : Slots} : ∀ {l' : Slots}, selL l (keysOf l') = some l' → Sub l' l
  | [], _ => trivial
  | (k, v) :: q, h => by
    simp only [keysOf, selL] at h
    split at h
    · rename_i h1
      split at h
      · rename_i h2
        have h3 := Option.some.inj h
        obtain ⟨h4, h5⟩ := List.cons.inj h3
        simp only [Prod.mk.injEq, true_and] at h4
        subst h4; subst h5
        exact ⟨h1, selL_sub h2⟩
      · cases h
    · cases h
theorem JC.cutX (hx : Option.bind o k = some r) (ks js : List Nat) (hs : selL l ks = some l0) (ho : selO own js = some o0) (I : τ → Slots → List Own → Slots → List Own → Heaplet → Prop)
    (h2 : ∀ t, o = some t → k t = some r → ∀ l o g, I t l0 o0 l o g → JN x (Q .normal) l o g)
    (h1 : ∀ t, k t = some r → o = some t → JC x c (Exit.then (HoldsI x (I t l0 o0)) Q) l own H) : JC x c Q l own H := by
  obtain ⟨t, ht, hk⟩ := bnd_some hx
  exact JC.cut (I t l0 o0) (h2 t ht hk) (h1 t hk ht)
theorem JN.cutR {I : Slots → List Own → Heaplet → Prop} (hI : I l' o' g') (hl : selL l (keysOf l') = some l') (ho : o' = own) (hg : g' = H) :
    JN x (Exit.then (HoldsI x I) Q .normal) l own H := JN.cut hI (selL_sub hl) ho hg
theorem JC.loopX {σ : Type} {body : σ → Option (σ ⊕ τ)} {s0 : σ} {t : τ} {lh : Slots} (ks js : List Nat) (hs : selL l ks = some l0) (ho : selO own js = some o0) (I : Slots → List Own → σ → Slots → List Own → Heaplet → Prop)
    (hx : Go.Ow.loop body s0 = some t) (h0 : I l0 o0 s0 lh own H) (hl : selL l (keysOf lh) = some lh)
    (round : ∀ n s l o g, I l0 o0 s l o g → ∀ q, body s = some q → Stp body n t q → JC x c (Exit.then (HoldsI x (fun l o g => ∃ s, I l0 o0 s l o g ∧ run body n s = some t)) Q) l o g) : JC x (.loop c) Q l own H := by
  refine JC.loopI (fun n l o g => ∃ s, I l0 o0 s l o g ∧ run body n s = some t) FUEL ?_ ⟨s0, h0, hx⟩ (selL_sub hl) ?_
  · rintro l o g ⟨s, _, h⟩; exact run_zero h
  · rintro n l o g ⟨s, hI, hr⟩
    obtain ⟨q, h1, h2⟩ := run_some hr
    exact round n s l o g hI q h1 h2
end cuts
end Go.Ow

/-
  What is proved here: plain vocabulary of rows with a room of noughts.
-/
namespace Go.Ow
variable {α β : Type}
end Go.Ow

/-
  What is proved here: plain structures of the program's inner types.
-/
namespace Go.Ow
structure data_place where
  set : Int
  obj : Int
  index : Int
instance : Inhabited data_place := ⟨⟨default, default, default⟩⟩
end Go.Ow

/-
  What is proved here: pointers to an element of a slice, or none: what is known of them, equality with none, reading through them.
-/
namespace Go.Ow
open Go.RowKit
set_option linter.unusedVariables false
set_option linter.unusedSimpArgs false

def R_data_place : Rep data_place := fun H cs x => cs = [.int .i64 x.set, .int .i64 x.obj, .int .i64 x.index]
theorem R_data_place.mono : R_data_place.Mono := fun _ _ _ _ _ h => h
instance : MonoC R_data_place := ⟨R_data_place.mono⟩
section rules
variable {x : Cx} {l : Slots} {own : List Own} {H : Heaplet} {ty t u : TypeId} {p q : Operand} {v : Value} {e : Option Int} {n : Nat} {vs : Value}
theorem run_eqNil {P : Program} {w : World} {t E : TypeId} {a : Option Addr} (hu : P.underlying t = some (.pointer E)) : (Op.equal t (.pointer a) (.pointer none)).run P w = .ok a.isNone w := by
  have key : ∀ k, (Op.equalIn (k + 1) t (.pointer a) (.pointer none)).run P w = .ok a.isNone w := fun k => by
    unfold Op.equalIn
    rw [Sem.run_bind, run_underlying hu]
    cases a <;> rfl
  exact key 9999
def spn {α : Type} : List α → Option (List α)
  | [] => some []
  | a :: r => match spn r with
    | some q => some (a :: q)
    | none => none
theorem spn_eq {α : Type} : ∀ {l q : List α}, spn l = some q → q = l
  | [], q, h => by cases h; rfl
  | a :: r, q, h => by
    simp only [spn] at h
    split at h
    · rename_i h1; cases h; rw [spn_eq h1]
    · cases h
theorem R.ldHF {T b o n : Nat} {cs : List Value} (k : Nat) {vs : List Value} (hs : shapeOf x.P T = some (true, n)) (h1 : evo l p = some (.pointer (some ⟨b, o + k, none⟩))) (ha : ∀ j u, cs[j]? = some u → H b (o + j) = some u)
    (hv : spn ((cs.drop k).take n) = some vs) (hn : vs.length = n) : Runs x (.load T p) ty l own H (.agg vs.toArray) := R.ldHE k hs h1 ha (spn_eq hv) hn
variable {ops : Array Oper} {Q : Exit → Act → World → Prop} {rest : List Oper} {HF : Heaplet} {d : Nat} {pos : String} {aft : Array Edge}
end rules
end Go.Ow

/-
  What is proved here: equality, flags, conversions of numbers, parts of structs, new cells.
-/
namespace Go.Ev
open Go Go.Ow
set_option linter.unusedVariables false
set_option linter.unusedSimpArgs false

variable {P : Program}
theorem eqB_eq : ∀ a b : List UInt8, eqB a b = (a == b)
  | [], [] => rfl
  | [], _ :: _ => rfl
  | _ :: _, [] => rfl
  | x :: a, y :: b => by
    show (Bool.rec false (eqB a b) (Nat.beq x.toNat y.toNat) : Bool) = _
    rw [eqB_eq a b]
    cases h : Nat.beq x.toNat y.toNat with
    | true =>
      have : x = y := UInt8.toNat_inj.1 ((nbeq_iff _ _).1 h)
      subst this; simp
    | false =>
      have : ¬ x = y := fun e => by rw [e, Nat.beq_refl] at h; cases h
      simp [this]
theorem eqVs_some {xs ys : List Value} {r : Bool} (h : eqVs xs ys = some r) : (xs = [] ∧ ys = [] ∧ r = true) ∨ ∃ k x y xs' ys' r', xs = Value.int k x :: xs' ∧ ys = Value.int k y :: ys' ∧ eqVs xs' ys' = some r' ∧ r = (decide (x = y) && r') := by
  unfold eqVs at h
  split at h
  · cases h; exact .inl ⟨rfl, rfl, rfl⟩
  · rename_i k x a k' y b
    obtain ⟨h1, h2⟩ := bT h
    obtain rfl := eqK_eq h1
    split at h2
    · rename_i r' hr
      cases h2
      refine .inr ⟨k, x, y, a, b, r', rfl, rfl, hr, ?_⟩
      rw [eqI_eq]
      cases decide (x = y) <;> rfl
    · cases h2
  · cases h
theorem eqF_flat {xs ys : List Value} : ∀ {fs : List Field} {i : Nat} {r : Bool}, chkS P fs i = true → fs.length = (xs.drop i).length → eqVs (xs.drop i) (ys.drop i) = some r → EqF P 9999 ⟨xs⟩ ⟨ys⟩ fs r
  | [], i, r, _, hl, h => by
    rcases eqVs_some h with ⟨_, _, rfl⟩ | ⟨k, x, y, xs', ys', r', hx, hy, h1, h2⟩
    · rfl
    · rw [hx] at hl; cases hl
  | f :: fs, i, r, hc, hl, h => by
    simp only [chkS, Bool.and_eq_true, bne_iff_ne, ne_eq] at hc
    obtain ⟨hn, ho, hu, hs, hc⟩ := hc
    have ho := Nat.eq_of_beq_eq_true ho
    rcases eqVs_some h with ⟨hx, _, rfl⟩ | ⟨k, x, y, xs', ys', r', hx, hy, h1, rfl⟩
    · rw [hx] at hl; cases hl
    obtain ⟨kk, hu⟩ : ∃ kk, P.underlying f.type = some (.int kk) := by
      split at hu
      · rename_i kk hk; exact ⟨kk, hk⟩
      · cases hu
    have hsz : szT P f.type = some 1 := by
      split at hs
      · rename_i n hn'; rw [hn', Nat.eq_of_beq_eq_true hs]
      · cases hs
    have hsh : shapeOf P f.type = some (false, 1) := by
      obtain ⟨ii, j1, j2⟩ := szT_info hsz
      unfold shapeOf; rw [hu, j1]; simp [isAggD, j2]
    have nx : ∀ {zs : List Value} {v : Value} {t : List Value}, zs.drop i = v :: t → zs[i]? = some v ∧ zs.drop (i + 1) = t := fun e => by
      refine ⟨?_, ?_⟩
      · have := congrArg List.head? e; rwa [List.head?_drop] at this
      · rw [← List.drop_drop, e]; rfl
    obtain ⟨x1, x2⟩ := nx hx
    obtain ⟨y1, y2⟩ := nx hy
    refine EqF.i (k := 9998) (kk := k) (a := x) (b := y) hn hsh hu (by rw [ho]; exact x1) (by rw [ho]; exact y1) (eqF_flat (i := i + 1) hc ?_ (by rw [x2, y2]; exact h1))
    rw [x2]; rw [hx] at hl; simpa using hl
theorem eqVs_inst {xs ys : List Value} {r : Bool} (m : Mp) : eqVs xs ys = some r → xs.map (inst m) = xs ∧ ys.map (inst m) = ys := by
  intro h
  induction xs generalizing ys r with
  | nil =>
    rcases eqVs_some h with ⟨_, rfl, _⟩ | ⟨k, x, y, xs', ys', r', hx, _⟩
    · exact ⟨rfl, rfl⟩
    · cases hx
  | cons v xs ih =>
    rcases eqVs_some h with ⟨hx, _⟩ | ⟨k, x, y, xs', ys', r', hx, rfl, h1, _⟩
    · cases hx
    · obtain ⟨rfl, rfl⟩ := List.cons.inj hx
      obtain ⟨i1, i2⟩ := ih h1
      exact ⟨by rw [List.map_cons, i1, inst_int], by rw [List.map_cons, i2, inst_int]⟩

theorem bytesOf_some : ∀ {vs : List Value} {bs : List UInt8}, bytesOf vs = some bs → vs = bvs bs
  | [], bs, h => by cases h; rfl
  | u :: vs, bs, h => by
    unfold bytesOf at h
    simp only [] at h
    split at h
    · rename_i n
      obtain ⟨h1, h2⟩ := bT h
      split at h2
      · rename_i r hr
        cases h2
        have := bytesOf_some (show bytesOf vs = some r from hr)
        have hn := blt_lt h1
        rw [this]
        show _ = Value.int .u8 ((UInt8.ofNat n).toNat : Int) :: bvs r
        rw [UInt8.toNat_ofNat', Nat.mod_eq_of_lt (by omega)]; rfl
      · cases h2
    · cases h
variable {m : Mp} {st : St} {ρ : Operand → Value} {S : Nat → Prop} {w0 w : World} {k : KV} {q : Ex × St}
variable {d : Option Tmp} {ty : TypeId} {pos : String} {aft : Array Edge} {g : Option (Nat × Bool)}
theorem bvs_inst (l : List UInt8) : (bvs l).map (inst m) = bvs l := by
  unfold bvs
  rw [List.map_map]
  exact List.map_congr_left (fun x _ => inst_int _ _)
/-- cells of a slice -/
theorem arB_some {T : TypeId} {n : Nat} (h : arB P T n = true) : ∃ e, P.underlying T = some (.array n e) ∧ P.eqGuardType P.depth T = false ∧ P.cellsOf e = 1 ∧ shapeOf P e = some (false, 1) ∧ P.underlying e = some (.int .u8) := by
  unfold arB at h
  split at h
  · rename_i k e hu
    simp only [Bool.and_eq_true, Bool.not_eq_true'] at h
    obtain ⟨h1, h2, h3, h4⟩ := h
    obtain rfl := Nat.eq_of_beq_eq_true h1
    split at h4
    · rename_i h5 h6
      exact ⟨e, hu, h2, Nat.eq_of_beq_eq_true h3, shT_shape h5, h6⟩
    · cases h4
  · cases h
theorem run_eqSl {w : World} {t e : TypeId} {ao : Option Addr} {n c n' c' : Nat} (hu : P.underlying t = some (.slice e)) : (Op.equal t (.slice ao n c) (.slice none n' c')).run P w = .ok ao.isNone w := by
  have key : ∀ k, (Op.equalIn (k + 1) t (.slice ao n c) (.slice none n' c')).run P w = .ok ao.isNone w := fun k => by
    unfold Op.equalIn
    rw [Sem.run_bind, run_underlying hu]
    cases ao <;> rfl
  exact key 9999
/-- equality, told -/
theorem eqT_run {T : TypeId} {a b : Value} {r : Bool} (h : eqT P T a b = some r) (m : Mp) (x y : Operand) (w : World) :
    (do eqGuard .eql T x y (inst m a) (inst m b); binOp .eql T (inst m a) (inst m b)).run P w = .ok (.bool r) w ∧ (do eqGuard .neq T x y (inst m a) (inst m b); binOp .neq T (inst m a) (inst m b)).run P w = .ok (.bool (!r)) w := by
  have strs : ∀ s t : ByteArray, (s.toList == t.toList) = (s.data.toList == t.data.toList) := fun s t => by
    obtain ⟨⟨a⟩⟩ := s; obtain ⟨⟨b⟩⟩ := t
    show ((⟨a.toArray⟩ : ByteArray).toList == (⟨b.toArray⟩ : ByteArray).toList) = _
    rw [ByteArray.toList_mk, ByteArray.toList_mk]
  unfold eqT at h
  split at h
  · rename_i s t
    cases h
    rw [eqB_eq, ← strs]
    constructor <;> simp [inst, eqGuard, binOp, Op.stringOp, go_sem]
  · rename_i s t
    split at h
    · rename_i hu
      cases h
      have e := fun w => run_equalBool (P := P) (w := w) (a := s) (b := t) hu
      constructor <;> simp only [inst_bool] <;> (rw [Sem.run_bind]; simp only [show ∀ op, (eqGuard op T x y (.bool s) (.bool t)).run P w = .ok () w from fun op => by cases op <;> rfl, Result.andThen, binOp, Sem.run_bind, e]; rfl)
    · cases h
  · rename_i ao
    split at h
    · rename_i E hu
      cases h
      have e := fun w => run_eqNil (P := P) (w := w) (a := ao.map (iA m)) hu
      have hn : (ao.map (iA m)).isNone = ao.isNone := by cases ao <;> rfl
      have gd : ∀ op, (eqGuard op T x y (.pointer (ao.map (iA m))) (.pointer none)).run P w = .ok () w := fun op => by cases op <;> rfl
      constructor <;> simp only [inst, Option.map_none] <;> (rw [Sem.run_bind]; simp only [gd, Result.andThen, binOp, Sem.run_bind, e, hn]; rfl)
    · cases h
  · rename_i ao n1 c1 n2 c2
    split at h
    · rename_i E hu
      cases h
      have e := fun w => run_eqSl (P := P) (w := w) (ao := ao.map (iA m)) (n := n1) (c := iCap m ao c1) (n' := n2) (c' := iCap m none c2) hu
      have hn : (ao.map (iA m)).isNone = ao.isNone := by cases ao <;> rfl
      have gd : ∀ op, (eqGuard op T x y (.slice (ao.map (iA m)) n1 (iCap m ao c1)) (.slice none n2 (iCap m none c2))).run P w = .ok () w := fun op => by cases op <;> rfl
      constructor <;> simp only [inst, Option.map_none] <;> (rw [Sem.run_bind]; simp only [gd, Result.andThen, binOp, Sem.run_bind, e, hn]; rfl)
    · cases h
  · rename_i xs ys
    obtain ⟨xs⟩ := xs; obtain ⟨ys⟩ := ys
    rcases bb_some h with ⟨h1, h2⟩ | ⟨_, h⟩
    case inr =>
      obtain ⟨h1, h2⟩ := bT h
      rw [Bool.and_eq_true] at h1
      obtain ⟨e, hu, hg, hc, hs, he⟩ := arB_some h1.1
      have hl := Nat.eq_of_beq_eq_true h1.2
      unfold eqBy at h2
      split at h2
      · rename_i a ha
        split at h2
        · rename_i b hb
          cases h2
          have ha := bytesOf_some ha; have hb := bytesOf_some hb
          subst ha; subst hb
          have la : a.length = (bvs a).length := by simp [bvs]
          have lb : b.length = (bvs a).length := by
            have : (bvs a).length = (bvs b).length := hl
            rw [this]; simp [bvs]
          rw [inst_agg, inst_agg, bvs_inst, bvs_inst, eqB_eq, show (a == b) = decide (a = b) from by by_cases hq : a = b <;> simp [hq]]
          constructor
          · rw [Sem.run_bind, run_eqGuard_agg w .eql T x y _ _ hg]
            simp only [Result.andThen, run_eql_struct, run_equalIn_bytes (dd := 9998) hu he hs hc a b la lb]
          · rw [Sem.run_bind, run_eqGuard_agg w .neq T x y _ _ hg]
            simp only [Result.andThen, run_neq_struct, run_equalIn_bytes (dd := 9998) hu he hs hc a b la lb]
        · cases h2
      · cases h2
    obtain ⟨e1, e2⟩ := eqVs_inst m h2
    unfold flS at h1
    split at h1
    · rename_i fs hu
      simp only [Bool.and_eq_true, Bool.not_eq_true'] at h1
      obtain ⟨hp, hg, hc, hl⟩ := h1
      have hf : P.fieldsOf T = fs := by unfold Program.fieldsOf; rw [hu]
      have hE := eqF_flat (P := P) (xs := xs) (ys := ys) (i := 0) hc (by simpa using (Nat.eq_of_beq_eq_true hl)) h2
      rw [inst_agg, inst_agg, e1, e2]
      have hu' : P.underlying T = some (.struct (P.fieldsOf T)) := by rw [hf]; exact hu
      constructor
      · rw [Sem.run_bind, run_eqGuard_agg w .eql T x y ⟨xs⟩ ⟨ys⟩ hg]
        simp only [Result.andThen, run_eql_struct, run_equalIn_struct w 9999 T ⟨xs⟩ ⟨ys⟩ hu' hp, hf, hE.run w]
      · rw [Sem.run_bind, run_eqGuard_agg w .neq T x y ⟨xs⟩ ⟨ys⟩ hg]
        simp only [Result.andThen, run_neq_struct, run_equalIn_struct w 9999 T ⟨xs⟩ ⟨ys⟩ hu' hp, hf, hE.run w]
    · cases h1
  · cases h
theorem bnE_run {T : TypeId} {op : BinOp} {a b : Value} (h : bnE P T op a b (fun v => k v st.h) = some q) (m : Mp) (x y : Operand) :
    ∃ v, k v st.h = some q ∧ scal v ∧ ∀ w, (do eqGuard op T x y (inst m a) (inst m b); binOp op T (inst m a) (inst m b)).run P w = .ok v w := by
  unfold bnE at h
  split at h
  · obtain ⟨r, h1, h2⟩ := oB_some h
    rw [kB_eq] at h2
    exact ⟨_, h2, trivial, fun w => (eqT_run h1 m x y w).1⟩
  · obtain ⟨r, h1, h2⟩ := oB_some h
    rw [kB_eq] at h2
    exact ⟨_, h2, trivial, fun w => (eqT_run h1 m x y w).2⟩
  · cases h
theorem bin_p (hs : OpR m st ρ) (r : Rel m st.h S w0 w) {op : BinOp} {T T2 : TypeId} {x y : Operand} (e : oBin P st k op T x y T2 = some q) : PRes P m st.h (execOp ρ ⟨d, .binOp op T x y T2, ty, pos, aft, g⟩) k q := by
  obtain ⟨a, h1, h2⟩ := wth_some e
  obtain ⟨b, h3, h4⟩ := wth_some h2
  obtain ⟨i1, i2⟩ := hs.opd h1
  obtain ⟨i3, i4⟩ := hs.opd h3
  have key : ∃ v, k v st.h = some q ∧ scal v ∧ ∀ w, (do eqGuard op T x y (inst m a) (inst m b); binOp op T (inst m a) (inst m b)).run P w = .ok v w := by
    have h4' : bnV P T op a b (fun v => k v st.h) = some q := h4
    cases a with
    | int ka n =>
      obtain ⟨kb, n', rfl, h5⟩ := vInt_some (show vInt b _ = some q from h4')
      obtain ⟨h6, h7⟩ := bT h5
      have hk : isSh op = true ∨ ka = kb := by
        rw [Bool.or_eq_true] at h6
        exact h6.imp id eqK_eq
      obtain ⟨v, j1, j2, j3⟩ := bnI_some (P := P) T h7 kb hk
      refine ⟨v, j1, j2, fun w => ?_⟩
      rw [inst_int, inst_int, Sem.run_bind, show (eqGuard op T x y (.int ka n) (.int kb n')).run P w = .ok () w by cases op <;> rfl]
      exact j3 w
    | bool b => exact bnE_run h4' m x y
    | string s => exact bnE_run h4' m x y
    | pointer p => exact bnE_run h4' m x y
    | slice p n c => exact bnE_run h4' m x y
    | agg cs => exact bnE_run h4' m x y
    | _ => cases h4'
  obtain ⟨v, j1, j2, j3⟩ := key
  refine .pure r j1 (scal_bel j2 _) ?_
  intro w
  rw [scal_inst j2]
  simp only [execOp, i1, i3]
  exact run_v (j3 w)
theorem un_p (hs : OpR m st ρ) (r : Rel m st.h S w0 w) {op : UnOp} {T : TypeId} {x : Operand} (e : oUn st k op T x = some q) : PRes P m st.h (execOp ρ ⟨d, .unOp op T x, ty, pos, aft, g⟩) k q := by
  obtain ⟨a, h1, h2⟩ := wth_some e
  obtain ⟨i1, i2⟩ := hs.opd h1
  unfold unV at h2
  split at h2
  · obtain ⟨b, rfl, h3⟩ := vBool_some h2
    rw [kB_eq] at h3
    rw [inst_bool] at i1
    exact .pure r h3 bel_bool (by rw [inst_bool]; simp [execOp, i1, Op.unary, go_sem])
  · cases h2
theorem field_p (hs : OpR m st ρ) (r : Rel m st.h S w0 w) {T : TypeId} {o : Operand} {i : Nat} (e : oField P st k T o i = some q) : PRes P m st.h (execOp ρ ⟨d, .field T o i, ty, pos, aft, g⟩) k q := by
  obtain ⟨v, h1, h2⟩ := wth_some e
  obtain ⟨l, rfl, h3⟩ := vAgg_some h2
  obtain ⟨⟨off, gg, n⟩, h4, h5⟩ := oB_some h3
  obtain ⟨fs, f, hu, hf, rfl, hsh⟩ := fdT_some h4
  obtain ⟨u, h6, h7⟩ := valOf_some h5
  obtain ⟨i1, i2⟩ := hs.opd h1
  rw [inst_agg] at i1
  rw [dropL_eq] at h7
  have i2 := bel_agg.1 i2
  have run : ∀ w z, (part f.type (l.map (inst m)).toArray f.offset).run P w = .ok z w → (execOp ρ ⟨d, .field T o i, ty, pos, aft, g⟩).run P w = .ok (.value z) w := fun w z hz => by
    simp only [execOp, i1]
    refine run_v ?_
    simp only [Instr.field, Sem.run_bind, run_underlying hu, Result.andThen, hf, asAgg, Sem.run_pure]
    exact hz
  rcases h7 with ⟨rfl, l', hl⟩ | ⟨rfl, rfl, hl⟩
  · have hg : l[f.offset]? = some u := by
      have := congrArg List.head? hl
      rwa [List.head?_drop] at this
    exact .pure r h6 (i2 u (List.mem_of_getElem? hg)) (fun w => run w _ (run_part1 (shT_shape hsh) (by simp [hg]) w))
  · refine .pure r h6 (bel_agg.2 fun x hx => i2 x (List.mem_of_mem_drop (List.mem_of_mem_take hx))) (fun w => run w _ ?_)
    rw [inst_agg]
    refine run_partN (shT_shape hsh) ?_ w
    apply Array.ext'
    simp [List.map_drop, List.map_take]
end Go.Ev

/-
  What is proved here: new blocks, blocks laid anew, elements, slices.
-/
namespace Go.Ev
open Go Go.Ow Go.RowKit
set_option linter.unusedVariables false
set_option linter.unusedSimpArgs false

variable {P : Program} {m : Mp} {st : St} {ρ : Operand → Value} {S : Nat → Prop} {w0 w : World} {k : KV} {q : Ex × St}
variable {d : Option Tmp} {ty : TypeId} {pos : String} {aft : Array Edge} {g : Option (Nat × Bool)}

/-! ### An own block laid anew -/
theorem Rel.relay {h h' : Hp} {i : Nat} {b : Blk} {o' : Option Blk} {w' : World} (r : Rel m h S w0 w) (e : h.t.get i = some b) (ho : b.own = true) (hnx : h'.nx = h.nx)
    (hg : ∀ j, h'.t.get j = if j = i then o' else h.t.get j) (hw : ∀ k, k ≠ (m i).blk → w'.heap[k]? = w.heap[k]?) (hsz : w'.heap.size = w.heap.size) (h1 : w'.os = w.os) (h2 : w'.tape = w.tape) (h3 : w'.output = w.output) (h4 : w'.drawn = w.drawn)
    (hb : ∀ b', o' = some b' → BR m h.nx (m i) w' b') : Rel m h' S w0 w' := by
  have cs : ∀ j c, h'.t.get j = some c → (j = i ∧ o' = some c) ∨ (j ≠ i ∧ h.t.get j = some c) := fun j c ej => by
    rw [hg] at ej
    by_cases hj : j = i
    · rw [if_pos hj] at ej; exact .inl ⟨hj, ej⟩
    · rw [if_neg hj] at ej; exact .inr ⟨hj, ej⟩
  have hi := (r.br i b e).1
  refine ⟨fun j c ej => ?_, fun j l c c' ej el hjl hoc => ?_, fun j c ej => ?_, h1.trans r.os, h2.trans r.tape, h3.trans r.output, by rw [hsz]; exact r.size, by rw [h4]; exact r.drawn, fun k hk hs => ?_⟩
  · rw [hnx]
    rcases cs j c ej with ⟨rfl, hc⟩ | ⟨hj, ej⟩
    · exact ⟨hi, hb c hc⟩
    · refine ⟨(r.br j c ej).1, (r.br j c ej).2.ext (Ext.refl _ _) (Nat.le_refl _) (hw _ ?_)⟩
      exact fun q => r.apart i j b c e ej (fun q' => hj q'.symm) ho q.symm
  · rcases cs j c ej with ⟨rfl, hc⟩ | ⟨hj, ej⟩ <;> rcases cs l c' el with ⟨rfl, hc'⟩ | ⟨hl, el⟩
    · exact absurd rfl hjl
    · exact r.apart j l b c' e el hjl ho
    · exact fun q => r.apart l j b c e ej (fun q' => hjl q'.symm) ho q.symm
    · exact r.apart j l c c' ej el hjl hoc
  · rcases cs j c ej with ⟨rfl, hc⟩ | ⟨hj, ej⟩
    · exact (r.fresh j b e).imp id (fun q => q.imp id fun q => by have := q.1; rw [ho] at this; cases this)
    · exact r.fresh j c ej
  · rw [hw k ?_]
    · exact r.keep k hk hs
    · intro q
      rcases r.fresh i b e with q' | q' | ⟨q', _⟩
      · exact hs (by rw [q]; exact q')
      · rw [← q] at q'; exact Nat.lt_irrefl _ (Nat.lt_of_lt_of_le hk q')
      · rw [ho] at q'; cases q'
theorem setRow_other {b : Nat} {cs : Array Value} (k : Nat) (hk : k ≠ b) : (w.setRow b cs).heap[k]? = w.heap[k]? := by
  simp only [World.setRow, Array.getElem?_modify]; rw [if_neg (fun e => hk e.symm)]
theorem setRow_size {b : Nat} {cs : Array Value} : (w.setRow b cs).heap.size = w.heap.size := by simp [World.setRow]
theorem one1_inst {v : Value} (h : one1 v = true) : (inst m v).oneCell' = true := by
  cases v with
  | agg cs => cases h
  | tuple cs => cases h
  | func f a b => obtain ⟨a⟩ := a; obtain ⟨b⟩ := b; rw [inst_func]; rfl
  | _ => simp only [inst]; rfl
theorem ones_all : ∀ {vs : List Value}, ones vs = true → ∀ v ∈ vs, one1 v = true
  | [], _ => fun v hv => by cases hv
  | u :: vs, h => fun v hv => by
    have h' : (Bool.rec false (ones vs) (one1 u) : Bool) = true := h
    cases hu : one1 u with
    | false => rw [hu] at h'; cases h'
    | true =>
      rw [hu] at h'
      rcases List.mem_cons.1 hv with rfl | hv
      · exact hu
      · exact ones_all h' v hv
theorem frozen_out {g j : Nat} {cur : Array Value} {t : TypeId} {fr : Nat × Nat} (hg : w.heap[g]? = some (.cells cur t fr)) (hf : Thaw t fr cur.size) (hj : j < cur.size) : w.frozen? ⟨g, j, none⟩ = false := by
  simp only [World.frozen?, hg]
  rcases hf with rfl | ⟨hf, _⟩
  · simp
  · have : ¬ fr.1 ≤ j := by omega
    simp [this]
theorem storeCells_out (P : Program) (g o : Nat) (t : TypeId) (fr : Nat × Nat) : ∀ (vs : List Value) (i : Nat) (cur : Array Value) (w : World), w.heap[g]? = some (.cells cur t fr) → Thaw t fr cur.size → o + i + vs.length ≤ cur.size → (∀ v ∈ vs, v.oneCell' = true) →
    (storeCells ⟨g, o, none⟩ vs i).run P w = .ok () (w.setRow g (cur.toList.take (o + i) ++ vs ++ cur.toList.drop (o + i + vs.length)).toArray)
  | [], i, cur, w, hg, _, _, _ => by
    simp only [storeCells, List.append_nil, List.length_nil, Nat.add_zero, List.take_append_drop, Array.toArray_toList]
    rw [setRow_self w g cur t fr hg]
    rfl
  | v :: rest, i, cur, w, hg, hf, hl, h1 => by
    have hi : o + i < cur.size := by simp at hl; omega
    have hadd : (⟨g, o, none⟩ : Addr).add i = ⟨g, o + i, none⟩ := by unfold Addr.add; split <;> simp_all
    have hcell : w.cell? ⟨g, o + i, none⟩ = some cur[o + i] := by simp [World.cell?, hg, hi]
    have hfro : w.frozen? ⟨g, o + i, none⟩ = false := frozen_out hg hf hi
    have hst : (store ((⟨g, o, none⟩ : Addr).add i) v).run P w = .ok () (w.setRow g (cur.setIfInBounds (o + i) v)) := by
      rw [hadd, run_store P w _ v _ (h1 v (by simp)), hcell]
      simp [hfro, setCell_eq_setRow w g (o + i) cur t fr v hg]
    have ih := storeCells_out P g o t fr rest (i + 1) (cur.setIfInBounds (o + i) v) (w.setRow g (cur.setIfInBounds (o + i) v)) (setRow_heap w g cur _ t _ hg) (by simpa using hf) (by simp at hl ⊢; omega) (fun x hx => h1 x (by simp [hx]))
    simp only [storeCells, Sem.run_bind, hst, Result.andThen_ok, ih, setRow_setRow]
    congr 3
    have e := list_seg_step cur.toList (o + i) v rest (by simp at hl ⊢; omega)
    simpa [Array.toList_setIfInBounds, Nat.add_assoc] using e
theorem HasC.store {P : Program} {b o : Nat} {l : List Value} {t : TypeId} {vs : List Value} (h : HasC w b l t) (hl : o + 0 + vs.length ≤ l.length) (h1 : ∀ v ∈ vs, v.oneCell' = true) :
    (storeCells ⟨b, o, none⟩ vs 0).run P w = .ok () (w.setRow b (l.take (o + 0) ++ vs ++ l.drop (o + 0 + vs.length)).toArray) := by
  obtain ⟨fr, h2, h3⟩ := h
  have := storeCells_out P b o t fr vs 0 l.toArray w h3 (by simpa using h2) (by simpa using hl) h1
  simpa using this
/-- cells laid over those of an own row -/
theorem over_some {β : Type} {h : Hp} {b o : Nat} {vs : List Value} {k : Hp → Option β} {x : β} (e : overAt h b o vs k = some x) (r : Rel m h S w0 w) (hv : ∀ v ∈ vs, bel h.nx v) :
    ∃ h' w', k h' = some x ∧ h'.nx = h.nx ∧ Rel m h' S w0 w' ∧ (storeCells ⟨(m b).blk, (m b).base + o, none⟩ (vs.map (inst m))).run P w = .ok () w' := by
  obtain ⟨h1, h2⟩ := bT e
  have h1 := ones_all h1
  obtain ⟨n, l, t, h3⟩ := rowS_some h2
  have hone : ∀ v ∈ vs.map (inst m), v.oneCell' = true := fun v hv => by
    obtain ⟨u, hu, rfl⟩ := List.mem_map.1 hv
    exact one1_inst (h1 u hu)
  rcases h3 with ⟨h3, h4⟩ | ⟨z, h3, h4⟩
  · obtain ⟨h5, h6⟩ := layA_some h4
    obtain ⟨h', h7, h8, h9⟩ := put_some h6
    obtain ⟨hi, b1, b2, b3, b4⟩ := r.br b _ h3
    have hlen : vs ≠ [] → (l.take o ++ vs ++ l.drop (o + vs.length)).length = l.length := fun hne => by
      have := h5 hne; simp; omega
    by_cases hne : vs = []
    · subst hne
      refine ⟨h', w, h7, h8, ?_, rfl⟩
      refine r.sub' h8 (fun i c ec => ?_)
      rw [h9] at ec
      by_cases q : i = b
      · subst q; rw [if_pos rfl] at ec; rw [h3]
        cases ec; simp
      · rwa [if_neg q] at ec
    · refine ⟨h', w.setRow (m b).blk ((l.take o ++ vs ++ l.drop (o + vs.length)).map (inst m)).toArray, h7, h8, ?_, ?_⟩
      · refine r.relay h3 rfl h8 h9 (fun k hk => setRow_other k hk) setRow_size rfl rfl rfl rfl (fun b' eb => ?_)
        cases eb
        refine ⟨b1, by rw [hlen hne]; exact b2, fun v hv' => ?_, b4.set (by rw [List.length_map, List.length_map, hlen hne])⟩
        rcases List.mem_append.1 hv' with hv' | hv'
        · rcases List.mem_append.1 hv' with hv' | hv'
          · exact b3 v (List.mem_of_mem_take hv')
          · exact hv v hv'
        · exact b3 v (List.mem_of_mem_drop hv')
      · have := h5 hne
        have hst := b4.store (P := P) (o := o) (vs := vs.map (inst m)) (by simp; omega) hone
        rw [b1, Nat.zero_add, hst]
        congr 2
        simp [List.map_take, List.map_drop]
  · obtain ⟨h5, h6⟩ := layA_some h4
    obtain ⟨h', h7, h8, h9⟩ := put_some h6
    obtain ⟨hi, b0, b1, b2, b3, rest, b4, b5, b6⟩ := r.br b _ h3
    by_cases hne : vs = []
    · subst hne
      refine ⟨h', w, h7, h8, ?_, rfl⟩
      refine r.sub' h8 (fun i c ec => ?_)
      rw [h9] at ec
      by_cases q : i = b
      · subst q; rw [if_pos rfl] at ec; rw [h3]
        cases ec; simp
      · rwa [if_neg q] at ec
    · have hle := h5 hne
      have hlen : (l.take o ++ vs ++ l.drop (o + vs.length)).length = l.length := by simp; omega
      refine ⟨h', w.setRow (m b).blk ((l.take o ++ vs ++ l.drop (o + vs.length)).map (inst m) ++ rest).toArray, h7, h8, ?_, ?_⟩
      · refine r.relay h3 rfl h8 h9 (fun k hk => setRow_other k hk) setRow_size rfl rfl rfl rfl (fun b' eb => ?_)
        cases eb
        refine ⟨b0, b1, by rw [hlen]; exact b2, fun v hv' => ?_, rest, b4.set (by rw [List.length_append, List.length_append, List.length_map, List.length_map, hlen]), by rw [hlen]; exact b5, b6⟩
        rcases List.mem_append.1 hv' with hv' | hv'
        · rcases List.mem_append.1 hv' with hv' | hv'
          · exact b3 v (List.mem_of_mem_take hv')
          · exact hv v hv'
        · exact b3 v (List.mem_of_mem_drop hv')
      · have hst := b4.store (P := P) (o := o) (vs := vs.map (inst m)) (by simp; omega) hone
        rw [b1, Nat.zero_add, hst]
        congr 2
        simp only [Nat.add_zero, List.length_map]
        have t1 : (l.map (inst m) ++ rest).take o = (l.take o).map (inst m) := by rw [List.take_append_of_le_length (by simp; omega), List.map_take]
        have t2 : (l.map (inst m) ++ rest).drop (o + vs.length) = (l.drop (o + vs.length)).map (inst m) ++ rest := by rw [List.drop_append_of_le_length (by simp; omega), List.map_drop]
        rw [t1, t2]
        simp
/-- what an operation does that yields nothing -/
def ResS (P : Program) (S : Nat → Prop) (w0 : World) (m : Mp) (h : Hp) (w : World) (x : Sem Next) (k : KV) (q : Ex × St) : Prop :=
  ∃ h' w', k undefV h' = some q ∧ h'.nx = h.nx ∧ Rel m h' S w0 w' ∧ x.run P w = .ok .skip w'
theorem store_ok (hs : OpR m st ρ) (r : Rel m st.h S w0 w) {T : TypeId} {p o : Operand} (e : oStore P st k T p o = some q) : ResS P S w0 m st.h w (execOp ρ ⟨d, .store T p o, ty, pos, aft, g⟩) k q := by
  obtain ⟨v, h1, h2⟩ := wth_some e
  obtain ⟨b, off, rfl, h3⟩ := vPtr_some h2
  obtain ⟨u, h4, h5⟩ := wth_some h3
  obtain ⟨n, h6, h7⟩ := oB_some h5
  obtain ⟨h8, h9⟩ := bT h7
  have hn := Nat.eq_of_beq_eq_true h8
  obtain ⟨i1, i2⟩ := hs.opd h1
  obtain ⟨i3, i4⟩ := hs.opd h4
  rw [inst_ptr] at i1
  obtain ⟨h', w', j1, j2, j3, j4⟩ := over_some (P := P) h9 r (fun x hx => bel_cells i4 x hx)
  refine ⟨h', w', j1, j2, j3, ?_⟩
  simp only [execOp, i1, i3]
  refine run_u ?_
  have hsz : (inst m u).cells.size = n := by rw [← Array.length_toList, inst_cells, List.length_map]; exact hn
  simp only [Instr.storeAt, Instr.sureAddr, storeVar, Sem.run_bind, Sem.run_pure, run_size h6, Result.andThen, hsz, ne_eq, not_true, if_false]
  rw [inst_cells]; exact j4

/-! ### New blocks -/
theorem alloc_kept (o : Obj) : Kept [] w (w.alloc o) := ⟨rfl, rfl, rfl, by simp, Nat.le_refl _, fun b hb _ => Below.heap_alloc w o b hb⟩
/-- a row of just these cells, in new memory -/
theorem Rel.newCs {h h' : Hp} (r : Rel m h S w0 w) {l : List Value} {t : TypeId} (hl : ∀ v ∈ l, bel h.nx v) (hnx : h'.nx = h.nx + 1) (hg : ∀ j, h'.t.get j = if j = h.nx then some (.cs l.length l t) else h.t.get j) :
    Rel (upd m h.nx ⟨w.heap.size, 0, 0, 1, Nat.zero_le _⟩) h' S w0 (w.alloc (.cells (l.map (inst m)).toArray t (0, 0))) := by
  have he := upd_ext m h.nx ⟨w.heap.size, 0, 0, 1, Nat.zero_le _⟩
  refine r.add (alloc_kept _) hnx hg ⟨rfl, rfl, fun v hv => bel_mono (Nat.le_succ _) v (hl v hv), ?_⟩ ⟨Nat.le_refl _, by simp⟩
  rw [map_ext he hl]; exact .of (heap_alloc_new w _)
theorem inst_new (h : Hp) (mb : MB) (hb : mb.base = 0) : inst (upd m h.nx mb) (.pointer (some ⟨h.nx, 0, none⟩)) = .pointer (some ⟨mb.blk, 0, none⟩) := by
  rw [inst_ptr, upd_same, hb]
theorem ptrNew_ok (r : Rel m st.h S w0 w) {l : List Value} {t : TypeId} {n : Nat} (hn : n = l.length) (hl : ∀ v ∈ l, bel st.h.nx v) {x : Sem Next} (e : ptrNew k (ohp st) (.cs n l t) = some q)
    (hx : x.run P w = .ok (.value (.pointer (some ⟨w.heap.size, 0, none⟩))) (w.alloc (.cells (l.map (inst m)).toArray t (0, 0)))) : Res P S w0 m st.h w x k q := by
  subst hn
  obtain ⟨h', h1, h2, h3⟩ := push_some e
  refine ⟨_, _, h', _, h1, upd_ext m st.h.nx ⟨w.heap.size, 0, 0, 1, Nat.zero_le _⟩, by rw [h2]; exact Nat.le_succ _, r.newCs hl h2 h3, bel_ptr.2 (by rw [h2]; exact Nat.lt_succ_self _), ?_⟩
  rw [show (ohp st).nx = st.h.nx from rfl, inst_new st.h _ rfl]; exact hx
theorem alloc_ok (hs : OpR m st ρ) (r : Rel m st.h S w0 w) {T : TypeId} (e : oAlloc P st k T = some q) : Res P S w0 m st.h w (execOp ρ ⟨d, .alloc T, ty, pos, aft, g⟩) k q := by
  obtain ⟨z, h1, h2⟩ := oB_some e
  obtain ⟨n, h3, h4⟩ := oB_some h2
  obtain ⟨i, v, hi, hz, rfl, hf, hlen⟩ := zrT_some h1
  obtain ⟨i', hi', hsz⟩ := szT_info h3
  rw [hi] at hi'; cases hi'
  refine ptrNew_ok r (by rw [hlen, hsz]) (fun u hu => bel_flat1 (flatL_iff hf u hu) _) h4 ?_
  rw [map_flat hf]
  simp only [execOp]
  refine run_v ?_
  simp only [Instr.alloc, Sem.run_bind, run_zero hi hz, Result.andThen, newVar, newRow, run_newObj_alloc, Sem.run_pure, Array.toArray_toList]
theorem box_ok (hs : OpR m st ρ) (r : Rel m st.h S w0 w) {T : TypeId} {o : Operand} (e : oBox P st k T o = some q) : Res P S w0 m st.h w (execOp ρ ⟨d, .box T o, ty, pos, aft, g⟩) k q := by
  obtain ⟨v, h1, h2⟩ := wth_some e
  obtain ⟨n, h3, h4⟩ := oB_some h2
  obtain ⟨h5, h6⟩ := bT h4
  obtain ⟨i1, i2⟩ := hs.opd h1
  refine ptrNew_ok r (Nat.eq_of_beq_eq_true h5).symm (fun u hu => bel_cells i2 u hu) h6 ?_
  rw [← inst_cells]
  simp only [execOp, i1]
  refine run_v ?_
  simp only [Instr.box, newVar, newRow, Sem.run_bind, run_newObj_alloc, Result.andThen, Sem.run_pure, Array.toArray_toList]
end Go.Ev

/-
  What is proved here: elements, structs built, slices.
-/
namespace Go.Ev
open Go Go.Ow Go.RowKit
set_option linter.unusedVariables false
set_option linter.unusedSimpArgs false

variable {P : Program} {m : Mp} {st : St} {ρ : Operand → Value} {S : Nat → Prop} {w0 w : World} {k : KV} {q : Ex × St}
variable {d : Option Tmp} {ty : TypeId} {pos : String} {aft : Array Edge} {g : Option (Nat × Bool)}

theorem inst_slice (b o n c : Nat) : inst m (.slice (some ⟨b, o, none⟩) n c) = .slice (some ⟨(m b).blk, (m b).base + o, none⟩) n (iCap m (some ⟨b, o, none⟩) c) := by simp [inst, iA]
theorem inst_nilSl (n c : Nat) : inst m (.slice none n c) = .slice none n (iCap m none c) := by simp [inst]
theorem bel_slice {n b o k c : Nat} {s : Option Nat} : bel n (.slice (some ⟨b, o, s⟩) k c) ↔ b < n := by simp [bel]
theorem run_ixS {T e : TypeId} {n b o len cap j : Nat} {kk : IntKind} (hu : P.underlying T = some (.slice e)) (hs : szT P e = some n) (hk : j < len) (w : World) :
    (Instr.indexAt T (.slice (some ⟨b, o, none⟩) len cap) (.int kk (j : Int))).run P w = .ok (.pointer (some ⟨b, o + j * n, none⟩)) w := by
  have h0 : (0 : Int) ≤ (j : Int) ∧ (j : Int) < (len : Int) := ⟨by omega, by omega⟩
  simp only [Instr.indexAt, asIntOf, Sem.run_bind, Sem.run_pure, Result.andThen, run_underlying hu, if_pos h0, run_size hs, Int.toNat_natCast, add_lit]
theorem run_ixA {T e : TypeId} {n b o len j : Nat} {kk : IntKind} (hu : P.underlying T = some (.array len e)) (hs : szT P e = some n) (hk : j < len) (w : World) :
    (Instr.indexAt T (.pointer (some ⟨b, o, none⟩)) (.int kk (j : Int))).run P w = .ok (.pointer (some ⟨b, o + j * n, none⟩)) w := by
  have h0 : (0 : Int) ≤ (j : Int) ∧ (j : Int) < (len : Int) := ⟨by omega, by omega⟩
  simp only [Instr.indexAt, asIntOf, Instr.sureAddr, Sem.run_bind, Sem.run_pure, Result.andThen, run_underlying hu, if_pos h0, run_size hs, Int.toNat_natCast, add_lit]
theorem ptrAt_some {h : Hp} {b p j n sz : Nat} (e : ptrAt h b p j n sz k = some q) : j < n ∧ k (.pointer (some ⟨b, p + j * sz, none⟩)) h = some q := by
  obtain ⟨h1, h2⟩ := bT e
  rw [fN_eq] at h2
  exact ⟨blt_lt h1, h2⟩
theorem indexAddr_p (hs : OpR m st ρ) (r : Rel m st.h S w0 w) {T : TypeId} {o i : Operand} (e : oIndexAddr P st k T o i = some q) : PRes P m st.h (execOp ρ ⟨d, .indexAddr T o i, ty, pos, aft, g⟩) k q := by
  obtain ⟨v, h1, h2⟩ := wth_some e
  obtain ⟨u, h3, h4⟩ := wth_some h2
  obtain ⟨kd, j, rfl, h5⟩ := vNat_some h4
  obtain ⟨i1, i2⟩ := hs.opd h1
  obtain ⟨i3, i4⟩ := hs.opd h3
  rw [inst_int] at i3
  unfold idxA at h5
  split at h5
  · rename_i b p n c
    obtain ⟨⟨e', sz⟩, h6, h7⟩ := oB_some h5
    obtain ⟨h8, h9⟩ := ptrAt_some h7
    obtain ⟨hu, hsz⟩ := elT_some h6
    rw [inst_slice] at i1
    refine .pure r h9 (bel_ptr.2 (bel_slice.1 i2)) ?_
    intro w
    rw [inst_ptr]
    simp only [execOp, i1, i3]
    have := run_ixS (P := P) (b := (m b).blk) (o := (m b).base + p) (len := n) (cap := iCap m (some ⟨b, p, none⟩) c) (kk := kd) hu hsz h8 w
    rw [Nat.add_assoc] at this
    exact run_v this
  · rename_i b p
    obtain ⟨⟨n, e', sz⟩, h6, h7⟩ := oB_some h5
    obtain ⟨h8, h9⟩ := ptrAt_some h7
    obtain ⟨hu, hsz⟩ := arT_some h6
    rw [inst_ptr] at i1
    refine .pure r h9 (bel_ptr.2 (bel_ptr.1 i2)) ?_
    intro w
    rw [inst_ptr]
    simp only [execOp, i1, i3]
    have := run_ixA (P := P) (b := (m b).blk) (o := (m b).base + p) (kk := kd) hu hsz h8 w
    rw [Nat.add_assoc] at this
    exact run_v this
  · cases h5
theorem index_p (hs : OpR m st ρ) (r : Rel m st.h S w0 w) {T : TypeId} {o i : Operand} (e : oIndex P st k T o i = some q) : PRes P m st.h (execOp ρ ⟨d, .index T o i, ty, pos, aft, g⟩) k q := by
  obtain ⟨v, h1, h2⟩ := wth_some e
  obtain ⟨u, h3, h4⟩ := wth_some h2
  obtain ⟨kd, j, rfl, h5⟩ := vNat_some h4
  obtain ⟨i1, i2⟩ := hs.opd h1
  obtain ⟨i3, i4⟩ := hs.opd h3
  rw [inst_int] at i3
  unfold idxV at h5
  split at h5
  · rename_i s
    obtain ⟨h6, h7⟩ := bT h5
    obtain ⟨c, h8, h9⟩ := oB_some h7
    rw [kN_eq] at h9
    rw [nth_eq] at h8
    have hu : P.underlying T = some .string := by
      unfold strT at h6
      split at h6
      · rename_i hu; exact hu
      · cases h6
    have hx : s[j]? = some c := by
      obtain ⟨⟨l⟩⟩ := s
      have hj := (List.getElem?_eq_some_iff.1 h8).1
      have hj' : j < (⟨⟨l⟩⟩ : ByteArray).size := hj
      rw [getElem?_pos (⟨⟨l⟩⟩ : ByteArray) j hj']
      exact h8 ▸ (List.getElem?_eq_getElem hj).symm
    have i1 : ρ o = .string s := by rw [i1]; simp [inst]
    refine .pure r h9 bel_int ?_
    intro w
    rw [inst_int]
    simp only [execOp, i1, i3]
    refine run_v ?_
    have h0 : (0 : Int) ≤ (j : Int) := by omega
    simp only [Instr.index, asIntOf, Sem.run_bind, Sem.run_pure, Result.andThen, run_underlying hu, show Int.ofNat j = (j : Int) from rfl, if_pos h0, Int.toNat_natCast, hx]
  · rename_i cs
    obtain ⟨l⟩ := cs
    obtain ⟨⟨n, e', sz⟩, h6, h7⟩ := oB_some h5
    obtain ⟨⟨gg, sz'⟩, h8, h9⟩ := oB_some h7
    obtain ⟨h10, h11⟩ := bT h9
    obtain ⟨u, h12, h13⟩ := valOf_some h11
    obtain ⟨hu, hsz⟩ := arT_some h6
    have hj := blt_lt h10
    rw [inst_agg] at i1
    have i2 := bel_agg.1 i2
    rw [dropL_eq] at h13
    have hsh := shT_shape h8
    have hss : sz' = sz := by
      obtain ⟨ii, q1, q2⟩ := szT_info hsz
      unfold shapeOf at hsh
      rw [q1] at hsh
      cases hd : P.underlying e' <;> rw [hd] at hsh <;> cases hsh
      exact q2
    subst hss
    have run : ∀ w z, (part e' (l.map (inst m)).toArray (j * sz')).run P w = .ok z w → (execOp ρ ⟨d, .index T o i, ty, pos, aft, g⟩).run P w = .ok (.value z) w := fun w z hz => by
      have h0 : (0 : Int) ≤ (j : Int) ∧ (j : Int) < (n : Int) := ⟨by omega, by omega⟩
      simp only [execOp, i1, i3]
      refine run_v ?_
      simp only [Instr.index, asIntOf, Sem.run_bind, Sem.run_pure, Result.andThen, run_underlying hu, show Int.ofNat j = (j : Int) from rfl, if_pos h0, run_size hsz, Int.toNat_natCast]
      exact hz
    rcases h13 with ⟨rfl, l', hl⟩ | ⟨rfl, rfl, hl⟩
    · have hg : l[j * sz']? = some u := by
        have := congrArg List.head? hl
        rwa [List.head?_drop] at this
      exact .pure r h12 (i2 u (List.mem_of_getElem? hg)) (fun w => run w _ (run_part1 hsh (by simp [hg]) w))
    · refine .pure r h12 (bel_agg.2 fun x hx => i2 x (List.mem_of_mem_drop (List.mem_of_mem_take hx))) (fun w => run w _ ?_)
      rw [inst_agg]
      refine run_partN hsh ?_ w
      apply Array.ext'
      simp [List.map_drop, List.map_take]
  · cases h5

/-! ### Slices -/
theorem bnd_some {β : Type} {o : Option Operand} {n : Nat} {k : Nat → Option β} {x : β} (hs : OpR m st ρ) (e : bnd st o n k = some x) : ∃ a, k a = some x ∧ ((o = none ∧ a = n) ∨ ∃ o' kd, o = some o' ∧ ρ o' = .int kd (a : Int)) := by
  cases o with
  | none => exact ⟨n, e, .inl ⟨rfl, rfl⟩⟩
  | some o =>
    obtain ⟨v, h1, h2⟩ := wth_some e
    obtain ⟨kd, a, rfl, h3⟩ := vNat_some h2
    have := (hs.opd h1).1
    rw [inst_int] at this
    exact ⟨a, h3, .inr ⟨o, kd, rfl, this⟩⟩
theorem bound_run {x : Value} {y n : Nat} {c : BoundsCode} {kd : IntKind} (hx : x = .int kd (n : Int)) (h : n ≤ y) (w : World) : (Instr.sliceBound x y c).run P w = .ok n w := by
  subst hx
  have h0 : (0 : Int) ≤ (n : Int) ∧ (n : Int) ≤ (y : Int) := ⟨by omega, by omega⟩
  simp only [Instr.sliceBound, asIntOf, Sem.run_bind, Sem.run_pure, Result.andThen, if_pos h0, Int.toNat_natCast]
theorem bounds_run {isS : Bool} {len cap l h mm : Nat} {lo hi mx : Option Operand} (h1 : (lo = none ∧ l = 0) ∨ ∃ o kd, lo = some o ∧ ρ o = .int kd (l : Int)) (h2 : (hi = none ∧ h = len) ∨ ∃ o kd, hi = some o ∧ ρ o = .int kd (h : Int))
    (h3 : (mx = none ∧ mm = cap) ∨ ∃ o kd, mx = some o ∧ ρ o = .int kd (mm : Int)) (hl : l ≤ h) (hh : h ≤ mm) (hm : mm ≤ cap) (hx : mx = none ∨ hi ≠ none) (w : World) :
    (Instr.sliceBounds isS len cap (lo.map ρ) (hi.map ρ) (mx.map ρ)).run P w = .ok (l, h, mm) w := by
  have L : ∀ c, (match lo.map ρ with
      | some v => do let l ← Instr.sliceBound v h c; pure (l, h, mm)
      | none => do let l ← pure 0; pure (l, h, mm) : Sem (Nat × Nat × Nat)).run P w = .ok (l, h, mm) w := fun c => by
    rcases h1 with ⟨rfl, rfl⟩ | ⟨o, kd, rfl, e⟩
    · rfl
    · simp only [Option.map_some, Sem.run_bind, bound_run e hl w, Result.andThen, Sem.run_pure]
  rcases h3 with ⟨rfl, rfl⟩ | ⟨o3, kd3, rfl, e3⟩
  · rcases h2 with ⟨rfl, rfl⟩ | ⟨o2, kd2, rfl, e2⟩
    · simp only [Instr.sliceBounds, Option.map_none, Sem.run_bind, Sem.run_pure, Result.andThen]
      exact L _
    · have H := bound_run (P := P) (c := if isS then .sliceAcap else .sliceAlen) e2 hh w
      simp only [Instr.sliceBounds, Option.map_none, Option.map_some, Sem.run_bind, Sem.run_pure, Result.andThen, H]
      exact L _
  · rcases h2 with ⟨rfl, rfl⟩ | ⟨o2, kd2, rfl, e2⟩
    · rcases hx with hx | hx
      · cases hx
      · exact absurd rfl hx
    · have H := bound_run (P := P) (c := .slice3B) e2 hh w
      have M := bound_run (P := P) (c := if isS then .slice3Acap else .slice3Alen) e3 hm w
      simp only [Instr.sliceBounds, Option.map_some, Sem.run_bind, Sem.run_pure, Result.andThen, M, H]
      exact L _
end Go.Ev

/-
  What is proved here: slices of slices, of arrays, of texts.
-/
namespace Go.Ev
open Go Go.Ow Go.RowKit
set_option linter.unusedVariables false
set_option linter.unusedSimpArgs false

variable {P : Program} {m : Mp} {st : St} {ρ : Operand → Value} {S : Nat → Prop} {w0 w : World} {k : KV} {q : Ex × St}
variable {d : Option Tmp} {ty : TypeId} {pos : String} {aft : Array Edge} {g : Option (Nat × Bool)}

theorem slice_run {T e : TypeId} {sz n cap l h mm : Nat} {ao : Option Addr} {lo hi mx : Option Operand} (hu : P.underlying T = some (.slice e)) (hz : szT P e = some sz)
    (h1 : (lo = none ∧ l = 0) ∨ ∃ o kd, lo = some o ∧ ρ o = .int kd (l : Int)) (h2 : (hi = none ∧ h = n) ∨ ∃ o kd, hi = some o ∧ ρ o = .int kd (h : Int))
    (h3 : (mx = none ∧ mm = cap) ∨ ∃ o kd, mx = some o ∧ ρ o = .int kd (mm : Int)) (hl : l ≤ h) (hh : h ≤ mm) (hm : mm ≤ cap) (hx : mx = none ∨ hi ≠ none) (w : World) :
    (Instr.sliceAt T (.slice ao n cap) (lo.map ρ) (hi.map ρ) (mx.map ρ)).run P w = .ok (.slice (if mm = l then ao else ao.map (·.add (l * sz))) (h - l) (mm - l)) w := by
  have B := bounds_run (P := P) (isS := true) (len := n) (cap := cap) h1 h2 h3 hl hh hm hx w
  simp only [Instr.sliceAt, Sem.run_bind, run_underlying hu, Result.andThen, Instr.slice, B, run_size hz, Sem.run_pure]
theorem sliceArr_run {T e : TypeId} {sz n l h b o : Nat} {lo hi : Option Operand} (hu : P.underlying T = some (.array n e)) (hz : szT P e = some sz)
    (h1 : (lo = none ∧ l = 0) ∨ ∃ o kd, lo = some o ∧ ρ o = .int kd (l : Int)) (h2 : (hi = none ∧ h = n) ∨ ∃ o kd, hi = some o ∧ ρ o = .int kd (h : Int)) (hl : l ≤ h) (hh : h ≤ n) (w : World) :
    (Instr.sliceAt T (.pointer (some ⟨b, o, none⟩)) (lo.map ρ) (hi.map ρ) ((none : Option Operand).map ρ)).run P w = .ok (.slice (some (if n = l then ⟨b, o, none⟩ else (⟨b, o, none⟩ : Addr).add (l * sz))) (h - l) (n - l)) w := by
  have B := bounds_run (P := P) (isS := false) (len := n) (cap := n) (mx := none) h1 h2 (.inl ⟨rfl, rfl⟩) hl hh (Nat.le_refl _) (.inl rfl) w
  simp only [Instr.sliceAt, Instr.sureAddr, Sem.run_bind, run_underlying hu, Result.andThen, B, run_size hz, Sem.run_pure]
theorem movA_eq (b o sz l mm : Nat) : movA b o sz l mm = some ⟨b, if mm = l then o else o + l * sz, none⟩ := by
  unfold movA
  by_cases h : mm = l
  · rw [if_pos h, show Nat.beq mm l = true by rw [h]; exact Nat.beq_refl l]
  · rw [if_neg h, show Nat.beq mm l = false by rw [← Bool.not_eq_true]; intro c; exact h (Nat.eq_of_beq_eq_true c)]; rfl
theorem sliceV_some {h : Hp} {sz b o l hi mm : Nat} (e : sliceV k h sz b o l hi mm = some q) : l ≤ hi ∧ hi ≤ mm ∧ mm - l ≠ UNK ∧ k (.slice (some ⟨b, if mm = l then o else o + l * sz, none⟩) (hi - l) (mm - l)) h = some q := by
  obtain ⟨h1, h2⟩ := bT e
  simp only [Bool.and_eq_true] at h1
  rw [fN_eq, fN_eq, fOA_eq, movA_eq] at h2
  exact ⟨ble_le h1.1, ble_le h1.2.1, Nat.ne_of_lt (Nat.lt_of_le_of_lt (Nat.sub_le _ _) (blt_lt h1.2.2)), h2⟩
theorem iCap_known {ao : Option Addr} {c : Nat} (h : c ≠ UNK) : iCap m ao c = c := if_neg h
theorem iCap_unk {b o : Nat} : iCap m (some ⟨b, o, none⟩) UNK = (m b).C - o / (m b).sz := if_pos rfl
/-- what is known of a row whose room is not -/
theorem unk_some {h : Hp} {b o n sz : Nat} (r : Rel m h S w0 w) (e : unkB h b o n sz = true) : (m b).sz = sz ∧ 0 < sz ∧ o + n * sz ≤ (m b).C * sz := by
  unfold unkB at e
  cases hb : h.get b with
  | none => rw [hb] at e; cases e
  | some bl =>
    rw [hb] at e
    have hb' : h.t.get b = some bl := hb
    cases bl with
    | gr nb l t z =>
      have e' : (and (Nat.beq z sz) (and (Nat.blt 0 sz) (Nat.ble (Nat.add o (Nat.mul n sz)) nb))) = true := e
      simp only [Bool.and_eq_true] at e'
      obtain ⟨_, b0, b1, b2, b3, rest, b4, b5, b6⟩ := r.br b _ hb'
      have hz := Nat.eq_of_beq_eq_true e'.1
      subst hz
      exact ⟨b0, blt_lt e'.2.1, by have := ble_le e'.2.2; rw [b0] at b5; show o + n * z ≤ _; have : o + n * z ≤ nb := this; omega⟩
    | im nb l z =>
      have e' : (and (Nat.beq z sz) (and (Nat.blt 0 sz) (Nat.ble (Nat.add o (Nat.mul n sz)) nb))) = true := e
      simp only [Bool.and_eq_true] at e'
      obtain ⟨_, b0, b1, b2, b3, b4⟩ := r.br b _ hb'
      have hz := Nat.eq_of_beq_eq_true e'.1
      subst hz
      exact ⟨b0, blt_lt e'.2.1, by have : o + n * z ≤ nb := ble_le e'.2.2; omega⟩
    | cs => cases e
    | df => cases e
    | lp => cases e
theorem unk_cap {b o n sz : Nat} (h1 : (m b).sz = sz) (h2 : 0 < sz) (h3 : o + n * sz ≤ (m b).C * sz) : n ≤ iCap m (some ⟨b, o, none⟩) UNK := by
  rw [iCap_unk, h1]
  have : (o + n * sz) / sz ≤ (m b).C := by
    have := Nat.div_le_div_right (c := sz) h3
    rwa [Nat.mul_div_cancel _ h2] at this
  rw [Nat.add_mul_div_right _ _ h2] at this
  omega
theorem add_eq (b o n : Nat) : (⟨b, o, none⟩ : Addr).add n = ⟨b, o + n, none⟩ := add_lit b o n
theorem slice_p (hs : OpR m st ρ) (r : Rel m st.h S w0 w) {T : TypeId} {o : Operand} {lo hi mx : Option Operand} (e : oSlice P st k T o lo hi mx = some q) : PRes P m st.h (execOp ρ ⟨d, .slice T o lo hi mx, ty, pos, aft, g⟩) k q := by
  obtain ⟨v, h1, h2⟩ := wth_some e
  obtain ⟨i1, i2⟩ := hs.opd h1
  unfold sliceD at h2
  split at h2
  · rename_i b p n c
    obtain ⟨⟨e', sz⟩, h3, h4⟩ := oB_some h2
    obtain ⟨l, h5, hl⟩ := bnd_some hs h4
    obtain ⟨hh, h6, hhi⟩ := bnd_some hs h5
    obtain ⟨hu, hsz⟩ := elT_some h3
    rw [inst_slice] at i1
    have hb := bel_slice.1 i2
    -- what is answered where the room is known
    have known : ∀ mm cap, l ≤ hh → hh ≤ mm → mm ≤ cap → ((mx = none ∧ mm = cap) ∨ ∃ o kd, mx = some o ∧ ρ o = .int kd (mm : Int)) → (mx = none ∨ hi ≠ none) → cap = iCap m (some ⟨b, p, none⟩) c → mm - l ≠ UNK →
        k (.slice (some ⟨b, if mm = l then p else p + l * sz, none⟩) (hh - l) (mm - l)) st.h = some q → PRes P m st.h (execOp ρ ⟨d, .slice T o lo hi mx, ty, pos, aft, g⟩) k q := fun mm cap a1 a2 a3 a4 a5 a6 a7 a8 => by
      refine .pure r a8 (bel_slice.2 hb) ?_
      intro w
      have R := slice_run (P := P) (ρ := ρ) (ao := some ⟨(m b).blk, (m b).base + p, none⟩) (n := n) (cap := cap) hu hsz hl hhi a4 a1 a2 a3 a5 w
      simp only [execOp, i1]
      refine run_v ?_
      rw [← a6, R, inst_slice, iCap_known a7]
      by_cases hq : mm = l
      · simp [hq]
      · simp only [hq, if_false, Option.map_some, add_eq, Nat.add_assoc]
    cases mx with
    | none =>
      have h6' : (Bool.rec (sliceV k (ohp st) sz b p l hh c) (sliceU k (ohp st) sz b p n l hh) (Nat.beq c UNK) : Out) = some q := h6
      rcases bb_some h6' with ⟨hc, h7⟩ | ⟨hc, h7⟩
      · have hc := Nat.eq_of_beq_eq_true hc
        subst hc
        obtain ⟨h8, h9⟩ := bT h7
        rw [fN_eq, fN_eq] at h9
        simp only [Bool.and_eq_true] at h8
        obtain ⟨a1, a2, a3, a4⟩ := h8
        have a1 := ble_le a1; have a2 := ble_le a2; have a3 := blt_lt a3
        obtain ⟨u1, u2, u3⟩ := unk_some r a4
        have hcap := unk_cap u1 u2 u3
        refine .pure r h9 (bel_slice.2 hb) ?_
        intro w
        have R := slice_run (P := P) (ρ := ρ) (ao := some ⟨(m b).blk, (m b).base + p, none⟩) (n := n) (cap := iCap m (some ⟨b, p, none⟩) UNK) (mm := iCap m (some ⟨b, p, none⟩) UNK) (mx := none) hu hsz hl hhi (.inl ⟨rfl, rfl⟩) a1 (Nat.le_trans a2 hcap) (Nat.le_refl _) (.inl rfl) w
        simp only [execOp, i1]
        refine run_v ?_
        rw [R, inst_slice]
        have hne : ¬ iCap m (some ⟨b, p, none⟩) UNK = l := by omega
        have hcc : iCap m (some ⟨b, Nat.add p (Nat.mul l sz), none⟩) UNK = iCap m (some ⟨b, p, none⟩) UNK - l := by
          rw [iCap_unk, iCap_unk, u1]
          show (m b).C - (p + l * sz) / sz = _
          rw [Nat.add_mul_div_right _ _ u2]; omega
        rw [hcc, if_neg hne, show (m b).base + Nat.add p (Nat.mul l sz) = (m b).base + p + l * sz from (Nat.add_assoc _ _ _).symm]
        simp only [Option.map_some, add_eq]
        rfl
      · have hc : c ≠ UNK := fun q => by rw [q, Nat.beq_refl] at hc; cases hc
        obtain ⟨a1, a2, a3, a4⟩ := sliceV_some h7
        exact known c c a1 a2 (Nat.le_refl _) (.inl ⟨rfl, rfl⟩) (.inl rfl) (iCap_known hc).symm a3 a4
    | some mo =>
      obtain ⟨mm, h7, hmm⟩ := bnd_some hs (show bnd st (some mo) 0 _ = some q from h6)
      obtain ⟨h8, h9⟩ := bT (show (Bool.rec none _ (isS hi) : Out) = some q from h7)
      have hmm' : (some mo = none ∧ mm = iCap m (some ⟨b, p, none⟩) c) ∨ ∃ o kd, some mo = some o ∧ ρ o = .int kd (mm : Int) := by
        rcases hmm with ⟨c', _⟩ | h
        · cases c'
        · exact .inr h
      have hne : hi ≠ none := by intro c'; rw [c'] at h8; cases h8
      rcases bb_some h9 with ⟨hc, h10⟩ | ⟨hc, h10⟩
      · have hc := Nat.eq_of_beq_eq_true hc
        subst hc
        obtain ⟨h11, h12⟩ := bT h10
        rw [Bool.and_eq_true] at h11
        obtain ⟨a1, a2, a3, a4⟩ := sliceV_some h12
        obtain ⟨u1, u2, u3⟩ := unk_some r h11.2
        exact known mm _ a1 a2 (Nat.le_trans (ble_le h11.1) (unk_cap u1 u2 u3)) hmm' (.inr hne) rfl a3 a4
      · have hc : c ≠ UNK := fun q => by rw [q, Nat.beq_refl] at hc; cases hc
        obtain ⟨h11, h12⟩ := bT h10
        obtain ⟨a1, a2, a3, a4⟩ := sliceV_some h12
        exact known mm _ a1 a2 (by rw [iCap_known hc]; exact ble_le h11) hmm' (.inr hne) rfl a3 a4
  · obtain ⟨⟨e', sz⟩, h3, h4⟩ := oB_some h2
    obtain ⟨l, h5, hl⟩ := bnd_some hs h4
    obtain ⟨hh, h6, hhi⟩ := bnd_some hs h5
    obtain ⟨hu, hsz⟩ := elT_some h3
    have hn : iCap m none 0 = 0 := iCap_known (by decide)
    rw [inst_nilSl, hn] at i1
    have fin : ∀ mm : Nat, l = 0 → hh = 0 → mm = 0 → ((mx = none ∧ mm = 0) ∨ ∃ o kd, mx = some o ∧ ρ o = .int kd (mm : Int)) → (mx = none ∨ hi ≠ none) → k (.slice none 0 0) st.h = some q → PRes P m st.h (execOp ρ ⟨d, .slice T o lo hi mx, ty, pos, aft, g⟩) k q := fun mm a1 a2 a3 a4 a5 a6 => by
      subst a1; subst a2; subst a3
      refine .pure r a6 (by simp only [bel]; intro x c; cases c) ?_
      intro w
      have R := slice_run (P := P) (ρ := ρ) (ao := none) (n := 0) (cap := 0) hu hsz hl hhi a4 (Nat.le_refl _) (Nat.le_refl _) (Nat.le_refl _) a5 w
      simp only [execOp, i1]
      refine run_v ?_
      rw [R, inst_nilSl, hn]; rfl
    cases mx with
    | none =>
      obtain ⟨h7, h8⟩ := bT (show (Bool.rec none _ (and (Nat.beq l 0) (Nat.beq hh 0)) : Out) = some q from h6)
      rw [Bool.and_eq_true] at h7
      exact fin 0 (Nat.eq_of_beq_eq_true h7.1) (Nat.eq_of_beq_eq_true h7.2) rfl (.inl ⟨rfl, rfl⟩) (.inl rfl) h8
    | some mo =>
      obtain ⟨mm, h7, hmm⟩ := bnd_some hs (show bnd st (some mo) 0 _ = some q from h6)
      obtain ⟨h8, h9⟩ := bT h7
      simp only [Bool.and_eq_true] at h8
      have hmm' : (some mo = none ∧ mm = 0) ∨ ∃ o kd, some mo = some o ∧ ρ o = .int kd (mm : Int) := by
        rcases hmm with ⟨c', _⟩ | h
        · cases c'
        · exact .inr h
      exact fin mm (Nat.eq_of_beq_eq_true h8.2.1) (Nat.eq_of_beq_eq_true h8.2.2.1) (Nat.eq_of_beq_eq_true h8.2.2.2) hmm' (.inr (by intro c'; rw [c'] at h8; cases h8.1)) h9
  · rename_i s
    cases mx with
    | some mo => cases h2
    | none =>
    obtain ⟨hT, h2⟩ := bT (show (Bool.rec none (sliceX st k s lo hi) (strT P T) : Out) = some q from h2)
    obtain ⟨l, h5, hl⟩ := bnd_some hs h2
    obtain ⟨hh, h6, hhi⟩ := bnd_some hs h5
    obtain ⟨h7, h8⟩ := bT h6
    rw [allA_eq] at h8
    rw [Bool.and_eq_true] at h7
    have hu : P.underlying T = some .string := by
      unfold strT at hT
      split at hT
      · rename_i hu; exact hu
      · cases hT
    have i1 : ρ o = .string s := by rw [i1]; simp [inst]
    refine .pure r h8 (by simp only [bel]) ?_
    intro w
    have B := bounds_run (P := P) (isS := false) (len := s.size) (cap := s.size) (mx := none) hl hhi (.inl ⟨rfl, rfl⟩) (ble_le h7.1) (ble_le h7.2) (Nat.le_refl _) (.inl rfl) w
    rw [show inst m (.string ⟨⟨(s.extract l hh).data.toList⟩⟩) = .string (s.extract l hh) by simp only [inst]]
    simp only [execOp, i1]
    refine run_v ?_
    simp only [Option.map_none] at B ⊢
    simp only [Instr.sliceAt, Sem.run_bind, run_underlying hu, Result.andThen, Instr.slice, B, Sem.run_pure, Option.isSome_none, Bool.false_eq_true, if_false]
  · rename_i b p
    unfold slicePT at h2
    split at h2
    · rename_i n0 e0 hu0
      obtain ⟨⟨n, e', sz⟩, h3, h4⟩ := oB_some h2
      obtain ⟨l, h5, hl⟩ := bnd_some hs h4
      obtain ⟨hh, h6, hhi⟩ := bnd_some hs h5
      obtain ⟨hu, hsz⟩ := arT_some h3
      rw [inst_ptr] at i1
      cases mx with
      | some mo => cases h6
      | none =>
        obtain ⟨a1, a2, a3, a4⟩ := sliceV_some (show sliceV k (ohp st) sz b p l hh n = some q from h6)
        refine .pure r a4 (bel_slice.2 (bel_ptr.1 i2)) ?_
        intro w
        have R := sliceArr_run (P := P) (ρ := ρ) (b := (m b).blk) (o := (m b).base + p) hu hsz hl hhi a1 a2 w
        simp only [execOp, i1]
        refine run_v ?_
        rw [R, inst_slice, iCap_known a3]
        by_cases hq : n = l
        · simp [hq]
        · simp only [hq, if_false, add_eq, Nat.add_assoc]
    · cases h2
  · cases h2
/-- a number of a block of which nothing is listed -/
theorem Rel.skip {h h' : Hp} (r : Rel m h S w0 w) (mb : MB) (hnx : h'.nx = h.nx + 1) (hg : ∀ j, h'.t.get j = if j = h.nx then none else h.t.get j) : Rel (upd m h.nx mb) h' S w0 w := by
  have old : ∀ i b, h'.t.get i = some b → h.t.get i = some b := fun i b e => by
    rw [hg] at e
    by_cases hi : i = h.nx
    · rw [if_pos hi] at e; cases e
    · rwa [if_neg hi] at e
  have mo : ∀ i b, h.t.get i = some b → upd m h.nx mb i = m i := fun i b e => if_neg (Nat.ne_of_lt (r.br i b e).1)
  refine ⟨fun i b e => ?_, fun i j b c e e' hij ho => ?_, fun i b e => ?_, r.os, r.tape, r.output, r.size, r.drawn, r.keep⟩
  · have e := old i b e
    obtain ⟨h1, h2⟩ := r.br i b e
    rw [hnx]
    refine ⟨Nat.lt_succ_of_lt h1, ?_⟩
    rw [mo i b e]
    exact h2.ext (upd_ext m h.nx mb) (Nat.le_succ _) rfl
  · rw [mo i b (old i b e), mo j c (old j c e')]; exact r.apart i j b c (old i b e) (old j c e') hij ho
  · rw [mo i b (old i b e)]; exact r.fresh i b (old i b e)
theorem slice_ok (hs : OpR m st ρ) (r : Rel m st.h S w0 w) {T : TypeId} {o : Operand} {lo hi mx : Option Operand} (e : oSliceO P st k T o lo hi mx = some q) : Res P S w0 m st.h w (execOp ρ ⟨d, .slice T o lo hi mx, ty, pos, aft, g⟩) k q := by
  obtain ⟨v, h1, h2⟩ := wth_some e
  have els : sliceD P st k T lo hi mx v = some q → Res P S w0 m st.h w (execOp ρ ⟨d, .slice T o lo hi mx, ty, pos, aft, g⟩) k q := fun h3 =>
    (slice_p hs r (show oSlice P st k T o lo hi mx = some q by unfold oSlice wth; rw [h1]; exact h3)).res r
  unfold sliceG at h2
  split at h2
  · rename_i b p n c
    unfold sliceF at h2
    rcases bb_some h2 with ⟨hc, h3⟩ | ⟨hc, h3⟩
    · have hc := Nat.eq_of_beq_eq_true hc
      subst hc
      cases mx with
      | some mo => exact els h3
      | none =>
        obtain ⟨l, h5, hl⟩ := bnd_some hs h3
        rcases bb_some h5 with ⟨hln, h6⟩ | ⟨hln, h6⟩
        · obtain ⟨⟨e', sz⟩, h7, h8⟩ := oB_some h6
          obtain ⟨hh, h9, hhi⟩ := bnd_some hs h8
          obtain ⟨h10, h11⟩ := bT h9
          rw [Bool.and_eq_true] at h10
          have hln := Nat.eq_of_beq_eq_true hln
          have hhn := Nat.eq_of_beq_eq_true h10.1
          subst hln; subst hhn
          obtain ⟨hu, hsz⟩ := elT_some h7
          obtain ⟨i1, i2⟩ := hs.opd h1
          rw [inst_slice] at i1
          have hb := bel_slice.1 i2
          obtain ⟨u1, u2, u3⟩ := unk_some r h10.2
          have hcap := unk_cap u1 u2 u3
          have R := slice_run (P := P) (ρ := ρ) (ao := some ⟨(m b).blk, (m b).base + p, none⟩) (n := hh) (cap := iCap m (some ⟨b, p, none⟩) UNK) (mm := iCap m (some ⟨b, p, none⟩) UNK) (mx := none) hu hsz hl hhi (.inl ⟨rfl, rfl⟩) (Nat.le_refl _) hcap (Nat.le_refl _) (.inl rfl) w
          have hle : iCap m (some ⟨b, p, none⟩) UNK - hh ≤ 9223372036854775807 := by
            rw [iCap_unk]; exact Nat.le_trans (Nat.sub_le _ _) (Nat.le_trans (Nat.sub_le _ _) (m b).hC)
          obtain ⟨h', h12, hx, hg⟩ : ∃ h', k (.slice (some ⟨st.h.nx, 0, none⟩) 0 UNK) h' = some q ∧ h'.nx = st.h.nx + 1 ∧ ∀ j, h'.t.get j = if j = st.h.nx then none else st.h.t.get j := by
            have h11 : sliceE k st.h = some q := h11
            unfold sliceE at h11
            cases hh' : st.h with
            | mk t nx =>
              rw [hh'] at h11
              obtain ⟨t', j1, j2⟩ := Ht.set_some (show t.set nx none (fun t => fN (Nat.succ nx) fun n => k (.slice (some ⟨nx, 0, none⟩) 0 UNK) ⟨t, n⟩) = some q from h11)
              exact ⟨⟨t', nx + 1⟩, by rw [← fN_eq (nx + 1) (fun n => k (.slice (some ⟨nx, 0, none⟩) 0 UNK) ⟨t', n⟩)]; exact j1, rfl, j2⟩
          clear hcap
          generalize iCap m (some ⟨b, p, none⟩) UNK = C at R hle i1
          refine ⟨upd m st.h.nx ⟨(m b).blk, if C = hh then (m b).base + p else (m b).base + p + hh * sz, C - hh, 1, hle⟩, _, h', w, h12, upd_ext _ _ _, by rw [hx]; exact Nat.le_succ _, r.skip _ hx hg, bel_slice.2 (by rw [hx]; exact Nat.lt_succ_self _), ?_⟩
          simp only [execOp, i1]
          refine run_v ?_
          rw [R, inst_slice, iCap_unk, upd_same]
          by_cases hq : C = hh
          · simp [hq]
          · simp only [hq, if_false, Option.map_some, add_eq, Nat.add_zero, Nat.zero_div, Nat.sub_zero, Nat.sub_self]
        · exact els h6
    · exact els h3
  · exact els h2
end Go.Ev
