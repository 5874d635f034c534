/-
  What is proved here: maps whose keys are ints: made, written, ranged over in whatever order; over OwY.
-/
import Derived.Test.YtdelcjkjkhcaoaaOwY
import Derived.Maps.RangeRun
import Derived.Test.YtdelcjkjkhcaoaaOwPB
namespace Go.Ow
open Go.RowKit
set_option linter.unusedVariables false
set_option linter.unusedSimpArgs false

/-- the entries of a map, in the order in which they came -/
structure MapIs {α : Type} (R : Rep α) (H : Heaplet) (es : Array MapEntry) (M : List (Int × α)) : Prop where
  size : es.size = M.length
  here : ∀ i k y, M[i]? = some (k, y) → ∃ cs : List Value, es[i]? = some (MapEntry.mk (.int .i64 k) (.agg cs.toArray) i) ∧ R H cs y
  nodup : (M.map (·.1)).Nodup

theorem putM_new {α : Type} : ∀ {M : List (Int × α)} {k : Int} {y : α}, (∀ p ∈ M, p.1 ≠ k) → putM M k y = M ++ [(k, y)]
  | [], _, _, _ => rfl
  | p :: r, k, y, h => by
    simp only [putM, if_neg (h p (by simp)), List.cons_append]
    rw [putM_new (fun q hq => h q (by simp [hq]))]
theorem putM_old {α : Type} : ∀ {M : List (Int × α)} {k : Int} {y : α} {j : Nat} {z : α}, (M.map (·.1)).Nodup → M[j]? = some (k, z) → putM M k y = M.set j (k, y)
  | [], _, _, _, _, _, h => by simp at h
  | p :: r, k, y, 0, z, _, h => by simp at h; subst h; simp [putM]
  | p :: r, k, y, j + 1, z, hn, h => by
    simp only [List.map_cons, List.nodup_cons] at hn
    simp only [List.getElem?_cons_succ] at h
    have hne : p.1 ≠ k := fun e => hn.1 (by rw [e]; exact List.mem_map.2 ⟨(k, z), List.mem_of_getElem? h, rfl⟩)
    simp only [putM, if_neg hne, List.set_cons_succ]
    rw [putM_old hn.2 h]

theorem MapIs.nil {α : Type} (R : Rep α) (H : Heaplet) : MapIs R H #[] [] := ⟨rfl, fun i k y h => by simp at h, by simp⟩
theorem MapIs.mono {α : Type} {R : Rep α} (hR : R.Mono) {H H' : Heaplet} (hle : Hle H H') {es : Array MapEntry} {M : List (Int × α)} (h : MapIs R H es M) : MapIs R H' es M :=
  ⟨h.size, fun i k y e => by obtain ⟨cs, h1, h2⟩ := h.here i k y e; exact ⟨cs, h1, hR _ _ _ _ hle h2⟩, h.nodup⟩
theorem MapIs.entry {α : Type} {R : Rep α} {H : Heaplet} {es : Array MapEntry} {M : List (Int × α)} (h : MapIs R H es M) {e : MapEntry} (he : e ∈ es.toList) :
    ∃ i k y, ∃ cs : List Value, M[i]? = some (k, y) ∧ es[i]? = some e ∧ e = MapEntry.mk (.int .i64 k) (.agg cs.toArray) i ∧ R H cs y := by
  obtain ⟨i, hi⟩ := List.mem_iff_getElem?.1 he
  have hi' : es[i]? = some e := by simpa using hi
  have hlt : i < M.length := by rw [← h.size]; exact (Array.getElem?_eq_some_iff.1 hi').1
  obtain ⟨cs, h1, h2⟩ := h.here i (M[i]).1 (M[i]).2 (by simp [hlt])
  exact ⟨i, (M[i]).1, (M[i]).2, cs, by simp [hlt], hi', by rw [hi'] at h1; exact Option.some.inj h1, h2⟩
theorem MapIs.keys {α : Type} {R : Rep α} {H : Heaplet} {es : Array MapEntry} {M : List (Int × α)} (h : MapIs R H es M) : ∀ e ∈ es.toList, MapKept.IsKey (.int .i64) e.key := fun e he => by
  obtain ⟨i, k, y, cs, -, -, rfl, -⟩ := h.entry he
  rfl
theorem MapIs.born {α : Type} {R : Rep α} {H : Heaplet} {es : Array MapEntry} {M : List (Int × α)} (h : MapIs R H es M) : ∀ e ∈ es.toList, e.born < M.length := fun e he => by
  obtain ⟨i, k, y, cs, h1, -, rfl, -⟩ := h.entry he
  exact (List.getElem?_eq_some_iff.1 h1).1
theorem MapIs.bornAt {α : Type} {R : Rep α} {H : Heaplet} {es : Array MapEntry} {M : List (Int × α)} (h : MapIs R H es M) : es.toList.map (·.born) = List.range M.length := by
  refine List.ext_getElem? (fun i => ?_)
  rw [List.getElem?_map]
  by_cases hi : i < M.length
  · obtain ⟨cs, h1, -⟩ := h.here i (M[i]).1 (M[i]).2 (by simp [hi])
    rw [Array.getElem?_toList, h1]
    simp [hi]
  · rw [Array.getElem?_toList, Array.getElem?_eq_none (by rw [h.size]; omega)]
    simp [hi]

theorem MapIs.put {α : Type} {R : Rep α} {H : Heaplet} {es : Array MapEntry} {M : List (Int × α)} (h : MapIs R H es M) {k : Int} {cs : List Value} {y : α} (hR : R H cs y) :
    (∀ e ∈ es.toList, e.key ≠ .int .i64 k) → MapIs R H (es.push (MapEntry.mk (.int .i64 k) (.agg cs.toArray) M.length)) (putM M k y) := fun hn => by
  have hM : ∀ p ∈ M, p.1 ≠ k := fun p hp e => by
    obtain ⟨i, hi⟩ := List.mem_iff_getElem?.1 hp
    obtain ⟨cs', h1, -⟩ := h.here i p.1 p.2 hi
    exact hn _ (Array.mem_toList_iff.2 (Array.mem_of_getElem? h1)) (by simp [e])
  rw [putM_new hM]
  refine ⟨by simp [h.size], fun i k' y' e => ?_, ?_⟩
  · rw [List.getElem?_append] at e
    split at e
    · obtain ⟨cs', h1, h2⟩ := h.here i k' y' e
      refine ⟨cs', ?_, h2⟩
      have := (Array.getElem?_eq_some_iff.1 h1).1
      rw [Array.getElem?_push_lt this, ← h1, Array.getElem?_eq_getElem this]
    · rename_i hi
      have : i = M.length := by
        rcases Nat.lt_or_ge 0 (i - M.length) with h' | h'
        · rw [List.getElem?_eq_none (by simp only [List.length_cons, List.length_nil]; omega)] at e; cases e
        · omega
      subst this
      simp at e
      obtain ⟨rfl, rfl⟩ := e
      exact ⟨cs, by rw [← h.size]; simp, hR⟩
  · rw [List.map_append]
    refine List.nodup_append.2 ⟨h.nodup, by simp, fun a ha b hb => ?_⟩
    simp at hb
    subst hb
    obtain ⟨p, hp, rfl⟩ := List.mem_map.1 ha
    exact hM p hp
theorem MapIs.turn {α : Type} {R : Rep α} {H : Heaplet} {es : Array MapEntry} {M : List (Int × α)} (h : MapIs R H es M) {k : Int} {cs : List Value} {y : α} (hR : R H cs y) {j : Nat} {e : MapEntry}
    (hj : es[j]? = some e) (hk : e.key = .int .i64 k) : MapIs R H (es.modify j fun e => { e with key := .int .i64 k, val := .agg cs.toArray }) (putM M k y) ∧ (putM M k y).length = M.length := by
  obtain ⟨i, k', z, cs', h1, h2, h3, -⟩ := h.entry (Array.mem_toList_iff.2 (Array.mem_of_getElem? hj))
  subst h3
  simp only [Value.int.injEq, true_and] at hk
  subst hk
  have hij : i = j := by
    have hlt : j < M.length := by rw [← h.size]; exact (Array.getElem?_eq_some_iff.1 hj).1
    obtain ⟨cs2, h4, -⟩ := h.here j (M[j]).1 (M[j]).2 (by simp [hlt])
    rw [hj] at h4
    simp only [Option.some.injEq, MapEntry.mk.injEq] at h4
    exact h4.2.2
  subst hij
  rw [putM_old h.nodup h1]
  have hlt := (List.getElem?_eq_some_iff.1 h1).1
  refine ⟨⟨by simp [h.size], fun i' k'' y' e => ?_, ?_⟩, by simp⟩
  · rw [List.getElem?_set] at e
    split at e
    · rename_i hii
      subst hii
      simp only [hlt, if_true, Option.some.injEq, Prod.mk.injEq] at e
      obtain ⟨rfl, rfl⟩ := e
      exact ⟨cs, by rw [Array.getElem?_modify, if_pos rfl, h2]; rfl, hR⟩
    · rename_i hii
      obtain ⟨cs2, h4, h5⟩ := h.here i' k'' y' e
      exact ⟨cs2, by rw [Array.getElem?_modify, if_neg hii]; exact h4, h5⟩
  · rw [List.map_set]
    rw [show (M.map (·.1)).set i k' = M.map (·.1) from by
      refine List.ext_getElem? (fun n => ?_)
      rw [List.getElem?_set]
      split
      · rename_i hn; subst hn
        simp [hlt]
        have := (List.getElem?_eq_some_iff.1 h1).2
        rw [this]
      · rfl]
    exact h.nodup

/-! ### A block that is turned -/
open Go.ChangeMaps (setBlock)
theorem Mem.setBlk {w : World} {H : Heaplet} {b : Nat} {o o' : Obj} (ha : Agrees H w) (hb : w.heap[b]? = some o) (hap : ∀ q, H b q = none) :
    Mem w H [b] [(b, o')] H (setBlock w b o') := by
  have hlt := (Array.getElem?_eq_some_iff.1 hb).1
  have ho : ∀ k, k ≠ b → (setBlock w b o').heap[k]? = w.heap[k]? := fun k hk => (MapKept.heap_set (o' := o') hb).2 k hk
  refine ⟨fun b' off v e => ?_, ⟨?_, by simp [ids], fun p hp off => ?_⟩, ⟨rfl, rfl, rfl, by simp [setBlock], Nat.le_refl _, fun k hk hn => ho k (by simpa using hn)⟩, fun p hp => .inl (by simp at hp; simp [hp]), Hle.refl _, fun _ _ _ => rfl, Mem.soft0⟩
  · have := ha b' off v e
    rw [World.cell?_of_block (w := w) (ho b' (fun e' => by subst e'; rw [hap] at e; cases e))]; exact this
  · intro p hp; simp at hp; subst hp
    exact (MapKept.heap_set (o' := o') hb).1
  · simp at hp; subst hp; exact hap off

variable {x : Cx} {ops : Array Oper} {Q : Exit → Act → World → Prop} {rest : List Oper} {l : Slots} {own : List Own} {H : Heaplet}
variable {ty : TypeId} {d : Nat} {pos : String} {aft : Array Edge} {v : Value}

theorem JL.mkMap {t : TypeId} (hd : Nat.blt d x.n = true)
    (h : ∀ b, x.w0.heap.size ≤ b → JL x ops Q rest ((d, .map (some b)) :: l) ([(b, .map #[] 0)] :: own) H) : JL x ops Q (⟨some d, .makeMap t none, ty, pos, aft, none⟩ :: rest) l own H :=
  JL.new (v' := fun b => .map (some b)) hd rfl (fun ρ w _ _ _ _ hρ => by
    simp only [execOp]
    refine run_v ?_
    simp only [Instr.makeMap, Sem.run_bind, Sem.run_pure, Option.map, run_newObj_alloc, Result.andThen]) h

theorem JL.rangeMap (i : Nat) {p : Operand} {t kt et : TypeId} {bm c : Nat} {es : Array MapEntry} (hu : x.P.underlying t = some (.map kt et)) (h1 : evo l p = some (.map (some bm)))
    (hi : own[i]? = some [(bm, .map es c)]) (hd : Nat.blt d x.n = true)
    (h : ∀ b, x.w0.heap.size ≤ b → JL x ops Q rest ((d, .pointer (some ⟨b, 0, none⟩)) :: l) ([(b, .mapIter (some bm) c #[] c)] :: own) H) : JL x ops Q (⟨some d, .range t p, ty, pos, aft, none⟩ :: rest) l own H := fun a w hh => by
  simp only [wpLs, wanted_none, if_true]
  refine ⟨fun _ _ => trivial, ?_⟩
  have hb := (own_here hh.mem hi).here (bm, .map es c) (by simp)
  have hr : (execOp a.eval ⟨some d, .range t p, ty, pos, aft, none⟩).run x.P w = .ok (.value (.pointer (some ⟨w.heap.size, 0, none⟩))) (w.alloc (.mapIter (some bm) c #[] c)) := by
    simp only [execOp, eval_of hh h1]
    exact run_v (run_range_map w t kt et bm es c hu hb)
  rw [semAt_of rfl, hr]
  refine h w.heap.size hh.mem.kept.size _ _ (Holds.put (x := x) (l := l) ?_ hd _)
  exact ⟨hh.size, hh.ds, hh.slots, by simpa using hh.mem.go0 (K' := [[(w.heap.size, _)]]) (by simpa using Mem.alloc hh.mem.agr _)⟩

theorem JL.mapUpd {α : Type} {R : Rep α} (i : Nat) {HF : Heaplet} {p q s : Operand} {mt kt et : TypeId} {b : Nat} {es : Array MapEntry} {M : List (Int × α)} {k : Int} {cs : List Value} {y : α}
    (hu : x.P.underlying mt = some (.map kt et)) (hk : x.P.underlying kt = some (.int .i64)) (h1 : evo l p = some (.map (some b))) (h2 : evo l q = some (.int .i64 k)) (h3 : evo l s = some (.agg cs.toArray))
    (hi : own[i]? = some [(b, .map es M.length)]) (hM : MapIs R HF es M) (hR : R HF cs y)
    (h : ∀ es', MapIs R HF es' (putM M k y) → JL x ops Q rest l (own.set i [(b, .map es' (putM M k y).length)]) H) :
    JL x ops Q (⟨none, .mapUpdate mt p q s, ty, pos, aft, none⟩ :: rest) l own H := fun a w hh => by
  simp only [wpLs, wanted_none, if_true]
  refine ⟨fun _ _ => trivial, ?_⟩
  have hb := own_here hh.mem hi
  have hbk := hb.here (b, .map es M.length) (by simp)
  have hap : ∀ o, H b o = none := fun o => hb.apart (b, .map es M.length) (by simp) o
  have hkey : MapKept.IsKey (.int .i64) (.int .i64 k) := rfl
  have key : ∃ es', MapIs R HF es' (putM M k y) ∧ (execOp a.eval ⟨none, .mapUpdate mt p q s, ty, pos, aft, none⟩).run x.P w = .ok .skip (setBlock w b (.map es' (putM M k y).length)) := by
    simp only [execOp, eval_of hh h1, eval_of hh h2, eval_of hh h3]
    rcases MapKept.findNow_spec hkey es.toList 0 hM.keys with ⟨g1, g2⟩ | ⟨j, e, g1, g2, g3⟩
    · have hput := hM.put hR g2
      refine ⟨_, hput, run_u ?_⟩
      simp only [Instr.mapUpdate, Sem.run_bind, run_underlying hu, MapKept.run_getObj_map hbk, MapKept.run_checkKey hk hkey, MapKept.run_findKey hk g1, MapKept.run_setObj_map _ hbk, Result.andThen, setBlock]
      rw [← hput.size]; simp [hM.size]
    · have hj : es[j]? = some e := by simpa using g2
      obtain ⟨ht, hl⟩ := hM.turn hR hj g3
      refine ⟨_, ht, run_u ?_⟩
      simp [Instr.mapUpdate, run_underlying hu, MapKept.run_getObj_map hbk, MapKept.run_checkKey hk hkey, MapKept.run_findKey hk g1, hj, g3, MapKept.run_keyThatStays hkey, MapKept.run_setObj_map _ hbk, Result.andThen, setBlock, hl]
  obtain ⟨es', hes, hr⟩ := key
  rw [semAt_of rfl, hr]
  exact h es' hes _ _ ⟨hh.size, hh.ds, hh.slots, hh.mem.go1 hi (by simpa [ids] using Mem.setBlk hh.mem.agr hbk hap)⟩

/-- the step of the range: nothing is left, or some entry that was not seen comes -/
theorem JL.nextMap {α : Type} {R : Rep α} (i j : Nat) {HF : Heaplet} {p : Operand} {bi bm c0 : Nat} {es : Array MapEntry} {M : List (Int × α)} {seen : Array Nat}
    (h1 : evo l p = some (.pointer (some ⟨bi, 0, none⟩))) (hi : own[i]? = some [(bi, .mapIter (some bm) M.length seen c0)]) (hj : own[j]? = some [(bm, .map es M.length)]) (hM : MapIs R HF es M)
    (hc : M.length ≤ c0) (hd : Nat.blt d x.n = true)
    (hend : (∀ k, k < M.length → k ∈ seen.toList) → JL x ops Q rest ((d, .tuple #[.bool false]) :: l) own H)
    (hgo : ∀ n k y cs, M[n]? = some (k, y) → es[n]? = some (MapEntry.mk (.int .i64 k) (.agg cs.toArray) n) → n ∉ seen.toList → R HF cs y →
      JL x ops Q rest ((d, .tuple #[.bool true, .int .i64 k, .agg cs.toArray]) :: l) (own.set i [(bi, .mapIter (some bm) M.length (seen.push n) M.length)]) H) :
    JL x ops Q (⟨some d, .next p false, ty, pos, aft, none⟩ :: rest) l own H := fun a w hh => by
  simp only [wpLs, wanted_none, if_true]
  refine ⟨fun _ _ => trivial, ?_⟩
  have hb := own_here hh.mem hi
  have hbi := hb.here (bi, .mapIter (some bm) M.length seen c0) (by simp)
  have hbm := (own_here hh.mem hj).here (bm, .map es M.length) (by simp)
  have hap : ∀ o, H bi o = none := fun o => hb.apart (bi, .mapIter (some bm) M.length seen c0) (by simp) o
  rcases run_next_at (P := x.P) w ty bi bm M.length c0 seen es M.length hbi hbm hM.born hc with ⟨g1, g2⟩ | ⟨e, g1, w1, g2, g3⟩
  · have hr : (execOp a.eval ⟨some d, .next p false, ty, pos, aft, none⟩).run x.P w = .ok (.value (.tuple #[.bool false])) w := by
      simp only [execOp, eval_of hh h1]
      exact run_v g2
    rw [semAt_of rfl, hr]
    refine hend (fun k hk => ?_) _ _ (hh.put hd _)
    obtain ⟨cs, q1, -⟩ := hM.here k (M[k]).1 (M[k]).2 (by simp [hk])
    have hz : leftOf es seen = #[] := Array.eq_empty_of_size_eq_zero g1
    have := Array.filter_eq_empty_iff.1 hz _ (Array.mem_of_getElem? q1)
    simpa using this
  · have hr : (execOp a.eval ⟨some d, .next p false, ty, pos, aft, none⟩).run x.P w = .ok (.value (.tuple #[.bool true, e.key, e.val])) (setBlock w1 bi (.mapIter (some bm) M.length (seen.push e.born) M.length)) := by
      simp only [execOp, eval_of hh h1]
      exact run_v g3
    rw [semAt_of rfl, hr]
    have he : e ∈ es.toList ∧ e.born ∉ seen.toList := by
      have := g1
      simp [leftOf] at this
      exact ⟨by simpa using this.1, by simpa using this.2⟩
    obtain ⟨n, k, y, cs, q1, q2, rfl, q4⟩ := hM.entry he.1
    have hm1 : Mem x.w0 x.H0 x.S own.flatten H w1 := by
      rcases g2 with rfl | rfl
      · exact hh.mem
      · exact hh.mem.drew
    have hbi1 : w1.heap[bi]? = some (.mapIter (some bm) M.length seen c0) := by
      rcases g2 with rfl | rfl
      · exact hbi
      · exact hbi
    refine hgo n k y cs q1 q2 he.2 q4 _ _ (Holds.put (x := x) (l := l) ?_ hd _)
    exact ⟨hh.size, hh.ds, hh.slots, hm1.go1 hi (by simpa [ids] using Mem.setBlk hm1.agr hbi1 hap)⟩

/-- the round's key and value -/
theorem JL.entryMap {α : Type} {R : Rep α} (i j : Nat) {HF : Heaplet} {p : Operand} {bi bm n : Nat} {es : Array MapEntry} {M : List (Int × α)} {seen : Array Nat} {k : Int} {cs : List Value}
    (h1 : evo l p = some (.pointer (some ⟨bi, 0, none⟩))) (hi : own[i]? = some [(bi, .mapIter (some bm) M.length (seen.push n) M.length)]) (hj : own[j]? = some [(bm, .map es M.length)]) (hM : MapIs R HF es M)
    (he : es[n]? = some (MapEntry.mk (.int .i64 k) (.agg cs.toArray) n)) (hd : Nat.blt d x.n = true)
    (h : JL x ops Q rest ((d, .tuple #[.int .i64 k, .agg cs.toArray]) :: l) own H) : JL x ops Q (⟨some d, .entry p, ty, pos, aft, none⟩ :: rest) l own H :=
  JL.val hd rfl (fun ρ w _ _ _ _ hρ hm => by
    simp only [execOp, hρ _ _ h1]
    have hbi := hm.2 (bi, .mapIter (some bm) M.length (seen.push n) M.length) (List.mem_flatten.2 ⟨_, List.mem_of_getElem? hi, by simp⟩)
    have hbm := hm.2 (bm, .map es M.length) (List.mem_flatten.2 ⟨_, List.mem_of_getElem? hj, by simp⟩)
    exact run_v (run_entry_at w bi bm M.length seen es M.length (MapEntry.mk (.int .i64 k) (.agg cs.toArray) n) hbi hbm (Array.mem_toList_iff.2 (Array.mem_of_getElem? he)) (by rw [hM.bornAt]; exact List.nodup_range))) h

/-! ### A map that is owned -/
def MapOf {α : Type} (HF : Heaplet) (R : Rep α) (B n : Nat) (M : List (Int × α)) (K : Own) : Prop := B ≤ n ∧ ∃ es, K = [(n, .map es M.length)] ∧ MapIs R HF es M
section mapOf
variable {α : Type} {R : Rep α} {HF : Heaplet} {B n : Nat} {M : List (Int × α)} {K : Own}
theorem MapOf.weak {B' : Nat} (hB : B' ≤ B) (h : MapOf HF R B n M K) : MapOf HF R B' n M K := ⟨Nat.le_trans hB h.1, h.2⟩
theorem MapOf.ge (h : MapOf HF R B n M K) : ∀ p ∈ K, B ≤ p.1 := by
  obtain ⟨h1, es, rfl, -⟩ := h
  intro p hp; simp at hp; subst hp; exact h1
theorem MapOf.base {B' : Nat} (h : MapOf HF R B n M K) (hB : ∀ p ∈ K, B' ≤ p.1) : MapOf HF R B' n M K := by
  obtain ⟨h1, es, rfl, h2⟩ := h
  exact ⟨hB (n, .map es M.length) (by simp), es, rfl, h2⟩
theorem newM_ids {N : Nat} {S : List Nat} (h : MapOf HF R N n M K) (hS : ∀ i ∈ S, i < N) : ∀ p ∈ K, p.1 ∉ S := fun p hp hm => by
  have := h.ge p hp; have := hS _ hm; omega
theorem MapOf.mono {H2 : Heaplet} (h : MapOf HF R B n M K) (hR : R.Mono) (hle : Hle HF H2) : MapOf H2 R B n M K := by
  obtain ⟨h1, es, rfl, h2⟩ := h
  exact ⟨h1, es, rfl, h2.mono hR hle⟩
end mapOf
theorem MapOf.old {α : Type} {R : Rep α} {H H' : Heaplet} {B n : Nat} {M : List (Int × α)} {K : Own} (h : MapOf (New H H') R B n M K) (hR : R.Mono) : MapOf H' R B n M K := h.mono hR (New.le H H')

theorem JL.mkMapF {α : Type} (HF : Heaplet) (R : Rep α) {t : TypeId} (hd : Nat.blt d x.n = true)
    (h : ∀ b K, MapOf HF R x.w0.heap.size b [] K → JL x ops Q rest ((d, .map (some b)) :: l) (K :: own) H) : JL x ops Q (⟨some d, .makeMap t none, ty, pos, aft, none⟩ :: rest) l own H :=
  JL.mkMap hd (fun b hb => h b _ ⟨hb, _, rfl, MapIs.nil R HF⟩)
theorem JL.mapUpdF {α : Type} {R : Rep α} (i : Nat) {HF : Heaplet} {p q s : Operand} {mt kt et : TypeId} {B n : Nat} {K : Own} {M : List (Int × α)} {k : Int} {cs : List Value} {y : α}
    (hu : x.P.underlying mt = some (.map kt et)) (hk : x.P.underlying kt = some (.int .i64)) (h1 : evo l p = some (.map (some n))) (h2 : evo l q = some (.int .i64 k)) (h3 : evo l s = some (.agg cs.toArray))
    (hi : own[i]? = some K) (hM : MapOf HF R B n M K) (hR : R HF cs y)
    (h : ∀ K', MapOf HF R B n (putM M k y) K' → JL x ops Q rest l (own.set i K') H) :
    JL x ops Q (⟨none, .mapUpdate mt p q s, ty, pos, aft, none⟩ :: rest) l own H := by
  obtain ⟨g1, es, rfl, g2⟩ := hM
  exact JL.mapUpd i hu hk h1 h2 h3 hi g2 hR (fun es' he => h _ ⟨g1, es', rfl, he⟩)
theorem JL.rangeMapF {α : Type} {R : Rep α} (i : Nat) {HF : Heaplet} {p : Operand} {t kt et : TypeId} {B n : Nat} {K : Own} {M : List (Int × α)} (hu : x.P.underlying t = some (.map kt et)) (h1 : evo l p = some (.map (some n)))
    (hi : own[i]? = some K) (hM : MapOf HF R B n M K) (hd : Nat.blt d x.n = true)
    (h : ∀ b es, K = [(n, .map es M.length)] → MapIs R HF es M → JL x ops Q rest ((d, .pointer (some ⟨b, 0, none⟩)) :: l) ([(b, .mapIter (some n) M.length #[] M.length)] :: own) H) : JL x ops Q (⟨some d, .range t p, ty, pos, aft, none⟩ :: rest) l own H := by
  obtain ⟨g1, es, rfl, g2⟩ := hM
  exact JL.rangeMap i hu h1 hi hd (fun b hb => h b es rfl g2)

/-! ### What is laid from a map into a row, in whatever order -/
/-- those of S are laid -/
structure Laid {α β : Type} (f : α → β) (L : List β) (M : List (Int × α)) (S : List Nat) (B : List β) : Prop where
  len : B.length = L.length
  laid : ∀ n k y, n ∈ S → M[n]? = some (k, y) → B[k.toNat]? = some (f y)
  same : ∀ j, (∀ n k y, n ∈ S → M[n]? = some (k, y) → k.toNat ≠ j) → B[j]? = L[j]?
theorem Laid.start {α β : Type} (f : α → β) (L : List β) (M : List (Int × α)) : Laid f L M [] L := ⟨rfl, fun n k y h => by simp at h, fun j _ => rfl⟩
theorem key_unique {α : Type} {M : List (Int × α)} (hn : (M.map (·.1)).Nodup) {i j : Nat} {k : Int} {y z : α} (h1 : M[i]? = some (k, y)) (h2 : M[j]? = some (k, z)) : i = j := by
  have e1 : (M.map (·.1))[i]? = some k := by simp [h1]
  have e2 : (M.map (·.1))[j]? = some k := by simp [h2]
  exact (List.getElem?_inj (List.getElem?_eq_some_iff.1 e1).1 hn).1 (e1.trans e2.symm)
theorem Laid.step {α β : Type} {f : α → β} {L : List β} {M : List (Int × α)} {S : List Nat} {B : List β} (h : Laid f L M S B) (hn : (M.map (·.1)).Nodup) (hr : ∀ p ∈ M, 0 ≤ p.1 ∧ p.1.toNat < L.length)
    {n : Nat} {k : Int} {y : α} (hM : M[n]? = some (k, y)) (S' : List Nat) (hS : ∀ q, q ∈ S' ↔ q ∈ S ∨ q = n) : Laid f L M S' (B.set k.toNat (f y)) := by
  have hk := hr _ (List.mem_of_getElem? hM)
  refine ⟨by simp [h.len], fun n' k' y' hn' hM' => ?_, fun j hj => ?_⟩
  · rw [List.getElem?_set]
    split
    · rename_i e
      have hk' := hr _ (List.mem_of_getElem? hM')
      have : k = k' := by have := hk.1; have := hk'.1; simp only at *; omega
      subst this
      have := key_unique hn hM hM'
      subst this
      rw [hM] at hM'
      simp at hM'
      subst hM'
      rw [if_pos (by rw [h.len]; exact hk.2)]
    · rename_i e
      rcases (hS n').1 hn' with h' | h'
      · exact h.laid n' k' y' h' hM'
      · subst h'
        rw [hM] at hM'
        simp at hM'
        exact absurd (by rw [hM'.1]) e
  · rw [List.getElem?_set, if_neg (hj n k y ((hS n).2 (.inr rfl)) hM)]
    exact h.same j (fun n' k' y' h1 h2 => hj n' k' y' ((hS n').2 (.inl h1)) h2)
theorem Laid.unique {α β : Type} {f : α → β} {L : List β} {M : List (Int × α)} {S S' : List Nat} {B B' : List β} (h : Laid f L M S B) (h' : Laid f L M S' B') (hS : ∀ k, k < M.length → k ∈ S) (hS' : ∀ k, k < M.length → k ∈ S') : B = B' := by
  refine List.ext_getElem? (fun j => ?_)
  by_cases c : ∃ (n : Nat) (k : Int) (y : α), M[n]? = some (k, y) ∧ k.toNat = j
  · obtain ⟨n, k, y, h1, rfl⟩ := c
    have hlt := (List.getElem?_eq_some_iff.1 h1).1
    rw [h.laid n k y (hS n hlt) h1, h'.laid n k y (hS' n hlt) h1]
  · rw [h.same j (fun n k y _ h1 e => c ⟨n, k, y, h1, e⟩), h'.same j (fun n k y _ h1 e => c ⟨n, k, y, h1, e⟩)]
theorem Laid.layM {α β : Type} (f : α → β) (L : List β) (M : List (Int × α)) (hn : (M.map (·.1)).Nodup) (hr : ∀ p ∈ M, 0 ≤ p.1 ∧ p.1.toNat < L.length) : Laid f L M (List.range M.length) (layM f L M) := by
  have key : ∀ i, i ≤ M.length → Laid f L M (List.range i) ((M.take i).foldl (fun L p => L.set p.1.toNat (f p.2)) L) := by
    intro i
    induction i with
    | zero => intro _; simpa using Laid.start f L M
    | succ i ih =>
      intro hi
      have hi' : i < M.length := hi
      have hM : M[i]? = some ((M[i]).1, (M[i]).2) := by rw [List.getElem?_eq_getElem hi']
      have := (ih (by omega)).step hn hr hM (List.range (i + 1)) (fun q => by rw [List.mem_range, List.mem_range]; omega)
      rw [List.take_add_one, hM, List.foldl_append]
      exact this
  have := key M.length (Nat.le_refl _)
  rwa [List.take_length] at this
theorem Laid.full {α β : Type} {f : α → β} {L : List β} {M : List (Int × α)} {S : List Nat} {B : List β} (h : Laid f L M S B) (hn : (M.map (·.1)).Nodup) (hr : ∀ p ∈ M, 0 ≤ p.1 ∧ p.1.toNat < L.length) (hS : ∀ k, k < M.length → k ∈ S) :
    B = Go.Ow.layM f L M := h.unique (Laid.layM f L M hn hr) hS (fun k hk => by simpa using hk)
theorem nodup_len : ∀ (k : Nat) (l : List Nat), l.Nodup → (∀ q ∈ l, q < k) → l.length ≤ k
  | 0, l, _, h => by
    cases l with
    | nil => simp
    | cons a l => have := h a (by simp); omega
  | k + 1, l, hn, h => by
    by_cases c : k ∈ l
    · have h1 := nodup_len k (l.erase k) (hn.erase k) (fun q hq => by
        have := (hn.mem_erase_iff).1 hq
        have := h q this.2
        omega)
      rw [List.length_erase_of_mem c] at h1
      omega
    · have := nodup_len k l hn (fun q hq => by
        have := h q hq
        have : q ≠ k := fun e => c (e ▸ hq)
        omega)
      omega
theorem seen_more {k n : Nat} {l : List Nat} (hn : l.Nodup) (h : ∀ q ∈ l, q < k) (hk : n < k) (hl : n ∉ l) : l.length < k := by
  have := nodup_len k (n :: l) (List.nodup_cons.2 ⟨hl, hn⟩) (fun q hq => by
    rcases List.mem_cons.1 hq with rfl | hq
    · exact hk
    · exact h q hq)
  rw [List.length_cons] at this
  omega

theorem lay_step {β : Type} {B : List β} {k : Int} {v : β} (h : 0 ≤ k ∧ k.toNat < B.length) : (chk (0 ≤ k ∧ k.toNat < B.length) <| setI B k v fun m => some m) = some (B.set k.toNat v) := by
  unfold chk setI; rw [if_pos h, if_pos h]

theorem R.max2b {p q : Operand} {a b : UInt8} {ts : Array TypeId} (h1 : evo l p = some (.int .u8 (a.toNat : Int))) (h2 : evo l q = some (.int .u8 (b.toNat : Int))) : Runs x (.call ⟨.builtin .max, #[p, q], ts⟩) ty l own H (.int .u8 ((maxB a b).toNat : Int)) := fun ρ w _ _ _ _ hρ hm => by
  have e3 : Array.map ρ #[p, q] = #[.int .u8 (a.toNat : Int), .int .u8 (b.toNat : Int)] := by simp [hρ _ _ h1, hρ _ _ h2]
  have e : ((maxB a b).toNat : Int) = if (b.toNat : Int) > (a.toNat : Int) then (b.toNat : Int) else (a.toNat : Int) := by
    unfold maxB
    by_cases h : a < b
    · rw [if_pos h, if_pos (by have := UInt8.lt_iff_toNat_lt.1 h; omega)]
    · rw [if_neg h, if_neg (by have := mt UInt8.lt_iff_toNat_lt.2 h; omega)]
  rw [e]
  simp only [execOp, resolve, e3, Sem.run_bind, Sem.run_pure, Result.andThen, invoke, builtin, Builtin.max_, List.foldlM_cons, List.foldlM_nil, Builtin.max2]

end Go.Ow
