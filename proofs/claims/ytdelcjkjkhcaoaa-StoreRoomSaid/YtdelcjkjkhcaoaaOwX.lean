/-
  What is proved here: arrays of a few elements, as structures; slices with three bounds; append to a slice that is full; over OwV.
-/
import Derived.Test.YtdelcjkjkhcaoaaOwV
import Derived.Test.YtdelcjkjkhcaoaaOwPA
import Derived.Lib.AppendZerosOnto
namespace Go.Ow
open Go.RowKit
set_option linter.unusedVariables false
set_option linter.unusedSimpArgs false

variable {x : Cx} {ops : Array Oper} {Q : Exit → Act → World → Prop} {rest : List Oper} {l : Slots} {own : List Own} {H HF : Heaplet}
variable {ty : TypeId} {d : Nat} {pos : String} {aft : Array Edge} {v : Value} {p q : Operand} {t u : TypeId}

/-! ### Arrays -/
/-- the address of an element of an array -/
theorem R.ixA {T e len : Nat} {g : Bool} {n b o : Nat} {kk : IntKind} (k : Nat) (hu : x.P.underlying T = some (.array len e)) (hs : shapeOf x.P e = some (g, n)) (h1 : evo l p = some (.pointer (some ⟨b, o, none⟩))) (h2 : evo l q = some (.int kk (k : Int))) (hk : Nat.blt k len = true) :
    Runs x (.indexAddr T p q) ty l own H (.pointer (some ⟨b, o + k * n, none⟩)) := by
  have hlt : k < len := by simpa using hk
  refine fun ρ w _ _ _ _ hρ hm => ?_
  simp only [execOp, hρ _ _ h1, hρ _ _ h2]
  refine run_v ?_
  have h0 : (0 : Int) ≤ (k : Int) ∧ (k : Int) < (len : Int) := ⟨by omega, by omega⟩
  simp only [Instr.indexAt, asIntOf, Instr.sureAddr, Sem.run_bind, Sem.run_pure, Result.andThen, run_underlying hu, if_pos h0, run_sizeOf hs, Int.toNat_natCast, add_lit]
/-- an element of an array that is a value -/
theorem R.idxA {α : Type} {T e len n : Nat} {kk : IntKind} {i : Int} {cs : Array Value} {enc : α → Value} {y : α} {L : List α} (hu : x.P.underlying T = some (.array len e)) (hs : shapeOf x.P e = some (false, n)) (hn : n = 1) (h1 : evo l p = some (.agg cs)) (h2 : evo l q = some (.int kk i))
    (hL : L.length = len) (hc : cs.toList = L.map enc) (hN : Nth L i y) : Runs x (.index T p q) ty l own H (enc y) := by
  obtain ⟨h0, hy⟩ := hN
  subst hn
  have hlt : i.toNat < len := by rw [← hL]; exact (List.getElem?_eq_some_iff.1 hy).1
  refine fun ρ w _ _ _ _ hρ hm => ?_
  simp only [execOp, hρ _ _ h1, hρ _ _ h2]
  refine run_v ?_
  have h0 : (0 : Int) ≤ i ∧ i < (len : Int) := ⟨by omega, by omega⟩
  have he : cs[i.toNat]? = some (enc y) := by rw [← Array.getElem?_toList, hc, List.getElem?_map, hy]; rfl
  simp only [Instr.index, asIntOf, Sem.run_bind, Sem.run_pure, Result.andThen, run_underlying hu, if_pos h0, run_sizeOf hs, Nat.mul_one, part, run_isAgg hs, Bool.false_eq_true, if_false, he]
/-- an element at a known place -/
theorem R.idxAk {T e len n : Nat} {kk : IntKind} (k : Nat) {cs : Array Value} (hu : x.P.underlying T = some (.array len e)) (hs : shapeOf x.P e = some (false, n)) (hn : n = 1) (h1 : evo l p = some (.agg cs)) (h2 : evo l q = some (.int kk (k : Int)))
    (hk : Nat.blt k len = true) (hv : cs[k]? = some v) : Runs x (.index T p q) ty l own H v := by
  have hlt : k < len := by simpa using hk
  subst hn
  refine fun ρ w _ _ _ _ hρ hm => ?_
  simp only [execOp, hρ _ _ h1, hρ _ _ h2]
  refine run_v ?_
  have h0 : (0 : Int) ≤ (k : Int) ∧ (k : Int) < (len : Int) := ⟨by omega, by omega⟩
  simp only [Instr.index, asIntOf, Sem.run_bind, Sem.run_pure, Result.andThen, run_underlying hu, if_pos h0, run_sizeOf hs, Nat.mul_one, Int.toNat_natCast, part, run_isAgg hs, Bool.false_eq_true, if_false, hv]
/-- building an array -/
def placesA (P : Program) (T n : Nat) : Option (List (Nat × Nat)) := match P.underlying T with
  | some (.array _ e) => (shapeOf P e).map (fun s => (List.range n).map (fun i => (i * s.2, s.2)))
  | _ => none
theorem fill_congr {f g : Nat → Option (Nat × Nat)} : ∀ {vs : List (Nat × Value)} {cells : Array Value}, (∀ p ∈ vs, f p.1 = g p.1) → Instr.fill f cells vs = Instr.fill g cells vs
  | [], _, _ => rfl
  | (i, v) :: r, cells, h => by
    have h0 : f i = g i := h (i, v) (by simp)
    simp only [Instr.fill, h0]
    cases hg : g i with
    | none => rfl
    | some s =>
      obtain ⟨off, size⟩ := s
      simp only []
      split
      · rfl
      · exact fill_congr (fun p hp => h p (by simp [hp]))
theorem R.bldA {T n : Nat} {parts : Array (Nat × Operand)} {vs : List (Nat × Value)} {z : Value} {places : List (Nat × Nat)} {cells : Array Value} (hz : zeroOf x.P T = some z) (hp : placesA x.P T n = some places)
    (hv : parts.toList.mapM (fun p => (evo l p.2).map (fun u => (p.1, u))) = some vs) (hlt : vs.all (fun p => Nat.blt p.1 n) = true) (hf : vs.all (fits places z.cells.size) = true) (hc : (setAll places z.cells.toList vs).toArray = cells) :
    Runs x (.build T parts) ty l own H (.agg cells) := by
  subst hc
  refine fun ρ w _ _ _ _ hρ hm => ?_
  simp only [execOp]
  have key : ∀ (ps : List (Nat × Operand)) (us : List (Nat × Value)), ps.mapM (fun p => (evo l p.2).map (fun u => (p.1, u))) = some us → ps.map (fun p => (p.1, ρ p.2)) = us := by
    intro ps
    induction ps with
    | nil => intro us e; simp at e; simp [e]
    | cons p ps ih =>
      intro us e
      simp only [List.mapM_cons, Option.bind_eq_bind, Option.bind_eq_some_iff, Option.map_eq_some_iff] at e
      obtain ⟨b, ⟨u, hu, rfl⟩, cs, hcs, e⟩ := e
      simp at e; subst e
      simp [ih cs hcs, hρ _ _ hu]
  have hk := key _ _ hv
  refine run_v ?_
  have e : parts.map (fun p => (p.1, ρ p.2)) = vs.toArray := by rw [← Array.toList_inj]; simpa using hk
  have hfill := fill_one _ _ _ hf
  unfold placesA at hp
  split at hp
  · rename_i ln e' hu
    cases hse : shapeOf x.P e' with
    | none => simp [hse] at hp
    | some s =>
      simp [hse] at hp
      have hfc : Instr.fill (fun i => some (i * s.2, s.2)) z.cells vs = some (setAll places z.cells.toList vs).toArray := by
        rw [← hfill]
        refine fill_congr (fun p hp' => ?_)
        have := List.all_eq_true.1 hlt p hp'
        have hlt' : p.1 < n := by simpa using this
        rw [← hp]; simp [hlt']
      have : (Instr.build T vs.toArray).run x.P w = .ok (.agg (setAll places z.cells.toList vs).toArray) w := by
        unfold Instr.build
        simp only [Sem.run_bind, run_zeroValue hz, Result.andThen, run_underlying hu, run_sizeOf (g := s.1) (n := s.2) hse, hfc, Sem.run_pure]
      first
        | exact (by simpa [e] using this)
        | (rw [show (Array.map _ parts) = vs.toArray from e]; exact this)
  · cases hp

/-! ### Slices with three bounds -/
theorem IsSlice.cutv3 {α : Type} {R : Rep α} {size : Nat} {v : Value} {m m' : List α} {a b c : Int} {HF : Heaplet} (h : IsSlice HF R size v m) (hm : m' = cut m a b) (hab : 0 ≤ a ∧ a ≤ b ∧ b ≤ c ∧ c ≤ m.length) :
    ∃ v' cap, (∃ ao, v = .slice ao m.length cap ∧ c ≤ cap ∧ v' = sliced ao a.toNat b.toNat c.toNat size) ∧ IsSlice HF R size v' m' ∧ ∃ ao', v' = .slice ao' m'.length (c.toNat - a.toNat) := by
  subst hm
  obtain ⟨ao, cap, rfl, e1, r⟩ := h
  have hs := IsSlice.sub (ao := ao) (n := m.length) (cap := cap) ⟨ao, cap, rfl, e1, r⟩ a.toNat b.toNat c.toNat (by omega) (by omega) (by omega) (by omega)
  refine ⟨_, cap, ⟨ao, rfl, by omega, rfl⟩, by simpa [cut] using hs, ?_⟩
  have hl : (cut m a b).length = b.toNat - a.toNat := by have := cut_length (l := m) (a := a) (b := b) (by omega) (by omega) (by omega); omega
  unfold sliced
  exact ⟨_, by rw [hl]⟩
/-- a slice that is full: its room is its length -/
theorem IsSlice.cutc {α : Type} {R : Rep α} {size : Nat} {v : Value} {m m' : List α} {a b : Int} {HF : Heaplet} (h : IsSlice HF R size v m) (hm : m' = cut m a b) (hab : 0 ≤ a ∧ a ≤ b ∧ b ≤ m.length) :
    ∃ v' cap ao', (∃ ao, v = .slice ao m.length cap ∧ b ≤ cap ∧ v' = sliced ao a.toNat b.toNat b.toNat size) ∧ v' = .slice ao' m'.length m'.length ∧ IsSlice HF R size v' m' := by
  obtain ⟨v', cap, ⟨ao, e, hc, e'⟩, hs, ao', e2⟩ := h.cutv3 (c := b) hm ⟨hab.1, hab.2.1, Int.le_refl _, hab.2.2⟩
  refine ⟨v', cap, ao', ⟨ao, e, hc, e'⟩, ?_, hs⟩
  have hl : m'.length = b.toNat - a.toNat := by subst hm; have := cut_length (l := m) (a := a) (b := b) (by omega) (by omega) (by omega); omega
  rw [e2, hl]

/-! ### The lesser and the greater of two -/
theorem R.min2 {m n : Int} {ts : Array TypeId} (h1 : evo l p = some (.int .i64 m)) (h2 : evo l q = some (.int .i64 n)) : Runs x (.call ⟨.builtin .min, #[p, q], ts⟩) ty l own H (.int .i64 (min m n)) := fun ρ w _ _ _ _ hρ hm => by
  have e3 : Array.map ρ #[p, q] = #[.int .i64 m, .int .i64 n] := by simp [hρ _ _ h1, hρ _ _ h2]
  have e : (if n < m then n else m) = min m n := by omega
  simp only [execOp, resolve, e3, Sem.run_bind, Sem.run_pure, Result.andThen, invoke, builtin, Builtin.min_, List.foldlM_cons, List.foldlM_nil, Builtin.min2, e]
theorem R.max2 {m n : Int} {ts : Array TypeId} (h1 : evo l p = some (.int .i64 m)) (h2 : evo l q = some (.int .i64 n)) : Runs x (.call ⟨.builtin .max, #[p, q], ts⟩) ty l own H (.int .i64 (max m n)) := fun ρ w _ _ _ _ hρ hm => by
  have e3 : Array.map ρ #[p, q] = #[.int .i64 m, .int .i64 n] := by simp [hρ _ _ h1, hρ _ _ h2]
  have e : (if n > m then n else m) = max m n := by omega
  have e' : (if m < n then n else m) = max m n := by omega
  simp only [execOp, resolve, e3, Sem.run_bind, Sem.run_pure, Result.andThen, invoke, builtin, Builtin.max_, List.foldlM_cons, List.foldlM_nil, Builtin.max2]
  first | rw [e'] | rw [e]

/-! ### Lending: what is owned may be looked at by a callee that answers a plain value -/
theorem Lent.row' {α : Type} {R : Rep α} {H0 H2 : Heaplet} {B : Nat} {K : Own} {E : TypeId} {size : Nat} {v : Value} {ls : List α} (i : Nat) (hl : Lent own H2) (hR : R.Mono) (hle : Hle H0 H2) (hi : own[i]? = some K) (hr : RowOf H0 R B E size v ls K) : IsSlice H2 R size v ls :=
  Lent.row hl hR hle hi hr
theorem JL.callL2 {c : Operand} {as : Array Operand} {ts : Array TypeId} {f : FuncId} {vs : List Value} {v : Value}
    (he : Enters x.P f) (hc : evo l c = some (.func (.func f) #[] #[])) (ha : as.toList.mapM (evo l) = some vs)
    (C : ∀ H2, Hle H H2 → Lent own H2 → Does x.P f vs.toArray [] H2 (fun u K H' => u = v)) (hd : Nat.blt d x.n = true) (h : JL x ops Q rest ((d, v) :: l) own H) :
    JL x ops Q (⟨some d, .call ⟨.value c, as, ts⟩, ty, pos, aft, none⟩ :: rest) l own H := fun a w hh => by
  simp only [wpLs, wanted_none, if_true]
  refine ⟨fun _ _ => trivial, ?_⟩
  have hrun : (execOp a.eval ⟨some d, .call ⟨.value c, as, ts⟩, ty, pos, aft, none⟩).run x.P w = .ok (.enter f vs.toArray) w := by
    have e1 := eval_of hh hc
    have e2 := mapM_eval (fun o u e => eval_of hh e) ha
    simp only [execOp, resolve, e1, e2, Deferred.ofValue, Sem.run_bind, Sem.run_pure, Result.andThen, invoke]
    simpa using he _ _
  rw [semAt_of rfl, hrun]
  have hle := lend_le hh.mem.ok
  show (_ → _) ∧ CallsIn _ _ _ _ _ _ _
  refine ⟨fun e => by simp [Fw] at e, ?_⟩
  refine CallsIn.mono (show CallsIn (Fw x.r) (0 - 1) x.P f _ w _ from C _ hle (lend_lent hh.mem.ok) w (lend_agrees hh.mem.agr hh.mem.ok) ⟨fun p hp => by simp at hp, by simp [ids], fun p hp => by simp at hp⟩) ?_
  rintro e w' ⟨v', K', H', rfl, rfl, hm⟩
  have hm' : Mem w H (ids []) [] H w' := ⟨hm.agr.le (hle.trans hm.le), ⟨fun p hp => by simp at hp, by simp [ids], fun p hp => by simp at hp⟩, hm.kept, fun p hp => by simp at hp, Hle.refl _, fun _ _ _ => rfl, Mem.soft0⟩
  refine h _ _ (Holds.put (x := x) (l := l) ⟨hh.size, hh.ds, hh.slots, ?_⟩ hd _)
  simpa using hh.mem.go (K := []) (rst := own.flatten) (by simp) hm'

/-! ### Append to a slice that is full -/
theorem append_full {P : Program} {w : World} {H : Heaplet} {t tx ty E : TypeId} {z : Value} {size bytes : Nat} (hu : P.underlying t = some (.slice E)) (he : eInfo P E = some (z, size, bytes))
    {n m : Nat} {base : Option Addr} {y : Value} {cells news : List Value} (ha : Agrees H w) (h0 : cells.length = n * size) (hold : (Builtin.firstCells size n (.slice base n n)).run P w.drew = .ok cells.toArray w.drew) (hs : Src P size tx y m news w) (hm : 0 < m)
    (h63 : n + m ≤ maxLen) (hb : (n + m) * bytes ≤ 140737488355328) {B : Nat} (hB : B ≤ w.heap.size) :
    ∃ v' K' w', (Builtin.append_ #[t, tx] ty #[.slice base n n, y]).run P w = .ok v' w' ∧ Row B E size v' (cells ++ news) (n + m) K' ∧ Mem w H [] K' H w' := by
  obtain ⟨i, hi, hz, hsz, hby, hzs, hpos⟩ := eInfo_parts he
  subst hsz; subst hby
  have hlen : (cells ++ news).length = (n + m) * i.size := by rw [List.length_append, h0, hs.newsLen, Nat.add_mul]
  have hg : n < n + m := by omega
  have hsmall : n + m ≤ 9223372036854775807 := by simp only [maxLen] at h63; omega
  have hrun := run_append_grow_src (P := P) w t tx ty E i z hu hi hz base n n cells hold y m news hs hg (by omega) (growslice_fits hg hb)
  have hge := grownCap_ge w (n + m) n E
  have hcm : grownCap w (n + m) n E ≤ maxLen := grownCap_le_maxLen w (n + m) n E h63
  obtain ⟨C, hC⟩ : ∃ C, C = (cells ++ news).toArray ++ Builtin.zeroCells z.cells (grownCap w (n + m) n E - (n + m)) := ⟨_, rfl⟩
  rw [← hC] at hrun
  refine ⟨_, [(w.heap.size, .cells C E (0, 0))], _, hrun, ⟨hlen, .inr ⟨w.heap.size, _, C, rfl, rfl, hB, hge, hcm, ?_, ?_⟩⟩, ?_⟩
  · rw [hC]; simp only [Array.size_append, List.size_toArray, size_zeroCells, hzs, hlen, ← Nat.add_mul]
    refine Nat.mul_le_mul_right _ ?_; omega
  · rw [hC]; simp only [Array.toList_append, List.append_assoc, List.toList_toArray]
    rw [← List.append_assoc, ← hlen]; exact List.take_left
  · have h := Mem.alloc (w := w.drew) (H := H) (fun b o v e => ha b o v e) (.cells C E (0, 0))
    exact ⟨h.agr, h.ok, ⟨h.kept.os, h.kept.tape, h.kept.output, h.kept.size, Nat.le_trans (Nat.le_succ _) h.kept.drawn, h.kept.block⟩, h.fresh, h.le, h.grow, h.soft⟩
/-- 'ms' is not empty: the row is new -/
theorem JL.appC {α : Type} {R : Rep α} {tx E : TypeId} {z y : Value} {size bytes n : Nat} {ao : Option Addr} {ls ms rs : List α} {H1 : Heaplet} (hu : x.P.underlying t = some (.slice E)) (he : eInfo x.P E = some (z, size, bytes))
    (h1 : evo l p = some (.slice ao n n)) (hR1 : R.One) (hle : Hle H1 H) (hs : IsSlice H1 R size (.slice ao n n) ls) (hF : ∀ cs y, R H1 cs y → R HF cs y) (h2 : evo l q = some y) (hsrc : SrcF x H HF own R size tx y ms)
    (hm : ms ≠ []) (hrs : rs = ls ++ ms) (hl : ls.length + ms.length ≤ LIM) (hb : Nat.ble bytes 128 = true) (hd : Nat.blt d x.n = true)
    (h : ∀ v' K', RowOf HF R x.w0.heap.size E size v' rs K' → JL x ops Q rest ((d, v') :: l) (K' :: own) H) :
    JL x ops Q (⟨some d, .call ⟨.builtin .append, #[p, q], #[t, tx]⟩, ty, pos, aft, none⟩ :: rest) l own H := fun a w hh => by
  subst hrs
  simp only [wpLs, wanted_none, if_true]
  refine ⟨fun _ _ => trivial, ?_⟩
  obtain ⟨cells, hf, ao', cap', ev, hc⟩ := hs.cells
  simp only [Value.slice.injEq] at ev
  obtain ⟨rfl, rfl, -⟩ := ev
  obtain ⟨news, hfn, honen, hsr⟩ := hsrc
  have hlen : cells.length = ls.length * size := hf.length
  have hold : (Builtin.firstCells size ls.length (.slice ao ls.length ls.length)).run x.P w.drew = .ok cells.toArray w.drew := by
    rcases hc with rfl | ⟨b, o, rfl, hc⟩
    · simp only [Flat] at hf; subst hf
      cases ao with
      | none => simp [Builtin.firstCells, go_sem]
      | some a => exact run_firstCells_some (P := x.P) w.drew size 0 a 0 0 [] (by simp) (fun j u h => by simp at h)
    · exact run_firstCells_some (P := x.P) w.drew size ls.length ⟨b, o, none⟩ ls.length ls.length cells hlen (fun j u h => by
        rw [add_lit]; exact hh.mem.agr _ _ _ (hle _ _ _ (hc j u h)))
  have hmp : 0 < ms.length := List.length_pos_iff.2 hm
  obtain ⟨v', K', w', hrun, hrow', hmem⟩ := append_full (ty := ty) hu he hh.mem.agr hlen hold (hsr w hh.mem) hmp (lim_max hl) (lim_bytes hl hb) hh.mem.kept.size
  have hrun' : (execOp a.eval ⟨some d, .call ⟨.builtin .append, #[p, q], #[t, tx]⟩, ty, pos, aft, none⟩).run x.P w = .ok (.value v') w' := by
    have e1 := eval_of hh h1
    have e2 := eval_of hh h2
    have : (execOp a.eval ⟨some d, .call ⟨.builtin .append, #[p, q], #[t, tx]⟩, ty, pos, aft, none⟩).run x.P w = ((Builtin.append_ #[t, tx] ty #[.slice ao ls.length ls.length, y]).run x.P w).andThen (fun r w'' => .ok (.value r) w'') := by
      generalize a.eval = ρ at e1 e2
      have e3 : Array.map ρ #[p, q] = #[.slice ao ls.length ls.length, y] := by simp [e1, e2]
      simp only [execOp, resolve, e3, Sem.run_bind, Sem.run_pure, Result.andThen, invoke, builtin]
    rw [this, hrun]; rfl
  rw [semAt_of rfl, hrun']
  refine h v' K' ⟨cells ++ news, by simpa using hrow', Flat.append hfn (hf.conv hF), fun u hu => (List.mem_append.1 hu).elim (hf.one' hR1 u) (honen u)⟩ _ _ (Holds.put (x := x) (l := l) ⟨hh.size, hh.ds, hh.slots, ?_⟩ hd v')
  simpa using hh.mem.go0 (K' := [K']) (by simpa using hmem)

/-! ### Append of zeros to an own row -/
theorem append_zrow {P : Program} {w : World} {H : Heaplet} {t tn ty E : TypeId} {kn : IntKind} {z : Value} {size bytes : Nat} (hu : P.underlying t = some (.slice E)) (hun : P.underlying tn = some (.int kn)) (he : eInfo P E = some (z, size, bytes))
    {B n N : Nat} {v : Value} {cells : List Value} {K : Own} (ha : Agrees H w) (hk : OwnOk H K w) (hr : Row B E size v cells n K) (hone : oneCells z.cells.toList)
    (hl : n + N ≤ LIM) (hbb : Nat.ble bytes 128 = true) (hB : B ≤ w.heap.size) :
    ∃ v' K' w', (Builtin.append_ #[t, tn] ty #[v, .int .i64 (N : Int)]).run P w = .ok v' w' ∧ Row B E size v' (cells ++ (List.replicate N z.cells.toList).flatten) (n + N) K' ∧ Mem w H (ids K) K' H w' := by
  obtain ⟨i, hi, hz, hsz, hby, hzs, hpos⟩ := eInfo_parts he
  subst hsz; subst hby
  obtain ⟨h0, h1⟩ := hr
  have hnl : ((List.replicate N z.cells.toList).flatten).length = N * i.size := by simp [hzs]
  have hlen : (cells ++ (List.replicate N z.cells.toList).flatten).length = (n + N) * i.size := by rw [List.length_append, h0, hnl, Nat.add_mul]
  have hw : IntKind.i64.wrap (N : Int) = N := wi64 (by omega) (by unfold LIM at hl; omega)
  have hneg : ¬ ((N : Int) < 0) := by omega
  have hlb := lim_bytes hl hbb
  have hlb2 : N * i.bytes ≤ 140737488355328 := Nat.le_trans (Nat.mul_le_mul_right _ (by omega)) hlb
  have h48i : ¬ (281474976710656 < (N : Int) * (i.bytes : Int)) := by rw [← Int.natCast_mul]; omega
  by_cases hm0 : N = 0
  · subst hm0
    have hw0 : IntKind.i64.wrap 0 = 0 := by decide
    refine ⟨v, K, w, ?_, ⟨by simpa using hlen, by simpa using h1⟩, Mem.same ha hk⟩
    rcases h1 with ⟨rfl, rfl, rfl⟩ | ⟨g, cap, cur, rfl, rfl, e3, e4, e5, e6, e7⟩
    · simp [Builtin.append_, run_underlying hu, run_underlying hun, sizeOf, typeInfo, hi, asInt, asIntOf, hw0, go_sem]
    · have hst : (storeCells ((⟨g, 0, none⟩ : Addr).add (n * i.size)) []).run P w = .ok () w := rfl
      simp [Builtin.append_, run_underlying hu, run_underlying hun, sizeOf, typeInfo, hi, asInt, asIntOf, hw0, e4, hst, go_sem]
  · have hzc : (Builtin.zeroCells z.cells N).toList = (List.replicate N z.cells.toList).flatten := by
      have := madeCells_flat z.cells N (by rw [hzs]; exact hpos)
      rw [← this]; simp [Builtin.zeroCells, madeCells]
    have hns : ¬ (N * i.size = 0) := Nat.mul_ne_zero hm0 (by omega)
    have grows : ∀ (base : Option Addr) (sCap : Nat), (Builtin.firstCells i.size n (.slice base n sCap)).run P w.drew = .ok cells.toArray w.drew → sCap < n + N →
        ∃ v' K' w', (Builtin.append_ #[t, tn] ty #[.slice base n sCap, .int .i64 (N : Int)]).run P w = .ok v' w' ∧ Row B E i.size v' (cells ++ (List.replicate N z.cells.toList).flatten) (n + N) K' ∧ Mem w H [] K' H w' := by
      intro base sCap hold hg
      have hrun := Lib.run_append_grow_zeros (P := P) w t tn ty E i z .i64 kn hu hun hi hz base n sCap cells hold N (by omega) hpos hg (by unfold LIM at hl; omega) (by omega) (growslice_fits hg hlb)
      have hge := grownCap_ge w (n + N) sCap E
      have hcm : grownCap w (n + N) sCap E ≤ maxLen := grownCap_le_maxLen w (n + N) sCap E (lim_max hl)
      obtain ⟨C, hC⟩ : ∃ C, C = cells.toArray ++ Builtin.zeroCells z.cells N ++ Builtin.zeroCells z.cells (grownCap w (n + N) sCap E - (n + N)) := ⟨_, rfl⟩
      rw [← hC] at hrun
      refine ⟨_, [(w.heap.size, .cells C E (0, 0))], _, hrun, ⟨hlen, .inr ⟨w.heap.size, _, C, rfl, rfl, hB, hge, hcm, ?_, ?_⟩⟩, ?_⟩
      · rw [hC]; simp only [Array.size_append, List.size_toArray, size_zeroCells, hzs, h0, ← Nat.add_mul]
        refine Nat.mul_le_mul_right _ ?_; omega
      · rw [hC]; simp only [Array.toList_append, List.append_assoc, List.toList_toArray, hzc]
        rw [← List.append_assoc, ← hlen]; exact List.take_left
      · have h := Mem.alloc (w := w.drew) (H := H) (fun b o v e => ha b o v e) (.cells C E (0, 0))
        exact ⟨h.agr, h.ok, ⟨h.kept.os, h.kept.tape, h.kept.output, h.kept.size, Nat.le_trans (Nat.le_succ _) h.kept.drawn, h.kept.block⟩, h.fresh, h.le, h.grow, h.soft⟩
    rcases h1 with ⟨rfl, rfl, rfl⟩ | ⟨g, cap, cur, rfl, rfl, e3, e4, e5, e6, e7⟩
    · have hc : cells = [] := List.length_eq_zero_iff.1 (by rw [h0]; simp)
      subst hc
      obtain ⟨v', K', w', r1, r2, r3⟩ := grows none 0 (by simp [Builtin.firstCells, go_sem]) (by omega)
      exact ⟨v', K', w', r1, r2, by simpa [ids] using r3⟩
    · have hg := hk.here (g, .cells cur E (0, 0)) (by simp)
      have hgd : ∀ j u, cells[j]? = some u → w.cell? ((⟨g, 0, none⟩ : Addr).add j) = some u := fun j u hj => by
        rw [add_lit, Nat.zero_add, cell_of_row w g j cur E (0, 0) hg]
        rw [← e7, List.getElem?_take] at hj
        split at hj
        · simpa using hj
        · cases hj
      by_cases hroom : n + N ≤ cap
      · have hfit : n * i.size + ((List.replicate N z.cells.toList).flatten).length ≤ cur.size := by
          rw [hnl, ← Nat.add_mul]; exact Nat.le_trans (Nat.mul_le_mul_right _ hroom) e6
        have hone' : ∀ u ∈ (List.replicate N z.cells.toList).flatten, u.oneCell' = true := fun u hu => by
          obtain ⟨s, hs, hu⟩ := List.mem_flatten.1 hu
          rw [(List.mem_replicate.1 hs).2] at hu; exact hone u hu
        have hst := run_storeCells_at P g (n * i.size) E (List.replicate N z.cells.toList).flatten 0 cur w hg (by simpa using hfit) hone'
        simp only [Nat.add_zero] at hst
        have hst' : (storeCells (⟨g, n * i.size, none⟩ : Addr) (Builtin.zeroCells z.cells N).toList).run P w = .ok () (w.setRow g (cur.toList.take (n * i.size) ++ (List.replicate N z.cells.toList).flatten ++ cur.toList.drop (n * i.size + ((List.replicate N z.cells.toList).flatten).length)).toArray) := by
          rw [hzc]; exact hst
        obtain ⟨W2, hW2⟩ : ∃ W2, W2 = w.setRow g (cur.toList.take (n * i.size) ++ (List.replicate N z.cells.toList).flatten ++ cur.toList.drop (n * i.size + ((List.replicate N z.cells.toList).flatten).length)).toArray := ⟨_, rfl⟩
        rw [← hW2] at hst'
        have hrun : (Builtin.append_ #[t, tn] ty #[.slice (some ⟨g, 0, none⟩) n cap, .int .i64 (N : Int)]).run P w = .ok (.slice (some ⟨g, 0, none⟩) (n + N) cap) W2 := by
          simp [Builtin.append_, run_underlying hu, run_underlying hun, sizeOf, typeInfo, zeroValue, hi, hz, asInt, asIntOf, hw, hneg, h48i, hroom, hns, go_sem]
          show ((storeCells (⟨g, n * i.size, none⟩ : Addr) (Builtin.zeroCells z.cells N).toList).run P w).andThen _ = _
          rw [hst']
          rfl
        rw [hW2] at hrun
        obtain ⟨C, hC⟩ : ∃ C, C = (cur.toList.take (n * i.size) ++ (List.replicate N z.cells.toList).flatten ++ cur.toList.drop (n * i.size + ((List.replicate N z.cells.toList).flatten).length)).toArray := ⟨_, rfl⟩
        rw [← hC] at hrun
        refine ⟨_, [(g, .cells C E (0, 0))], _, hrun, ⟨hlen, .inr ⟨g, cap, C, rfl, rfl, e3, hroom, e5, ?_, ?_⟩⟩, by simpa [ids] using Mem.setRow ha hg (fun o => hk.apart (g, .cells cur E (0, 0)) (by simp) o) _⟩
        · rw [hC]; simp only [List.size_toArray, List.length_append, List.length_take, List.length_drop, Array.length_toList]; omega
        · rw [hC, e7, ← hlen]; exact List.take_left
      · have hf := run_firstCells_some (P := P) w.drew i.size n ⟨g, 0, none⟩ n cap cells h0 (by simpa using hgd)
        obtain ⟨v', K', w', r1, r2, r3⟩ := grows (some ⟨g, 0, none⟩) cap hf (by omega)
        refine ⟨v', K', w', r1, r2, ⟨r3.agr, r3.ok, ⟨r3.kept.os, r3.kept.tape, r3.kept.output, r3.kept.size, r3.kept.drawn, fun k hk' _ => r3.kept.block k hk' (by simp)⟩, fun p hp => .inr ((r3.fresh p hp).resolve_left (by simp)), r3.le, r3.grow, r3.soft⟩⟩
theorem JL.appZR {α : Type} {R : Rep α} (i : Nat) {tn E : TypeId} {z : Value} {size bytes B : Nat} {kn : IntKind} {n : Int} {y : α} {ls rs zs : List α} {K : Own} (hu : x.P.underlying t = some (.slice E)) (hun : x.P.underlying tn = some (.int kn)) (he : eInfo x.P E = some (z, size, bytes))
    (h1 : evo l p = some v) (hi : own[i]? = some K) (hr : RowOf HF R B E size v ls K) (h2 : evo l q = some (.int .i64 n)) (hR : ∀ H, R H z.cells.toList y) (hR1 : R.One) (hzs : zs = List.replicate n.toNat y) (hn : 0 ≤ n ∧ n.toNat ≤ LIM)
    (hrs : rs = ls ++ zs) (hl : ls.length + zs.length ≤ LIM) (hb : Nat.ble bytes 128 = true) (hB : B ≤ x.w0.heap.size) (hd : Nat.blt d x.n = true)
    (h : ∀ v' K', RowOf HF R B E size v' rs K' → JL x ops Q rest ((d, v') :: l) (own.set i K') H) :
    JL x ops Q (⟨some d, .call ⟨.builtin .append, #[p, q], #[t, tn]⟩, ty, pos, aft, none⟩ :: rest) l own H := fun a w hh => by
  subst hrs; subst hzs
  obtain ⟨N, rfl⟩ := Int.eq_ofNat_of_zero_le hn.1
  simp only [Int.toNat_natCast, List.length_replicate] at h hl
  simp only [wpLs, wanted_none, if_true]
  refine ⟨fun _ _ => trivial, ?_⟩
  obtain ⟨cells, hrow, hf, hone⟩ := hr
  obtain ⟨v', K', w', hrun, hrow', hm⟩ := append_zrow (ty := ty) hu hun he hh.mem.agr (own_here hh.mem hi) hrow (hR1 _ _ _ (hR HF)) hl hb (Nat.le_trans hB hh.mem.kept.size)
  have hrun' : (execOp a.eval ⟨some d, .call ⟨.builtin .append, #[p, q], #[t, tn]⟩, ty, pos, aft, none⟩).run x.P w = .ok (.value v') w' := by
    have e1 := eval_of hh h1
    have e2 := eval_of hh h2
    have : (execOp a.eval ⟨some d, .call ⟨.builtin .append, #[p, q], #[t, tn]⟩, ty, pos, aft, none⟩).run x.P w = ((Builtin.append_ #[t, tn] ty #[v, .int .i64 (N : Int)]).run x.P w).andThen (fun r w'' => .ok (.value r) w'') := by
      generalize a.eval = ρ at e1 e2
      have e3 : Array.map ρ #[p, q] = #[v, .int .i64 (N : Int)] := by simp [e1, e2]
      simp only [execOp, resolve, e3, Sem.run_bind, Sem.run_pure, Result.andThen, invoke, builtin]
    rw [this, hrun]; rfl
  rw [semAt_of rfl, hrun']
  have hzl : z.cells.toList.length = size := by
    obtain ⟨i, hi, hz, hsz, hby, hzs, hpos⟩ := eInfo_parts he
    simpa using hzs
  have hfl := flat_replicate (R := R) (H := HF) (size := size) (hR HF) hzl N
  exact h v' K' ⟨cells ++ (List.replicate N z.cells.toList).flatten, by simpa using hrow', Flat.append hfl hf, fun u hu => (List.mem_append.1 hu).elim (hone u) (hfl.one' hR1 u)⟩ _ _
    (Holds.put (x := x) (l := l) ⟨hh.size, hh.ds, hh.slots, hh.mem.go1 hi hm⟩ hd v')

/-! ### Building a structure out of parts, some of them structures -/
def putP (l : List Value) (o : Nat) (cs : List Value) : List Value := l.take o ++ cs ++ l.drop (o + cs.length)
def setP (places : List (Nat × Nat)) : List Value → List (Nat × Value) → List Value
  | l, [] => l
  | l, (i, v) :: r => setP places (match places[i]? with | some p => putP l p.1 v.cells.toList | none => l) r
def fitsP (places : List (Nat × Nat)) (n : Nat) (p : Nat × Value) : Bool := match places[p.1]? with | some q => Nat.beq q.2 p.2.cells.toList.length && Nat.ble (q.1 + p.2.cells.toList.length) n | none => false
theorem fold_put (off : Nat) : ∀ (cs : List Value) (k : Nat) (a : Array Value), off + k + cs.length ≤ a.size →
    (cs.zipIdx k).foldl (fun a p => a.setIfInBounds (off + p.2) p.1) a = (putP a.toList (off + k) cs).toArray
  | [], k, a, _ => by simp [putP]
  | c :: cs, k, a, h => by
    simp only [List.length_cons] at h
    rw [List.zipIdx_cons, List.foldl_cons, fold_put off cs (k + 1) _ (by simp; omega)]
    apply Array.toList_inj.1
    have hlt : off + k < a.toList.length := by simp; omega
    simp only [putP, Array.toList_setIfInBounds, List.toList_toArray, List.length_cons]
    rw [List.set_eq_take_append_cons_drop, if_pos hlt]
    have hl : (a.toList.take (off + k)).length = off + k := by rw [List.length_take]; omega
    rw [show off + (k + 1) = (off + k) + 1 by omega]
    have e1 : (a.toList.take (off + k) ++ c :: a.toList.drop (off + k + 1)).take (off + k + 1) = a.toList.take (off + k) ++ [c] := by
      rw [List.take_append, hl, List.take_of_length_le (by omega)]; simp
    have e2 : (a.toList.take (off + k) ++ c :: a.toList.drop (off + k + 1)).drop (off + k + 1 + cs.length) = a.toList.drop (off + k + (cs.length + 1)) := by
      rw [List.drop_append, hl, List.drop_eq_nil_of_le (by omega), List.nil_append, show off + k + 1 + cs.length - (off + k) = cs.length + 1 by omega, List.drop_succ_cons, List.drop_drop]; congr 1; omega
    rw [e1, e2]; simp
theorem putP_length {l : List Value} {o : Nat} {cs : List Value} (h : o + cs.length ≤ l.length) : (putP l o cs).length = l.length := by
  simp only [putP, List.length_append, List.length_take, List.length_drop]; omega
theorem fill_putP (places : List (Nat × Nat)) : ∀ (vs : List (Nat × Value)) (cells : Array Value), vs.all (fitsP places cells.size) = true → Instr.fill (places.toArray[·]?) cells vs = some (setP places cells.toList vs).toArray
  | [], cells, _ => by simp [Instr.fill, setP]
  | (i, v) :: r, cells, h => by
    simp only [List.all_cons, Bool.and_eq_true, fitsP] at h
    obtain ⟨h1, h3⟩ := h
    cases hp : places[i]? with
    | none => rw [hp] at h1; cases h1
    | some q =>
      obtain ⟨off, size⟩ := q
      rw [hp] at h1
      simp only [Bool.and_eq_true] at h1
      have e1 : size = v.cells.toList.length := Nat.eq_of_beq_eq_true h1.1
      have e2 : off + v.cells.toList.length ≤ cells.size := Nat.le_of_ble_eq_true h1.2
      have e3 : ¬ (v.cells.size ≠ size ∨ off + v.cells.size > cells.size) := by simp only [Array.length_toList] at e1 e2; omega
      have e4 : v.cells.zipIdx.foldl (fun cs (x : Value × Nat) => cs.setIfInBounds (off + x.2) x.1) cells = (putP cells.toList off v.cells.toList).toArray := by
        rw [← Array.foldl_toList, Array.toList_zipIdx]
        exact fold_put off v.cells.toList 0 cells (by simpa using e2)
      have hsz : (putP cells.toList off v.cells.toList).toArray.size = cells.size := by
        rw [List.size_toArray, putP_length (by simpa using e2)]; simp
      have ih := fill_putP places r (putP cells.toList off v.cells.toList).toArray (by rw [hsz]; exact h3)
      have hp' : places.toArray[i]? = some (off, size) := by simpa using hp
      simp only [Instr.fill, hp', setP, hp]
      simp only [decide_eq_true_eq, Bool.or_eq_true, ne_eq, gt_iff_lt] at e3 ⊢
      rw [if_neg (by simpa using e3)]
      rw [show (v.cells.zipIdx.foldl (fun cs x => match x with | (c, j) => cs.setIfInBounds (off + j) c) cells) = (putP cells.toList off v.cells.toList).toArray from e4]
      exact ih
theorem R.bldP {T : TypeId} {parts : Array (Nat × Operand)} {vs : List (Nat × Value)} {z : Value} {places : List (Nat × Nat)} {cs : List Value} (hz : zeroOf x.P T = some z) (hp : placesOf x.P T = some places)
    (hv : parts.toList.mapM (fun p => (evo l p.2).map (fun u => (p.1, u))) = some vs) (hf : vs.all (fitsP places z.cells.toList.length) = true) (hc : setP places z.cells.toList vs = cs) : Runs x (.build T parts) ty l own H (.agg cs.toArray) := by
  subst hc
  exact R.bld hz hp hv (fill_putP places vs z.cells (by simpa using hf))

/-! ### Slices of which it is known whether they were never touched -/
def OSl {α : Type} (H : Heaplet) (R : Rep α) (size : Nat) (v : Value) : Option (List α) → Prop
  | none => v = .slice none 0 0
  | some m => IsSlice H R size v m
def ROSl {α : Type} (R : Rep α) (size : Nat) : Rep (Option (List α)) := fun H cs y => ∃ v, cs = [v] ∧ OSl H R size v y
theorem OSl.mono {α : Type} {R : Rep α} (hR : R.Mono) {size : Nat} {v : Value} {y : Option (List α)} {H' : Heaplet} (h : OSl H R size v y) (hle : Hle H H') : OSl H' R size v y := by
  cases y with
  | none => exact h
  | some m => exact IsSlice.mono hR hle h
theorem ROSl.mono {α : Type} {R : Rep α} {size : Nat} (hR : R.Mono) : (ROSl R size).Mono := fun _ _ _ _ hle ⟨v, e, h⟩ => ⟨v, e, h.mono hR hle⟩
theorem OSl.one1 {α : Type} {R : Rep α} {size : Nat} {v : Value} {y : Option (List α)} (h : OSl H R size v y) : v.oneCell' = true := by
  cases y with
  | none => rw [show v = _ from h]; rfl
  | some m => exact IsSlice.one1 h
theorem ROSl.one {α : Type} {R : Rep α} {size : Nat} : (ROSl R size).One := fun _ _ _ ⟨v, e, h⟩ => by subst e; intro u hu; simp at hu; subst hu; exact h.one1
theorem OSl.none {α : Type} {R : Rep α} {size : Nat} {v : Value} {y : Option (List α)} (hn : y = .none) (h : OSl H R size v y) : v = .slice .none 0 0 := by subst hn; exact h
def R_WriteO : Rep WriteO := fun H cs y => ∃ v1 : Value, cs = [.int .i64 y.At, v1] ∧ OSl H RU8 1 v1 y.Data
theorem R_WriteO.mono : R_WriteO.Mono := fun _ _ _ _ hle ⟨v, e, h⟩ => ⟨v, e, h.mono RU8.mono hle⟩
theorem R_WriteO.one : R_WriteO.One := fun _ _ _ ⟨v, e, h⟩ => by
  subst e; intro u hu; simp only [List.mem_cons, List.not_mem_nil, or_false] at hu
  rcases hu with rfl | rfl <;> first | rfl | exact h.one1
/-- the same, where new rows come back -/
theorem JL.callL3 {c : Operand} {as : Array Operand} {ts : Array TypeId} {f : FuncId} {vs : List Value} {R : Heaplet → Value → List Own → Heaplet → Prop}
    (he : Enters x.P f) (hc : evo l c = some (.func (.func f) #[] #[])) (ha : as.toList.mapM (evo l) = some vs)
    (C : ∀ H2, Hle H H2 → Lent own H2 → Does x.P f vs.toArray [] H2 (R H2)) (hd : Nat.blt d x.n = true)
    (h : ∀ H2 v K' H', R H2 v K' H' → (∀ p ∈ K'.flatten, x.w0.heap.size ≤ p.1) → JL x ops Q rest ((d, v) :: l) (K' ++ own) H) :
    JL x ops Q (⟨some d, .call ⟨.value c, as, ts⟩, ty, pos, aft, none⟩ :: rest) l own H := fun a w hh => by
  simp only [wpLs, wanted_none, if_true]
  refine ⟨fun _ _ => trivial, ?_⟩
  have hrun : (execOp a.eval ⟨some d, .call ⟨.value c, as, ts⟩, ty, pos, aft, none⟩).run x.P w = .ok (.enter f vs.toArray) w := by
    have e1 := eval_of hh hc
    have e2 := mapM_eval (fun o u e => eval_of hh e) ha
    simp only [execOp, resolve, e1, e2, Deferred.ofValue, Sem.run_bind, Sem.run_pure, Result.andThen, invoke]
    simpa using he _ _
  rw [semAt_of rfl, hrun]
  have hle := lend_le hh.mem.ok
  show (_ → _) ∧ CallsIn _ _ _ _ _ _ _
  refine ⟨fun e => by simp [Fw] at e, ?_⟩
  refine CallsIn.mono (show CallsIn (Fw x.r) (0 - 1) x.P f _ w _ from C _ hle (lend_lent hh.mem.ok) w (lend_agrees hh.mem.agr hh.mem.ok) ⟨fun p hp => by simp at hp, by simp [ids], fun p hp => by simp at hp⟩) ?_
  rintro e w' ⟨v', K', H', rfl, hR, hm⟩
  have hle2 := hle.trans hm.le
  have hm' : Mem w H (ids []) K'.flatten H w' := ⟨hm.agr.le hle2, ⟨hm.ok.here, hm.ok.nodup, fun p hp o => by
    cases e : H p.1 o with
    | none => rfl
    | some u => have := hle2 _ _ _ e; rw [hm.ok.apart p hp o] at this; cases this⟩, hm.kept, hm.fresh, Hle.refl _, fun _ _ _ => rfl, Mem.soft0⟩
  refine h _ _ _ _ hR (fun p hp => Nat.le_trans hh.mem.kept.size ((hm.fresh p hp).resolve_left (by simp [ids]))) _ _ (Holds.put (x := x) (l := l) ⟨hh.size, hh.ds, hh.slots, ?_⟩ hd _)
  rw [List.flatten_append]
  exact hh.mem.go (K := []) (rst := own.flatten) (by simp) hm'
end Go.Ow
