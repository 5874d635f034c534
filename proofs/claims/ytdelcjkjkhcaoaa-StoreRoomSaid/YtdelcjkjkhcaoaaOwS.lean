/-
  What is proved here: ranges over what an iterator yields; how such a function is left; a few more operations; over OwQ.
-/
import Derived.Test.YtdelcjkjkhcaoaaOwQ
import Derived.Lib.AppendZerosOnto
namespace Go.Ow
open Go.RowKit
set_option linter.unusedVariables false
set_option linter.unusedSimpArgs false

variable {x : Cx} {ops : Array Oper} {Q : Exit → Act → World → Prop} {rest : List Oper} {l : Slots} {own : List Own} {H HF : Heaplet}
variable {ty : TypeId} {d : Nat} {pos : String} {aft : Array Edge} {v : Value} {p q : Operand} {t u : TypeId}

/-! ### Iterators -/
def IterL {α : Type} (P : Program) (f : FuncId) (cap : Array Value) (H : Heaplet) (RA : Heaplet → Array Value → α → Prop) (xs : List α) : Prop :=
  Iter P f cap H (fun pre H' args y => RA H' args y ∧ ∃ t, pre ++ y :: t = xs) (fun ys => ys = xs) (fun ys => ∃ t, ys ++ t = xs)
/-- how a round may be left, and with what -/
def RoundS {σ τ : Type} (I : σ → List Own → Heaplet → Prop) (X : τ → Code → List Own → Heaplet → Prop) (out : σ ⊕ τ) (wb : World) (Hb : Heaplet) (S : List Nat) : Exit → Act → World → Prop
  | .normal, _, w => ∃ s' o' H', out = .inl s' ∧ Mem wb Hb S o'.flatten H' w ∧ I s' o' H'
  | .ret, _, w => ∃ t o' H', out = .inr t ∧ Mem wb Hb S o'.flatten H' w ∧ X t .ret o' H'
  | .exit id, _, w => ∃ t o' H', out = .inr t ∧ Mem wb Hb S o'.flatten H' w ∧ X t (.exit id) o' H'
  | _, _, _ => False
theorem JC.rangeL {α σ τ : Type} (hr : x.r = none) {g : Operand} {ps : Array Tmp} {assign body : Code} {gf : FuncId} {cap : Array Value} {RA : Heaplet → Array Value → α → Prop} {xs : List α}
    (bd : α → σ → Option (σ ⊕ τ)) (s0 : σ) (tt : σ ⊕ τ) (hrun : forL bd xs s0 = some tt)
    (I : σ → List Own → Heaplet → Prop) (X : τ → Code → List Own → Heaplet → Prop)
    (hg : evo l g = some (.func (.func gf) #[] cap)) (he : Enters x.P gf) (hit : IterL x.P gf cap H RA xs) (hps : ∀ H args y, RA H args y → args.size = ps.size) (hlt : ps.toList.all (fun p => Nat.blt p x.n) = true)
    (h0 : I s0 own H)
    (hround : ∀ (lr : Nat) (y : α) (s : σ) (args : Array Value) (o : List Own) (H' : Heaplet) (out : σ ⊕ τ), I s o H' → RA H' args y → bd y s = some out → ∃ L1 : Slots,
      (∀ wb, x.w0.heap.size ≤ wb.heap.size → JC { x with r := some lr, w0 := wb, H0 := H', S := ids o.flatten, ds := [] } assign
        (Exit.then (fun a w => Holds { x with r := some lr, w0 := wb, H0 := H', S := ids o.flatten, ds := [] } L1 o H' a w) (fun _ _ _ => False)) ((ps.toList.zip args.toList).reverse ++ l) o H') ∧
      (∀ wb, x.w0.heap.size ≤ wb.heap.size → JC { x with r := some lr, w0 := wb, H0 := H', S := ids o.flatten, ds := [] } body (RoundS I X out wb H' (ids o.flatten)) L1 o H'))
    (hdone : ∀ (D : Nat) (s : σ) (o : List Own) (H' : Heaplet), x.w0.heap.size ≤ D → tt = .inl s → I s o H' → Hle H H' → JN { x with ds := mark D :: x.ds } (Q .normal) l ([(D, .deferred (some []))] :: o) H')
    (hstop : ∀ (D : Nat) (c : Code) (e : τ) (o : List Own) (H' : Heaplet), x.w0.heap.size ≤ D → tt = .inr e → X e c o H' → Hle H H' → JC { x with ds := mark D :: x.ds } c Q l ([(D, .deferred (some []))] :: o) H') :
    JC x (.rangeFunc g ps assign body) Q l own H := by
  refine JC.rangeFunc hr hg he hit (fun pre H args y h => hps H args y h.1) hlt
    (fun pre o H' => ∃ s ys, pre ++ ys = xs ∧ forL bd ys s = some tt ∧ I s o H') (fun c pre o H' => ∃ e, tt = .inr e ∧ X e c o H') ⟨s0, xs, rfl, hrun, h0⟩ ?_ ?_ ?_
  · rintro lr pre y args o H' ⟨s, ys, hpre, hf, hI⟩ ⟨hy, t, ht⟩
    have hys : ys = y :: t := by rw [← ht] at hpre; exact List.append_cancel_left hpre
    subst hys
    obtain ⟨out, hb, hcase⟩ := forL_some hf
    obtain ⟨L1, hA, hB⟩ := hround lr y s args o H' out hI hy hb
    refine ⟨L1, hA, fun wb hwb a w hh => wpIn_mono (hB wb hwb a w hh) ?_⟩
    rintro e a w hq
    cases e with
    | normal =>
      obtain ⟨s', o', H2, ho, hm, hI'⟩ := hq
      rcases hcase with ⟨s'', e1, h2⟩ | ⟨e', e1, h2⟩
      · rw [ho] at e1; cases e1
        exact ⟨o', H2, hm, s', t, by rw [← ht]; simp, h2, hI'⟩
      · rw [ho] at e1; cases e1
    | ret =>
      obtain ⟨e', o', H2, ho, hm, hX⟩ := hq
      rcases hcase with ⟨s'', e1, h2⟩ | ⟨e'', e1, h2⟩
      · rw [ho] at e1; cases e1
      · rw [ho] at e1; cases e1; exact ⟨o', H2, hm, e', h2, hX⟩
    | exit id =>
      obtain ⟨e', o', H2, ho, hm, hX⟩ := hq
      rcases hcase with ⟨s'', e1, h2⟩ | ⟨e'', e1, h2⟩
      · rw [ho] at e1; cases e1
      · rw [ho] at e1; cases e1; exact ⟨o', H2, hm, e', h2, hX⟩
    | goto _ => exact hq.elim
    | panic _ => exact hq.elim
    | outgrown => exact hq.elim
  · rintro D ys o H' hD rfl ⟨s, zs, hz, hf, hI⟩ hle
    have : zs = [] := by
      have := congrArg List.length hz; simp at this; exact this
    subst this
    exact hdone D s o H' hD (Option.some.inj hf).symm hI hle
  · rintro D c ys o H' hD hS ⟨e, he', hX⟩ hle
    exact hstop D c e o H' hD he' hX hle
theorem JN.rN {σ τ : Type} {I : σ → List Own → Heaplet → Prop} {X : τ → Code → List Own → Heaplet → Prop} {s : σ} (h : I s own H) : JN x (RoundS I X (.inl s) x.w0 x.H0 x.S .normal) l own H :=
  fun a w hh => ⟨s, own, H, rfl, hh.mem, h⟩
theorem JN.rX {σ τ : Type} {I : σ → List Own → Heaplet → Prop} {X : τ → Code → List Own → Heaplet → Prop} {e : τ} {id : Nat} (h : X e (.exit id) own H) : JN x (RoundS I X (.inr e) x.w0 x.H0 x.S (.exit id)) l own H :=
  fun a w hh => ⟨e, own, H, rfl, hh.mem, h⟩

/-! ### Leaving a function that holds such a statement; results in cells too -/
theorem leaves_marks2 {P : Program} {fn : Func} {tmps : Array Value} {w0 : World} {H0 H : Heaplet} {S : List Nat} {R : Ending → World → Prop} {v : Value} {rst : Own}
    (hres : ∀ w, Mem w0 H0 S rst H w → (results fn tmps).run P w = .ok v w) (hR : ∀ w, Mem w0 H0 S rst H w → R (.returned v) w) : ∀ (Ds : List Nat) (w : World),
    Mem w0 H0 S ((Ds.map fun D => (D, Obj.deferred (some []))) ++ rst) H w → LeavesInM Fence.wide 0 P fn tmps R (Ds.map mark) .returning w
  | [], w, hm => ⟨v, hres w (by simpa using hm), hR w (by simpa using hm)⟩
  | D :: Ds, w, hm => by
    have hD : w.heap[D]? = some (.deferred (some [])) := hm.ok.here (D, Obj.deferred (some [])) (by simp)
    have hap : ∀ k, H D k = none := fun k => hm.ok.apart (D, Obj.deferred (some [])) (by simp) k
    refine ⟨by simp, .inl ⟨D, _, rfl, run_takeDeferred hD, ?_⟩⟩
    refine leaves_marks2 hres hR Ds _ ?_
    have := hm.go (K := [(D, Obj.deferred (some []))]) (rst := (Ds.map fun D => (D, Obj.deferred (some []))) ++ rst) (by simp) (Mem.putObj hm.agr hD hap (.deferred none))
    exact this.sub (List.sublist_append_right _ _)
def marked (Ds : List Nat) : List Own := Ds.map fun D => [(D, Obj.deferred (some []))]
theorem marked_flat (Ds : List Nat) : (marked Ds).flatten = Ds.map fun D => (D, Obj.deferred (some [])) := by
  induction Ds with
  | nil => rfl
  | cons D Ds ih => simp only [marked, List.map_cons, List.flatten_cons] at ih ⊢; rw [ih]; rfl
theorem JN.outMP {x0 : Cx} {fn : Func} {R : Value → List Own → Heaplet → Prop} {e : Exit} {rs : List ResultVar} {vs : List Value} {K rst own2 : List Own} (Ds : List Nat) (he : e = .ret ∨ e = .normal)
    (hx : x.P = x0.P ∧ x.w0 = x0.w0 ∧ x.H0 = x0.H0 ∧ x.S = x0.S) (hd : x.ds = Ds.map mark) (hr : fn.results = rs.toArray) (hp : own.flatten.Perm ((marked Ds).flatten ++ own2.flatten)) (hv : Res x.P l own2 rs vs)
    (hp2 : own2.flatten.Perm (K.flatten ++ rst.flatten)) (h : R (pack vs) K H) : JN x (RetM x0 fn R e) l own H := fun a w hh => by
  have : RetM x0 fn R .ret a w := by
    show LeavesInM Fence.wide 0 x0.P fn a.tmps _ a.defers .returning w
    rw [hh.ds, hd]
    obtain ⟨e1, e2, e3, e4⟩ := hx
    refine leaves_marks2 (rst := own2.flatten) (w0 := x.w0) (H0 := x.H0) (S := x.S) (H := H) (v := pack vs) (fun w' hm => ?_) (fun w' hm => ⟨pack vs, K, H, rfl, h, by rw [← e2, ← e3, ← e4]; exact (hm.perm hp2).sub (List.sublist_append_left _ _)⟩) Ds w ?_
    · rw [← e1]
      exact res_run (x := x) (l := l) (own := own2) (H := H) (a := a) ⟨hh.size, hh.ds, hh.slots, hm⟩ hr hv
    · have := hh.mem.perm hp
      rw [marked_flat] at this; exact this
  rcases he with rfl | rfl <;> exact this
/-! ### Entering, with what is known of the blocks that are handed in -/
theorem Does.enterL {P : Program} {f : FuncId} {fn : Func} {c : Code} {vs : List Value} {K : List Own} {H : Heaplet} {R : Value → List Own → Heaplet → Prop} {l : Slots}
    (hf : P.funcs[f]? = some fn) (hb : fn.body = some c) (hn : Nat.ble vs.length fn.ntmps = true) (hl : Sub l ((List.range' 0 vs.length).zip vs))
    (h : ∀ w, (∀ i ∈ ids K.flatten, i < w.heap.size) → JC { P := P, r := none, n := fn.ntmps, w0 := w, H0 := H, S := ids K.flatten, ds := [] } c
      (Ret { P := P, r := none, n := fn.ntmps, w0 := w, H0 := H, S := ids K.flatten, ds := [] } fn R) l K H) : Does P f vs.toArray K H R := fun w ha hk => by
  have hlt : ∀ i ∈ ids K.flatten, i < w.heap.size := fun i hi => by
    obtain ⟨p, hp, rfl⟩ := List.mem_map.1 hi; exact hk.lt p hp
  have hn := Nat.le_of_ble_eq_true hn
  refine callsIn_of_wp hf hb trivial ?_
  refine h w hlt _ w ⟨?_, rfl, ?_, ⟨ha, hk, Kept.refl _ _, fun p hp => .inl (List.mem_map_of_mem hp), Hle.refl _, fun _ _ _ => rfl, Mem.soft0⟩⟩
  · simp; omega
  · intro i v e
    obtain ⟨_, h2⟩ := lk_args vs 0 i v (lk_sub hl i v e)
    have hi : i < vs.length := by
      rcases Nat.lt_or_ge i vs.length with h' | h'
      · exact h'
      · simp [List.getElem?_eq_none h'] at h2
    have h3 : vs[i] = v := by simpa [List.getElem?_eq_getElem hi] using h2
    have : i < (vs.toArray ++ Array.replicate (fn.ntmps - vs.toArray.size) undef).size := by simp; omega
    simp only [Array.getD_eq_getD_getElem?, Array.getElem?_eq_getElem this, Option.getD_some]
    rw [Array.getElem_append_left (by simpa using hi)]
    simpa using h3
theorem Does.enterML {P : Program} {f : FuncId} {fn : Func} {c : Code} {vs : List Value} {K : List Own} {H : Heaplet} {R : Value → List Own → Heaplet → Prop} {l : Slots}
    (hf : P.funcs[f]? = some fn) (hb : fn.body = some c) (hn : Nat.ble vs.length fn.ntmps = true) (hl : Sub l ((List.range' 0 vs.length).zip vs))
    (h : ∀ w, (∀ i ∈ ids K.flatten, i < w.heap.size) → JC { P := P, r := none, n := fn.ntmps, w0 := w, H0 := H, S := ids K.flatten, ds := [] } c
      (RetM { P := P, r := none, n := fn.ntmps, w0 := w, H0 := H, S := ids K.flatten, ds := [] } fn R) l K H) : Does P f vs.toArray K H R := fun w ha hk => by
  have hlt : ∀ i ∈ ids K.flatten, i < w.heap.size := fun i hi => by
    obtain ⟨p, hp, rfl⟩ := List.mem_map.1 hi; exact hk.lt p hp
  have hn := Nat.le_of_ble_eq_true hn
  refine callsIn_of_wp_marks hf hb trivial ?_
  refine h w hlt _ w ⟨?_, rfl, ?_, ⟨ha, hk, Kept.refl _ _, fun p hp => .inl (List.mem_map_of_mem hp), Hle.refl _, fun _ _ _ => rfl, Mem.soft0⟩⟩
  · simp; omega
  · intro i v e
    obtain ⟨_, h2⟩ := lk_args vs 0 i v (lk_sub hl i v e)
    have hi : i < vs.length := by
      rcases Nat.lt_or_ge i vs.length with h' | h'
      · exact h'
      · simp [List.getElem?_eq_none h'] at h2
    have h3 : vs[i] = v := by simpa [List.getElem?_eq_getElem hi] using h2
    have : i < (vs.toArray ++ Array.replicate (fn.ntmps - vs.toArray.size) undef).size := by simp; omega
    simp only [Array.getElem?_eq_getElem this, Option.getD_some]
    rw [Array.getElem_append_left (by simpa using hi)]
    simpa using h3
theorem new_ids {α : Type} {R : Rep α} {N : Nat} {E : TypeId} {size : Nat} {v : Value} {ls : List α} {K : Own} {S : List Nat} (h : RowOf HF R N E size v ls K) (hS : ∀ i ∈ S, i < N) : ∀ p ∈ K, p.1 ∉ S := fun p hp hm => by
  have h1 := h.ge p hp; have h2 := hS _ hm; omega
theorem JC.pubN {c : Code} {α : Type} {R : Rep α} (i : Nat) (hR : R.Mono) {K : Own} {B : Nat} {E : TypeId} {size : Nat} {v : Value} {ls : List α} (hi : own[i]? = some K) (hr : RowOf (New x.H0 H) R B E size v ls K) (hB : x.w0.heap.size ≤ B)
    (h : ∀ H', Hle H H' → IsSlice (New x.H0 H') R size v ls → JC x c Q l (own.set i []) H') : JC x c Q l own H := JN.pubN (C := fun a w => c.wpIn (Fw x.r) 0 x.P Q a w) i hR hi hr hB h

/-! ### Cuts around code that leaves marks -/
def HoldsD (x : Cx) (I : List Deferred → Slots → List Own → Heaplet → Prop) (a : Act) (w : World) : Prop := ∃ ds l o g, I ds l o g ∧ Holds { x with ds := ds } l o g a w
theorem JC.cutD {c : Code} (I : List Deferred → Slots → List Own → Heaplet → Prop) (h2 : ∀ ds l o g, I ds l o g → JN { x with ds := ds } (Q .normal) l o g)
    (h1 : JC x c (Exit.then (HoldsD x I) Q) l own H) : JC x c Q l own H := fun a w hh => by
  refine wpIn_mono (h1 a w hh) ?_
  intro e a w hq
  cases e with
  | normal => obtain ⟨ds, l, o, g, hI, hh⟩ := hq; exact h2 ds l o g hI a w hh
  | exit id => exact hq
  | goto t => exact hq
  | ret => exact hq
  | panic c => exact hq
  | outgrown => exact hq
theorem JN.cutD {x0 : Cx} {I : List Deferred → Slots → List Own → Heaplet → Prop} {ds' : List Deferred} {l' : Slots} {o' : List Own} {g' : Heaplet} (hI : I ds' l' o' g') (hx : x = { x0 with ds := ds' }) (hl : Sub l' l) (ho : o' = own) (hg : g' = H) :
    JN x (Exit.then (HoldsD x0 I) Q .normal) l own H := fun a w hh => ⟨ds', l', o', g', hI, by rw [← hx, ho, hg]; exact hh.sub hl⟩
end Go.Ow
