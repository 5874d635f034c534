/-
  What is proved here: more operations: slices against nil; over OwJ.
-/
import Derived.Test.YtdelcjkjkhcaoaaOwJ
namespace Go.Ow
open Go.RowKit
set_option linter.unusedVariables false
set_option linter.unusedSimpArgs false

section ops
variable {x : Cx} {ops : Array Oper} {Q : Exit → Act → World → Prop} {l : Slots} {own : List Own} {H : Heaplet} {rest : List Oper} {d : Nat} {ty : TypeId} {pos : String} {aft : Array Edge}

theorem run_equalNil {P : Program} {w : World} {t e : TypeId} {ao : Option Addr} {n c : Nat} (hu : P.underlying t = some (.slice e)) : (Op.equal t (.slice ao n c) (.slice none 0 0)).run P w = .ok ao.isNone w := by
  have key : ∀ k, (Op.equalIn (k + 1) t (.slice ao n c) (.slice none 0 0)).run P w = .ok ao.isNone w := fun k => by
    unfold Op.equalIn
    rw [Sem.run_bind, run_underlying hu]
    cases ao <;> rfl
  exact key 9999
theorem JL.eqlNil {p q : Operand} {ao : Option Addr} {n c : Nat} {t u e : TypeId} (hu : x.P.underlying t = some (.slice e)) (h1 : evo l p = some (.slice ao n c)) (h2 : evo l q = some (.slice none 0 0)) (hd : Nat.blt d x.n = true)
    (h : JL x ops Q rest ((d, .bool ao.isNone) :: l) own H) : JL x ops Q (⟨some d, .binOp .eql t p q u, ty, pos, aft, none⟩ :: rest) l own H :=
  JL.val hd rfl (fun ρ w _ _ _ _ hρ hm => by
    simp only [execOp, hρ _ _ h1, hρ _ _ h2]
    refine run_v ?_
    have hg : (eqGuard .eql t p q (.slice ao n c) (.slice none 0 0)).run x.P w = .ok () w := rfl
    rw [Sem.run_bind, hg]
    simp only [Result.andThen, binOp, Sem.run_bind, run_equalNil hu]; rfl) h
/-! ### Lending: a function that only computes may look at what is owned -/
def rowOf? : Obj → Option (Array Value)
  | .cells c _ _ => some c
  | _ => none
def lend : Own → Heaplet → Heaplet
  | [], H => H
  | p :: r, H => fun b o => if b = p.1 then (match rowOf? p.2 with | some cur => cur[o]? | none => lend r H b o) else lend r H b o
def Lent (own : List Own) (H2 : Heaplet) : Prop := ∀ g cur t fr, (g, Obj.cells cur t fr) ∈ own.flatten → ∀ o, H2 g o = cur[o]?
theorem OwnOk.tail {H : Heaplet} {p : Nat × Obj} {r : Own} {w : World} (h : OwnOk H (p :: r) w) : OwnOk H r w :=
  ⟨fun q hq => h.here q (List.mem_cons_of_mem _ hq), (List.nodup_cons.1 (by simpa [ids] using h.nodup)).2, fun q hq => h.apart q (List.mem_cons_of_mem _ hq)⟩
theorem lend_le {H : Heaplet} {w : World} : ∀ {own : Own}, OwnOk H own w → Hle H (lend own H)
  | [], _ => Hle.refl _
  | p :: r, h => fun b o v e => by
    by_cases hb : b = p.1
    · subst hb; rw [h.apart p (by simp) o] at e; cases e
    · simp only [lend, if_neg hb]; exact lend_le h.tail b o v e
theorem lend_agrees {H : Heaplet} {w : World} (ha : Agrees H w) : ∀ {own : Own}, OwnOk H own w → Agrees (lend own H) w
  | [], _ => ha
  | (g, ob) :: r, h => fun b o v e => by
    by_cases hb : b = g
    · subst hb
      simp only [lend, if_true] at e
      have hh := h.here (b, ob) (by simp)
      cases hr : rowOf? ob with
      | none => rw [hr] at e; exact lend_agrees ha h.tail b o v e
      | some cur =>
        rw [hr] at e
        cases ob <;> simp [rowOf?] at hr
        subst hr
        rw [cell_of_row w b o _ _ _ hh]; exact e
    · simp only [lend, if_neg hb] at e; exact lend_agrees ha h.tail b o v e
theorem lend_lent {H : Heaplet} {w : World} : ∀ {own : Own}, OwnOk H own w → ∀ g cur t fr, (g, Obj.cells cur t fr) ∈ own → ∀ o, lend own H g o = cur[o]?
  | [], _, _, _, _, _, hm, _ => by cases hm
  | (p1, ob) :: r, h, g, cur, t, fr, hm, o => by
    rcases List.mem_cons.1 hm with e | hm
    · cases e; simp [lend, rowOf?]
    · have hne : g ≠ p1 := fun e => by
        have := (List.nodup_cons.1 (show (p1 :: ids r).Nodup from h.nodup)).1
        exact this (e ▸ List.mem_map_of_mem (f := fun p => p.1) hm)
      simp only [lend, if_neg hne]; exact lend_lent h.tail g cur t fr hm o
theorem Lent.row {α : Type} {R : Rep α} {H2 : Heaplet} {i B : Nat} {K : Own} {E : TypeId} {size : Nat} {v : Value} {ls : List α} (hl : Lent own H2) (hR : R.Mono) (hle : Hle H H2) (hi : own[i]? = some K) (hr : RowOf H R B E size v ls K) :
    IsSlice H2 R size v ls := by
  obtain ⟨cells, ⟨h0, h1⟩, hf, ho⟩ := hr
  rcases h1 with ⟨rfl, h3, rfl⟩ | ⟨g, cap, cur, rfl, rfl, e3, e4, e5, e6, e7⟩
  · have : ls = [] := List.length_eq_zero_iff.1 h3
    subst this; exact IsSlice.nil _ _ _
  · refine IsSlice.of_cells (hf.mono hR hle) e4 e5 (fun j u hj => ?_)
    have hm : (g, Obj.cells cur E (0, 0)) ∈ own.flatten := List.mem_flatten.2 ⟨_, List.mem_of_getElem? hi, by simp⟩
    rw [hl g cur E (0, 0) hm]
    rw [← e7, List.getElem?_take] at hj
    split at hj
    · simpa using hj
    · cases hj
theorem JL.callC {c : Operand} {as : Array Operand} {ts : Array TypeId} {f : FuncId} {first cap : Array Value} {vs args : List Value} {K rst : List Own} {R : Value → List Own → Heaplet → Prop}
    (he : Enters x.P f) (hc : evo l c = some (.func (.func f) first cap)) (ha : as.toList.mapM (evo l) = some vs) (hargs : first.toList ++ vs ++ cap.toList = args) (hp : own.flatten.Perm (K.flatten ++ rst.flatten))
    (C : Does x.P f args.toArray K H R) (hd : Nat.blt d x.n = true)
    (h : ∀ v K' H', R v K' H' → Hle H H' → (∀ p ∈ K'.flatten, p.1 ∈ ids K.flatten ∨ x.w0.heap.size ≤ p.1) → JL x ops Q rest ((d, v) :: l) (K' ++ rst) H') :
    JL x ops Q (⟨some d, .call ⟨.value c, as, ts⟩, ty, pos, aft, none⟩ :: rest) l own H :=
  JL.callG he hc ha hp (by rw [show first ++ vs.toArray ++ cap = args.toArray by rw [← hargs]; apply Array.ext'; simp]; exact C) hd h
end ops
theorem IsSlice.none_nil {α : Type} {H : Heaplet} {R : Rep α} {size : Nat} {n c : Nat} {l : List α} (h : IsSlice H R size (.slice none n c) l) : l = [] := by
  obtain ⟨ao, cap, e, h1, h2, h3, h4, h5⟩ := h
  simp only [Value.slice.injEq] at e
  obtain ⟨rfl, rfl, rfl⟩ := e
  have := h4 rfl
  exact List.eq_nil_of_length_eq_zero (by omega)
end Go.Ow
