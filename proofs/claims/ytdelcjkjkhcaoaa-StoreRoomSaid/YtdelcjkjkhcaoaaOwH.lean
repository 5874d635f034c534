/-
  What is proved here: ranges over functions: an iterator's contract, the statement, and how such a function is left; over OwF.
-/
import Derived.Test.YtdelcjkjkhcaoaaOwF
import Derived.RangeFuncRecord
namespace Go.Ow
open Go.RowKit
set_option linter.unusedVariables false
set_option linter.unusedSimpArgs false

variable {x : Cx} {ops : Array Oper} {Q : Exit → Act → World → Prop} {rest : List Oper} {l : Slots} {own : List Own} {H : Heaplet}

theorem Mem.putObj {w : World} {H : Heaplet} {b : Nat} {o : Obj} (ha : Agrees H w) (hb : w.heap[b]? = some o) (hap : ∀ k, H b k = none) (o' : Obj) :
    Mem w H [b] [(b, o')] H (w.putObj b o') := by
  have hlt := (Array.getElem?_eq_some_iff.1 hb).1
  refine ⟨fun b' off v e => ?_, ⟨?_, by simp [ids], fun p hp off => ?_⟩, ⟨rfl, rfl, rfl, by simp, Nat.le_refl _, fun k hk hn => World.putObj_heap_other (by simpa using hn)⟩, fun p hp => .inl (by simp at hp; simp [hp]), Hle.refl _, fun _ _ _ => rfl, Mem.soft0⟩
  · have := ha b' off v e
    rw [World.cell?_of_block (w := w) (World.putObj_heap_other (fun e' => by have e'' : b' = b := e'; subst e''; rw [hap] at e; cases e))]; exact this
  · intro p hp; simp at hp; subst hp; exact World.putObj_heap_same hlt
  · simp at hp; subst hp; exact hap off

/-- a call of yield with these arguments is a round, which ends so -/
def Yields (P : Program) (lr : Nat) (args : Array Value) (w : World) (Rr : Ending → World → Prop) : Prop :=
  ∃ fn tmps assign body, (Instr.yield lr args).run P w = .ok (.round lr fn tmps assign body) w ∧ RoundIn Fence.wide 0 P lr fn tmps assign body w Rr
abbrev RepA (α : Type) := List α → Heaplet → Array Value → α → Prop
/-- what an iterator may lean on: each call of yield takes the invariant on -/
def YSpec {α : Type} (P : Program) (lr : Nat) (RA : RepA α) (I X : List α → List Own → Heaplet → Prop) : Prop :=
  ∀ pre y args o H w, I pre o H → RA pre H args y → Agrees H w → OwnOk H o.flatten w →
    Yields P lr args w fun e w' => ∃ b o' H', e = .returned (.bool b) ∧ Mem w H (ids o.flatten) o'.flatten H' w' ∧ (if b then I (pre ++ [y]) o' H' else X (pre ++ [y]) o' H')
/-- an iterator's contract: S: what it has yielded in the end; Sp: when it was stopped -/
def Iter {α : Type} (P : Program) (f : FuncId) (cap : Array Value) (H : Heaplet) (RA : RepA α) (S Sp : List α → Prop) : Prop :=
  ∀ lr I X o, YSpec P lr RA I X → I [] o H →
    Does P f (#[.func (.yield lr) #[] #[]] ++ cap) o H (fun _ K' H' => Hle H H' ∧ ((∃ xs, S xs ∧ I xs K' H') ∨ (∃ xs, Sp xs ∧ X xs K' H')))

section ops
variable {ty : TypeId} {d : Nat} {pos : String} {aft : Array Edge} {v : Value}
/-- a call of yield: 'i': the passengers' place: all of what is owned behind the first i segments -/
theorem JL.yield {α : Type} {RA : RepA α} {I X : List α → List Own → Heaplet → Prop} {lr : Nat} {c : Operand} {as : Array Operand} {ts : Array TypeId} {vs : List Value} {mine o : List Own} {pre : List α} (y : α)
    (hY : YSpec x.P lr RA I X) (hc : evo l c = some (.func (.yield lr) #[] #[])) (ha : as.toList.mapM (evo l) = some vs) (hI : I pre o H) (hy : RA pre H vs.toArray y) (hown : own = mine ++ o) (hd : Nat.blt d x.n = true)
    (hT : ∀ o' H', Hle H H' → I (pre ++ [y]) o' H' → JL x ops Q rest ((d, .bool true) :: l) (mine ++ o') H')
    (hF : ∀ o' H', Hle H H' → X (pre ++ [y]) o' H' → JL x ops Q rest ((d, .bool false) :: l) (mine ++ o') H') :
    JL x ops Q (⟨some d, .call ⟨.value c, as, ts⟩, ty, pos, aft, none⟩ :: rest) l own H := fun a w hh => by
  subst hown
  simp only [wpLs, wanted_none, if_true]
  refine ⟨fun _ _ => trivial, ?_⟩
  have hm := hh.mem
  rw [List.flatten_append] at hm
  have hok := OwnOk.right hm.ok
  obtain ⟨fn, tmps, assign, body, hrun0, hround⟩ := hY pre y vs.toArray o H w hI hy hm.agr hok
  have hrun : (execOp a.eval ⟨some d, .call ⟨.value c, as, ts⟩, ty, pos, aft, none⟩).run x.P w = .ok (.round lr fn tmps assign body) w := by
    have e1 := eval_of hh hc
    have e2 := mapM_eval (fun o u e => eval_of hh e) ha
    simp only [execOp, resolve, e1, e2, Deferred.ofValue, Sem.run_bind, Sem.run_pure, Result.andThen, invoke]
    simpa using hrun0
  rw [semAt_of rfl, hrun]
  show (_ → _) ∧ RoundIn _ _ _ _ _ _ _ _ _ _
  refine ⟨fun e => by simp [Fw] at e, ?_⟩
  refine RoundIn.mono (show RoundIn (Fw x.r) (0 - 1) x.P lr fn tmps assign body w _ from hround) ?_
  rintro e w' ⟨b, o', H', rfl, hm', hb⟩
  have hm2 : Mem x.w0 x.H0 x.S (mine ++ o').flatten H' w' := by
    rw [List.flatten_append]
    exact (hm.go (K := o.flatten) (rst := mine.flatten) List.perm_append_comm hm').perm List.perm_append_comm
  cases b with
  | true => exact hT o' H' hm'.le (by simpa using hb) _ _ (Holds.put (x := x) (l := l) ⟨hh.size, hh.ds, hh.slots, hm2⟩ hd _)
  | false => exact hF o' H' hm'.le (by simpa using hb) _ _ (Holds.put (x := x) (l := l) ⟨hh.size, hh.ds, hh.slots, hm2⟩ hd _)
end ops

/-! ### The statement -/
/-- how a round may be left -/
def RoundQ {α : Type} (I : List α → List Own → Heaplet → Prop) (X : Code → List α → List Own → Heaplet → Prop) (xs : List α) (wb : World) (Hb : Heaplet) (S : List Nat) : Exit → Act → World → Prop
  | .normal, _, w => ∃ o' H', Mem wb Hb S o'.flatten H' w ∧ I xs o' H'
  | .ret, _, w => ∃ o' H', Mem wb Hb S o'.flatten H' w ∧ X .ret xs o' H'
  | .exit id, _, w => ∃ o' H', Mem wb Hb S o'.flatten H' w ∧ X (.exit id) xs o' H'
  | .goto t, _, w => ∃ o' H', Mem wb Hb S o'.flatten H' w ∧ X (.goto t) xs o' H'
  | _, _, _ => False

def mark (D : Nat) : Deferred := { target := .collected D, args := #[] }

theorem puts_holds {x : Cx} {own : List Own} {H : Heaplet} {w : World} (n : Nat) : ∀ (ps : List Tmp) (vs : List Value) (t : Array Value) (l : Slots), t.size = n → ps.all (fun p => Nat.blt p n) = true →
    (∀ i v, lk l i = some v → (t[i]?).getD undef = v) →
    ((ps.zip vs).foldl (fun t (p, v) => t.setIfInBounds p v) t).size = n ∧
    ∀ i v, lk ((ps.zip vs).reverse ++ l) i = some v → (((ps.zip vs).foldl (fun t (p, v) => t.setIfInBounds p v) t)[i]?).getD undef = v
  | [], _, t, l, hn, _, hl => by simpa using ⟨hn, hl⟩
  | p :: ps, [], t, l, hn, _, hl => by simpa using ⟨hn, hl⟩
  | p :: ps, u :: vs, t, l, hn, hps, hl => by
    simp only [List.all_cons, Bool.and_eq_true] at hps
    have hp : p < t.size := by rw [hn]; exact Nat.lt_of_lt_of_le (Nat.lt_succ_self p) (Nat.le_of_ble_eq_true hps.1)
    have := puts_holds (x := x) (own := own) (H := H) (w := w) n ps vs (t.setIfInBounds p u) ((p, u) :: l) (by simpa using hn) hps.2 (fun i v e => by
      simp only [lk] at e
      cases hb : Nat.beq p i with
      | true =>
        have : p = i := Nat.eq_of_beq_eq_true hb
        subst this; rw [hb] at e; simp at e; subst e
        simp [hp]
      | false =>
        have : p ≠ i := by intro h; subst h; simp at hb
        rw [hb] at e
        have := hl i v e
        simp [Array.getElem?_setIfInBounds, *])
    simpa using this

theorem JC.rangeFunc {α : Type} (hr : x.r = none) {g : Operand} {ps : Array Tmp} {assign body : Code} {gf : FuncId} {cap : Array Value} {RA : RepA α} {S Sp : List α → Prop}
    (hg : evo l g = some (.func (.func gf) #[] cap)) (he : Enters x.P gf) (hit : Iter x.P gf cap H RA S Sp) (hps : ∀ pre H args y, RA pre H args y → args.size = ps.size) (hlt : ps.toList.all (fun p => Nat.blt p x.n) = true)
    (I : List α → List Own → Heaplet → Prop) (X : Code → List α → List Own → Heaplet → Prop) (h0 : I [] own H)
    (hround : ∀ (lr : Nat) (pre : List α) (y : α) (args : Array Value) (o : List Own) (H' : Heaplet), I pre o H' → RA pre H' args y → ∃ L1 : Slots,
      (∀ wb, x.w0.heap.size ≤ wb.heap.size → JC { x with r := some lr, w0 := wb, H0 := H', S := ids o.flatten, ds := [] } assign
        (Exit.then (fun a w => Holds { x with r := some lr, w0 := wb, H0 := H', S := ids o.flatten, ds := [] } L1 o H' a w) (fun _ _ _ => False)) ((ps.toList.zip args.toList).reverse ++ l) o H') ∧
      (∀ wb, x.w0.heap.size ≤ wb.heap.size → JC { x with r := some lr, w0 := wb, H0 := H', S := ids o.flatten, ds := [] } body (RoundQ I X (pre ++ [y]) wb H' (ids o.flatten)) L1 o H'))
    (hdone : ∀ (D : Nat) (xs : List α) (o : List Own) (H' : Heaplet), x.w0.heap.size ≤ D → S xs → I xs o H' → Hle H H' → JN { x with ds := mark D :: x.ds } (Q .normal) l ([(D, .deferred (some []))] :: o) H')
    (hstop : ∀ (D : Nat) (c : Code) (xs : List α) (o : List Own) (H' : Heaplet), x.w0.heap.size ≤ D → Sp xs → X c xs o H' → Hle H H' → JC { x with ds := mark D :: x.ds } c Q l ([(D, .deferred (some []))] :: o) H') :
    JC x (.rangeFunc g ps assign body) Q l own H := fun a w hh => by
  have hFw : Fw x.r = Fence.wide := by rw [hr]; rfl
  rw [hFw]
  refine wpIn_rangeFunc ?_
  intro fn hfn
  -- the two blocks
  obtain ⟨rec, hrec⟩ : ∃ rec : LoopState → Option Code → Loop, rec = fun st pe => { state := st, pending := pe, fn, tmps := a.tmps, params := ps, assign, body, defers := w.heap.size } := ⟨_, rfl⟩
  have hm1 := hh.mem.go0 (K' := [[(w.heap.size, .deferred (some []))]]) (by simpa using Mem.alloc hh.mem.agr (.deferred (some [])))
  have hm2 := hm1.go0 (K' := [[((w.alloc (.deferred (some []))).heap.size, .loop (rec .ready none))]]) (by simpa using Mem.alloc hm1.agr (.loop (rec .ready none)))
  have hsz : (w.alloc (.deferred (some []))).heap.size = w.heap.size + 1 := by simp
  rw [hsz] at hm2
  obtain ⟨W, hW⟩ : ∃ W, W = (w.alloc (.deferred (some []))).alloc (.loop (rec .ready none)) := ⟨_, rfl⟩
  rw [← hW] at hm2
  let D := w.heap.size
  let lr := w.heap.size + 1
  have hD : D ≠ lr := by simp [D, lr]
  -- the invariant with its two blocks of book-keeping
  let tail : LoopState → Option Code → List Own := fun st pe => [[(lr, Obj.loop (rec st pe))], [(D, Obj.deferred (some []))]]
  let I' : List α → List Own → Heaplet → Prop := fun xs o' H' => ∃ o, o' = tail .ready none ++ o ∧ I xs o H' ∧ Hle H H'
  let X' : List α → List Own → Heaplet → Prop := fun xs o' H' => ∃ o c, o' = tail .done (some c) ++ o ∧ X c xs o H' ∧ Hle H H'
  refine ⟨lr, [mark D], W, { target := .fn (.func gf) cap, args := #[.func (.yield lr) #[] #[]] }, W, gf, #[.func (.yield lr) #[] #[]] ++ cap, W, ?_, ?_, fun _ _ => trivial, ?_, fun e => by simp [Fence.wide] at e, ?_⟩
  · rw [hW, hrec]; exact run_enterLoop_outer _ _ _ _ _
  · have e1 := eval_of hh hg
    simp only [resolve, e1]
    simp [go_sem, Act.eval, Deferred.ofValue, lr]
  · simp only [invoke]; exact he _ _
  · have hY : YSpec x.P lr RA I' X' := by
      rintro pre y args o' H' w1 ⟨o, rfl, hI, hle⟩ hy hag hok
      have hsize := hps _ _ _ _ hy
      have hrecs : w1.heap[lr]? = some (.loop (rec .ready none)) := hok.here (lr, Obj.loop (rec .ready none)) (by simp [tail])
      have hapr : ∀ k, H' lr k = none := fun k => hok.apart (lr, Obj.loop (rec .ready none)) (by simp [tail]) k
      have hyld := run_yield (P := x.P) (args := args) hrecs (by rw [hrec]; exact hsize)
      rw [hrec] at hyld
      refine ⟨fn, _, assign, body, hyld, ?_⟩
      obtain ⟨L1, hA, hB⟩ := hround lr pre y args o H' hI hy
      refine roundIn_of_wpIn (F := Fence.wide) trivial ?_
      have hput := puts_holds (x := x) (own := own) (H := H) (w := w) x.n ps.toList args.toList a.tmps l hh.size hlt hh.slots
      have hfold : ((ps.zip args).foldl (fun t (p, v) => t.setIfInBounds p v) a.tmps) = ((ps.toList.zip args.toList).foldl (fun t (p, v) => t.setIfInBounds p v) a.tmps) := by
        rw [← Array.foldl_toList]; simp
      have hok2 : OwnOk H' o.flatten w1 := by
        have := hok; rw [List.flatten_append] at this; exact OwnOk.right this
      have hmo : Mem w1 H' (ids o.flatten) o.flatten H' w1 := Mem.same hag hok2
      refine wpIn_mono (Q := Exit.then (fun a w => Holds { x with r := some lr, w0 := w1, H0 := H', S := ids o.flatten, ds := [] } L1 o H' a w) (fun _ _ _ => False)) ?_ ?_
      · rw [hfold]
        have hDs : D < w1.heap.size := (Array.getElem?_eq_some_iff.1 (hok.here (D, Obj.deferred (some [])) (by simp [tail]))).1
        exact hA w1 (Nat.le_trans hh.mem.kept.size (Nat.le_of_lt hDs)) { tmps := _, defers := [] } w1 ⟨hput.1, rfl, hput.2, hmo⟩
      · rintro e a1 w2 hh1
        cases e with
        | normal =>
          have hh1 : Holds { x with r := some lr, w0 := w1, H0 := H', S := ids o.flatten, ds := [] } L1 o H' a1 w2 := hh1
          -- the assignments have turned nothing of the book-keeping
          have hlt1 : lr < w1.heap.size := (Array.getElem?_eq_some_iff.1 hrecs).1
          have hnd := hok.nodup
          have hlro : lr ∉ ids o.flatten := fun hmem => by
            simp only [tail, List.flatten_append, ids, List.map_append, List.nodup_append] at hnd
            exact hnd.2.2 lr (by simp) lr hmem rfl
          have hDo : D ∉ ids o.flatten := fun hmem => by
            simp only [tail, List.flatten_append, ids, List.map_append, List.nodup_append] at hnd
            exact hnd.2.2 D (by simp) D hmem rfl
          have hr2 : w2.heap[lr]? = some (.loop (rec .ready none)) := by rw [hh1.mem.kept.block lr hlt1 hlro]; exact hrecs
          -- the whole memory at the round's begin, seen from w1
          have hmw1 : Mem w1 H' (ids (tail .ready none ++ o).flatten) (tail .ready none ++ o).flatten H' w1 := Mem.same hag hok
          have hmw2 : Mem w1 H' (ids (tail .ready none ++ o).flatten) (o.flatten ++ (tail .ready none).flatten) H' w2 :=
            hmw1.go (K := o.flatten) (rst := (tail .ready none).flatten) (by rw [List.flatten_append]; exact List.perm_append_comm) hh1.mem
          have hbr := run_beginRound (P := x.P) hr2 (by rw [hrec])
          refine ⟨_, hbr, ?_⟩
          have hmw3 : Mem w1 H' (ids (tail .ready none ++ o).flatten) ([(lr, Obj.loop { rec .ready none with state := .busy })] ++ (([(D, Obj.deferred (some []))] : Own) ++ o.flatten)) H' (w2.putObj lr (.loop { rec .ready none with state := .busy })) := by
            refine hmw2.go (K := [(lr, Obj.loop (rec .ready none))]) (rst := [(D, Obj.deferred (some []))] ++ o.flatten) ?_ ?_
            · simp only [tail, List.flatten_cons, List.flatten_nil, List.append_nil]
              refine List.perm_append_comm.trans ?_
              simp
            · exact Mem.putObj hh1.mem.agr hr2 hapr _
          have hDs : D < w1.heap.size := (Array.getElem?_eq_some_iff.1 (hok.here (D, Obj.deferred (some [])) (by simp [tail]))).1
          have hsz2 : x.w0.heap.size ≤ (w2.putObj lr (.loop { rec .ready none with state := .busy })).heap.size := by
            have h1 := hh.mem.kept.size
            have h2 : w1.heap.size ≤ w2.heap.size := hh1.mem.kept.size
            have h5 : w.heap.size < w1.heap.size := hDs
            exact Nat.le_trans (Nat.le_trans h1 (Nat.le_trans (Nat.le_of_lt h5) h2)) (by simp)
          refine wpIn_mono (hB (w2.putObj lr (.loop { rec .ready none with state := .busy })) hsz2 a1 _ ⟨hh1.size, hh1.ds, hh1.slots, Mem.same hmw3.agr ?_⟩) ?_
          · exact OwnOk.right (OwnOk.right hmw3.ok)
          · -- the round's end
            have fin : ∀ (jump : Option Code) (o1 : List Own) (H1 : Heaplet) (w3 : World), Mem (w2.putObj lr (.loop { rec .ready none with state := .busy })) H' (ids o.flatten) o1.flatten H1 w3 →
                (Instr.endRound lr jump).run x.P w3 = .ok (.bool jump.isNone) (w3.putObj lr (.loop (rec (if jump.isNone then .ready else .done) jump))) ∧
                Mem w1 H' (ids (tail .ready none ++ o).flatten) (tail (if jump.isNone then .ready else .done) jump ++ o1).flatten H1 (w3.putObj lr (.loop (rec (if jump.isNone then .ready else .done) jump))) := by
              intro jump o1 H1 w3 hm3
              have hm4 : Mem w1 H' (ids (tail .ready none ++ o).flatten) (o1.flatten ++ ([(lr, Obj.loop { rec .ready none with state := .busy })] ++ [(D, Obj.deferred (some []))])) H1 w3 := by
                refine hmw3.go (K := o.flatten) (rst := [(lr, Obj.loop { rec .ready none with state := .busy })] ++ [(D, Obj.deferred (some []))]) ?_ hm3
                rw [← List.append_assoc]; exact List.perm_append_comm
              have hl3 : w3.heap[lr]? = some (.loop { rec .ready none with state := .busy }) := hm4.ok.here (lr, Obj.loop { rec .ready none with state := .busy }) (by simp)
              have hap3 : ∀ k, H1 lr k = none := fun k => hm4.ok.apart (lr, Obj.loop { rec .ready none with state := .busy }) (by simp) k
              have hend := run_endRound (P := x.P) jump hl3
              rw [hrec] at hend ⊢
              refine ⟨hend, ?_⟩
              have := hm4.go (K := [(lr, Obj.loop { rec .ready none with state := .busy })]) (rst := o1.flatten ++ [(D, Obj.deferred (some []))]) (by
                refine (List.perm_append_comm (l₁ := o1.flatten)).trans ?_
                rw [List.append_assoc]
                exact List.Perm.append_left _ List.perm_append_comm) (Mem.putObj hm4.agr hl3 hap3 (.loop { rec .ready none with state := if jump.isNone then .ready else .done, pending := jump }))
              rw [hrec] at this
              refine Mem.perm this ?_
              simp only [tail, List.flatten_append, List.flatten_cons, List.flatten_nil, List.append_nil, hrec]
              rw [List.append_assoc]
              exact List.Perm.append_left _ List.perm_append_comm
            rintro e2 a3 w3 hp
            cases e2 with
            | normal =>
              obtain ⟨o1, H1, hm3, hI1⟩ := hp
              obtain ⟨hend, hm5⟩ := fin none o1 H1 w3 hm3
              exact ⟨_, _, hend, true, _, H1, rfl, hm5, by simpa using ⟨o1, rfl, hI1, hle.trans hm3.le⟩⟩
            | ret =>
              obtain ⟨o1, H1, hm3, hI1⟩ := hp
              obtain ⟨hend, hm5⟩ := fin (some .ret) o1 H1 w3 hm3
              exact ⟨_, _, hend, false, _, H1, rfl, hm5, by simpa using ⟨o1, .ret, rfl, hI1, hle.trans hm3.le⟩⟩
            | exit id =>
              obtain ⟨o1, H1, hm3, hI1⟩ := hp
              obtain ⟨hend, hm5⟩ := fin (some (.exit id)) o1 H1 w3 hm3
              exact ⟨_, _, hend, false, _, H1, rfl, hm5, by simpa using ⟨o1, .exit id, rfl, hI1, hle.trans hm3.le⟩⟩
            | goto t =>
              obtain ⟨o1, H1, hm3, hI1⟩ := hp
              obtain ⟨hend, hm5⟩ := fin (some (.goto t)) o1 H1 w3 hm3
              exact ⟨_, _, hend, false, _, H1, rfl, hm5, by simpa using ⟨o1, .goto t, rfl, hI1, hle.trans hm3.le⟩⟩
            | panic ch => exact hp.elim
            | outgrown => exact hp.elim
        | exit id => exact hh1.elim
        | goto t => exact hh1.elim
        | ret => exact hh1.elim
        | panic ch => exact hh1.elim
        | outgrown => exact hh1.elim
    -- the iterator
    have hD0 := hit lr I' X' (tail .ready none ++ own) hY ⟨own, rfl, h0, Hle.refl _⟩
    have hmW : Mem x.w0 x.H0 x.S (tail .ready none ++ own).flatten H W := by simpa [tail, D, lr] using hm2
    refine CallsIn.mono (hD0 W hmW.agr hmW.ok) ?_
    rintro e w3 ⟨v, K', H', rfl, ⟨hle, hcase⟩, hm3⟩
    have hm4 : Mem x.w0 x.H0 x.S K'.flatten H' w3 := by
      have := hmW.go (K := (tail .ready none ++ own).flatten) (rst := []) (by simp) hm3
      simpa using this
    rcases hcase with ⟨xs, hS, o, rfl, hI, _⟩ | ⟨xs, hS, o, c, rfl, hX, _⟩
    · have hl3 : w3.heap[lr]? = some (.loop (rec .ready none)) := hm4.ok.here (lr, Obj.loop (rec .ready none)) (by simp [tail])
      have hap3 : ∀ k, H' lr k = none := fun k => hm4.ok.apart (lr, Obj.loop (rec .ready none)) (by simp [tail]) k
      refine ⟨none, _, by have := run_endLoop (P := x.P) hl3 (by rw [hrec]; simp); rw [hrec] at this; exact this, ?_⟩
      have hm5 := hm4.go (K := [(lr, Obj.loop (rec .ready none))]) (rst := [(D, Obj.deferred (some []))] ++ o.flatten) (by simp [tail]) (Mem.putObj hm4.agr hl3 hap3 (.loop { rec .ready none with state := .exhausted }))
      rw [hrec] at hm5
      have hDn : x.w0.heap.size ≤ D := hh.mem.kept.size
      refine hdone D xs o H' hDn hS hI hle _ _ ⟨hh.size, by simp [hh.ds], hh.slots, ?_⟩
      have hs : ([(D, Obj.deferred (some []))] ++ o.flatten).Sublist ([(lr, Obj.loop { rec .ready none with state := .exhausted })] ++ ([(D, Obj.deferred (some []))] ++ o.flatten)) := List.sublist_append_right _ _
      rw [hrec] at hs
      exact ⟨hm5.agr, ⟨fun p hp => hm5.ok.here p (hs.subset hp), (hs.map _).nodup hm5.ok.nodup, fun p hp => hm5.ok.apart p (hs.subset hp)⟩, hm5.kept, fun p hp => hm5.fresh p (hs.subset hp), hm5.le, hm5.grow, hm5.soft⟩
    · have hl3 : w3.heap[lr]? = some (.loop (rec .done (some c))) := hm4.ok.here (lr, Obj.loop (rec .done (some c))) (by simp [tail])
      have hap3 : ∀ k, H' lr k = none := fun k => hm4.ok.apart (lr, Obj.loop (rec .done (some c))) (by simp [tail]) k
      refine ⟨some c, _, by have := run_endLoop (P := x.P) hl3 (by rw [hrec]; simp); rw [hrec] at this; exact this, ?_⟩
      have hm5 := hm4.go (K := [(lr, Obj.loop (rec .done (some c)))]) (rst := [(D, Obj.deferred (some []))] ++ o.flatten) (by simp [tail]) (Mem.putObj hm4.agr hl3 hap3 (.loop { rec .done (some c) with state := .exhausted }))
      rw [hrec] at hm5
      have hDn : x.w0.heap.size ≤ D := hh.mem.kept.size
      have hJ := hstop D c xs o H' hDn hS hX hle
      have hJ' : c.wpIn (Fw x.r) 0 x.P Q { tmps := a.tmps, defers := mark D :: a.defers } (w3.putObj lr (.loop { rec .done (some c) with state := .exhausted })) := by
        refine hJ _ _ ⟨hh.size, by simp [hh.ds], hh.slots, ?_⟩
        have hs : ([(D, Obj.deferred (some []))] ++ o.flatten).Sublist ([(lr, Obj.loop { rec .done (some c) with state := .exhausted })] ++ ([(D, Obj.deferred (some []))] ++ o.flatten)) := List.sublist_append_right _ _
        rw [hrec] at hs ⊢
        exact ⟨hm5.agr, ⟨fun p hp => hm5.ok.here p (hs.subset hp), (hs.map _).nodup hm5.ok.nodup, fun p hp => hm5.ok.apart p (hs.subset hp)⟩, hm5.kept, fun p hp => hm5.fresh p (hs.subset hp), hm5.le, hm5.grow, hm5.soft⟩
      rw [hFw, hrec] at hJ'
      exact hJ'

/-! ### Leaving a function that holds such a statement -/
def RetM (x : Cx) (fn : Func) (R : Value → List Own → Heaplet → Prop) : Exit → Act → World → Prop :=
  bodyPostM Fence.wide 0 x.P fn (fun e w' => ∃ v K' H', e = .returned v ∧ R v K' H' ∧ Mem x.w0 x.H0 x.S K'.flatten H' w')

theorem Mem.sub {w0 w : World} {H0 H : Heaplet} {S : List Nat} {o o' : Own} (h : Mem w0 H0 S o H w) (hs : o'.Sublist o) : Mem w0 H0 S o' H w :=
  ⟨h.agr, ⟨fun p hp => h.ok.here p (hs.subset hp), (hs.map _).nodup h.ok.nodup, fun p hp => h.ok.apart p (hs.subset hp)⟩, h.kept, fun p hp => h.fresh p (hs.subset hp), h.le, h.grow, h.soft⟩

theorem JN.assigned {L1 : Slots} {Q : Exit → Act → World → Prop} (h : Sub L1 l) : JN x (Exit.then (fun a w => Holds x L1 own H a w) Q .normal) l own H := fun a w hh => hh.sub h

/-- a box is given away -/
theorem JN.pubBox {C : Act → World → Prop} (i : Nat) {g : Nat} {cur : Array Value} {t : TypeId} (hi : own[i]? = some [(g, .cells cur t (0, 0))]) (hg : x.w0.heap.size ≤ g)
    (h : ∀ H', Hle H H' → (∀ o u, cur[o]? = some u → H' g o = some u) → JN x C l (own.set i []) H') : JN x C l own H := fun a w hh => by
  have hm := Mem.pub hh.mem hi hg
  have hgn : ∀ o, H g o = none := fun o => (own_here hh.mem hi).apart (g, .cells cur t (0, 0)) (by simp) o
  refine h _ (fun b o v e => ?_) (fun o u e => by simp [e]) a w ⟨hh.size, hh.ds, hh.slots, hm⟩
  by_cases hb : b = g
  · subst hb; rw [hgn] at e; cases e
  · simp [hb, e]
theorem JL.pubBox (i : Nat) {g : Nat} {cur : Array Value} {t : TypeId} (hi : own[i]? = some [(g, .cells cur t (0, 0))]) (hg : x.w0.heap.size ≤ g)
    (h : ∀ H', Hle H H' → (∀ o u, cur[o]? = some u → H' g o = some u) → JL x ops Q rest l (own.set i []) H') : JL x ops Q rest l own H :=
  JN.pubBox (C := fun a w => wpLs x.P x.r ops Q rest a w) i hi hg h
theorem JC.pubBox {c : Code} (i : Nat) {g : Nat} {cur : Array Value} {t : TypeId} (hi : own[i]? = some [(g, .cells cur t (0, 0))]) (hg : x.w0.heap.size ≤ g)
    (h : ∀ H', Hle H H' → (∀ o u, cur[o]? = some u → H' g o = some u) → JC x c Q l (own.set i []) H') : JC x c Q l own H :=
  JN.pubBox (C := fun a w => c.wpIn (Fw x.r) 0 x.P Q a w) i hi hg h
end Go.Ow
