/-
  What is proved here: iterators that are functions of the program, with cells of their own; over OwZC.
-/
import Derived.Test.YtdelcjkjkhcaoaaOwZC
namespace Go.Ow
open Go.RowKit
set_option linter.unusedVariables false
set_option linter.unusedSimpArgs false

variable {x : Cx} {ops : Array Oper} {Q : Exit → Act → World → Prop} {rest : List Oper} {l : Slots} {own : List Own} {H HF : Heaplet}
variable {ty : TypeId} {d : Nat} {pos : String} {aft : Array Edge}

/-- what is known of whom one yields to: it goes on (.inl), or has stopped -/
def IX {σ τ : Type} (I : σ → Own → Heaplet → Prop) (X : τ → Own → Heaplet → Prop) (r : σ ⊕ τ) (O : Own) (H : Heaplet) : Prop :=
  ∃ H1, Hle H1 H ∧ (match r with | .inl s => I s O H1 | .inr t => X t O H1)
theorem IX.mono {σ τ : Type} {I : σ → Own → Heaplet → Prop} {X : τ → Own → Heaplet → Prop} {r : σ ⊕ τ} {O : Own} {H H' : Heaplet} (h : IX I X r O H) (hle : Hle H H') : IX I X r O H' := by
  obtain ⟨H1, h1, h2⟩ := h; exact ⟨H1, h1.trans hle, h2⟩
def YSpecG {α σ τ : Type} (P : Program) (lr : Nat) (RA : Heaplet → Array Value → α → Prop) (Y : α → σ → Option (σ ⊕ τ)) (I : σ → Own → Heaplet → Prop) (X : τ → Own → Heaplet → Prop) : Prop :=
  ∀ y s args O H w out, IX I X (.inl s) O H → RA H args y → Y y s = some out → Agrees H w → OwnOk H O w →
    Yields P lr args w fun e w' => ∃ O' H', e = .returned (.bool out.isLeft) ∧ Mem w H (ids O) O' H' w' ∧ IX I X out O' H'

/-- a call of yield -/
theorem JL.yieldG {α σ τ : Type} {RA : Heaplet → Array Value → α → Prop} {Y : α → σ → Option (σ ⊕ τ)} {I : σ → Own → Heaplet → Prop} {X : τ → Own → Heaplet → Prop} {lr : Nat} {c : Operand} {as : Array Operand} {ts : Array TypeId} {vs : List Value} {O : Own} {s : σ} (i : Nat) (y : α)
    {out : σ ⊕ τ} (hb : Y y s = some out) (hY : YSpecG x.P lr RA Y I X) (hc : evo l c = some (.func (.yield lr) #[] #[])) (ha : as.toList.mapM (evo l) = some vs) (hi : own[i]? = some O) (hI : IX I X (.inl s) O H) (hy : RA H vs.toArray y) (hd : Nat.blt d x.n = true)
    (hT : ∀ s' O' H', Hle H H' → IX I X (.inl s') O' H' → out = .inl s' → JL x ops Q rest ((d, .bool true) :: l) (own.set i O') H')
    (hF : ∀ t O' H', Hle H H' → IX I X (.inr t) O' H' → out = .inr t → JL x ops Q rest ((d, .bool false) :: l) (own.set i O') H') :
    JL x ops Q (⟨some d, .call ⟨.value c, as, ts⟩, ty, pos, aft, none⟩ :: rest) l own H := fun a w hh => by
  simp only [wpLs, wanted_none, if_true]
  refine ⟨fun _ _ => trivial, ?_⟩
  have hm := hh.mem
  have hok : OwnOk H O w := own_here hm hi
  obtain ⟨fn, tmps, assign, body, hrun0, hround⟩ := hY y s vs.toArray O H w out hI hy hb hm.agr hok
  have hrun : (execOp a.eval ⟨some d, .call ⟨.value c, as, ts⟩, ty, pos, aft, none⟩).run x.P w = .ok (.round lr fn tmps assign body) w := by
    have e1 := eval_of hh hc
    have e2 := mapM_eval (fun o u e => eval_of hh e) ha
    simp only [execOp, resolve, e1, e2, Deferred.ofValue, Sem.run_bind, Sem.run_pure, Result.andThen, invoke]
    simpa using hrun0
  rw [semAt_of rfl, hrun]
  show (_ → _) ∧ RoundIn _ _ _ _ _ _ _ _ _ _
  refine ⟨fun e => by simp [Fw] at e, ?_⟩
  refine RoundIn.mono (show RoundIn (Fw x.r) (0 - 1) x.P lr fn tmps assign body w _ from hround) ?_
  rintro e w' ⟨O', H', rfl, hm', hb'⟩
  have hm2 : Mem x.w0 x.H0 x.S (own.set i O').flatten H' w' := hm.go1 hi hm'
  cases out with
  | inl s' => exact hT s' O' H' hm'.le hb' rfl _ _ (Holds.put (x := x) (l := l) ⟨hh.size, hh.ds, hh.slots, hm2⟩ hd _)
  | inr t => exact hF t O' H' hm'.le hb' rfl _ _ (Holds.put (x := x) (l := l) ⟨hh.size, hh.ds, hh.slots, hm2⟩ hd _)
theorem JC.rangeG {α σ τ : Type} (hr : x.r = none) {g : Operand} {ps : Array Tmp} {assign body : Code} {gf : FuncId} {cap : Array Value} {RA : Heaplet → Array Value → α → Prop}
    (bd : α → σ → Option (σ ⊕ τ)) (s0 : σ) (tt : σ ⊕ τ) (I : σ → List Own → Heaplet → Prop) (X : τ → Code → List Own → Heaplet → Prop) (M : List Own → Heaplet → Prop) (mine own2 : List Own)
    (hg : evo l g = some (.func (.func gf) #[] cap)) (he : Enters x.P gf) (hown : own = mine ++ own2)
    (hit : ∀ (lr : Nat) (I' : σ → Own → Heaplet → Prop) (X' : τ → Own → Heaplet → Prop) (O : Own), YSpecG x.P lr RA bd I' X' → IX I' X' (.inl s0) O H →
      Does x.P gf (#[.func (.yield lr) #[] #[]] ++ cap) (mine ++ [O]) H (fun u K' H' => ∃ m' O', K' = m' ++ [O'] ∧ M m' H' ∧ IX I' X' tt O' H'))
    (hps : ∀ H args y, RA H args y → args.size = ps.size) (hlt : ps.toList.all (fun p => Nat.blt p x.n) = true)
    (h0 : I s0 own2 H)
    (hround : ∀ (lr : Nat) (y : α) (s : σ) (args : Array Value) (o : List Own) (H1 H' : Heaplet) (out : σ ⊕ τ), Hle H1 H' → I s o H1 → RA H' args y → bd y s = some out → ∃ L1 : Slots,
      (∀ wb, x.w0.heap.size ≤ wb.heap.size → JC { x with r := some lr, w0 := wb, H0 := H', S := ids o.flatten, ds := [] } assign
        (Exit.then (fun a w => Holds { x with r := some lr, w0 := wb, H0 := H', S := ids o.flatten, ds := [] } L1 o H' a w) (fun _ _ _ => False)) ((ps.toList.zip args.toList).reverse ++ l) o H') ∧
      (∀ wb, x.w0.heap.size ≤ wb.heap.size → JC { x with r := some lr, w0 := wb, H0 := H', S := ids o.flatten, ds := [] } body (RoundS I X out wb H' (ids o.flatten)) L1 o H'))
    (hdone : ∀ (D : Nat) (s : σ) (m' o : List Own) (H1 H' : Heaplet), x.w0.heap.size ≤ D → tt = .inl s → M m' H' → Hle H1 H' → I s o H1 → Hle H H' → JN { x with ds := mark D :: x.ds } (Q .normal) l ([(D, .deferred (some []))] :: (m' ++ o)) H')
    (hstop : ∀ (D : Nat) (c : Code) (e : τ) (m' o : List Own) (H1 H' : Heaplet), x.w0.heap.size ≤ D → tt = .inr e → M m' H' → Hle H1 H' → X e c o H1 → Hle H H' → JC { x with ds := mark D :: x.ds } c Q l ([(D, .deferred (some []))] :: (m' ++ o)) H') :
    JC x (.rangeFunc g ps assign body) Q l own H := fun a w hh => by
  have hFw : Fw x.r = Fence.wide := by rw [hr]; rfl
  rw [hFw]
  refine wpIn_rangeFunc ?_
  intro fn hfn
  -- the two blocks
  obtain ⟨rec, hrec⟩ : ∃ rec : LoopState → Option Code → Loop, rec = fun st pe => { state := st, pending := pe, fn, tmps := a.tmps, params := ps, assign, body, defers := w.heap.size } := ⟨_, rfl⟩
  have hm1 := hh.mem.go0 (K' := [[(w.heap.size, .deferred (some []))]]) (by simpa using Mem.alloc hh.mem.agr (.deferred (some [])))
  have hm2 := hm1.go0 (K' := [[((w.alloc (.deferred (some []))).heap.size, .loop (rec .ready none))]]) (by simpa using Mem.alloc hm1.agr (.loop (rec .ready none)))
  have hsz : (w.alloc (.deferred (some []))).heap.size = w.heap.size + 1 := by simp
  rw [hsz] at hm2
  obtain ⟨W, hW⟩ : ∃ W, W = (w.alloc (.deferred (some []))).alloc (.loop (rec .ready none)) := ⟨_, rfl⟩
  rw [← hW] at hm2
  let D := w.heap.size
  let lr := w.heap.size + 1
  have hD : D ≠ lr := by simp [D, lr]
  -- the invariant with its two blocks of book-keeping
  let tail : LoopState → Option Code → Own := fun st pe => [(lr, Obj.loop (rec st pe)), (D, Obj.deferred (some []))]
  let I' : σ → Own → Heaplet → Prop := fun s O H' => ∃ o : List Own, O = tail .ready none ++ o.flatten ∧ I s o H'
  let X' : τ → Own → Heaplet → Prop := fun e O H' => ∃ (o : List Own) (c : Code), O = tail .done (some c) ++ o.flatten ∧ X e c o H'
  refine ⟨lr, [mark D], W, { target := .fn (.func gf) cap, args := #[.func (.yield lr) #[] #[]] }, W, gf, #[.func (.yield lr) #[] #[]] ++ cap, W, ?_, ?_, fun _ _ => trivial, ?_, fun e => by simp [Fence.wide] at e, ?_⟩
  · rw [hW, hrec]; exact run_enterLoop_outer _ _ _ _ _
  · have e1 := eval_of hh hg
    simp only [resolve, e1]
    simp [go_sem, Act.eval, Deferred.ofValue, lr]
  · simp only [invoke]; exact he _ _
  · have hY : YSpecG x.P lr RA bd I' X' := by
      rintro y s args O H' w1 out ⟨H1', hle1, o, rfl, hI⟩ hy hbd hag hok
      have hsize := hps _ _ _ hy
      have hrecs : w1.heap[lr]? = some (.loop (rec .ready none)) := hok.here (lr, Obj.loop (rec .ready none)) (by simp [tail])
      have hapr : ∀ k, H' lr k = none := fun k => hok.apart (lr, Obj.loop (rec .ready none)) (by simp [tail]) k
      have hyld := run_yield (P := x.P) (args := args) hrecs (by rw [hrec]; exact hsize)
      rw [hrec] at hyld
      refine ⟨fn, _, assign, body, hyld, ?_⟩
      obtain ⟨L1, hA, hB⟩ := hround lr y s args o H1' H' out hle1 hI hy hbd
      refine roundIn_of_wpIn (F := Fence.wide) trivial ?_
      have hput := puts_holds (x := x) (own := own) (H := H) (w := w) x.n ps.toList args.toList a.tmps l hh.size hlt hh.slots
      have hfold : ((ps.zip args).foldl (fun t (p, v) => t.setIfInBounds p v) a.tmps) = ((ps.toList.zip args.toList).foldl (fun t (p, v) => t.setIfInBounds p v) a.tmps) := by
        rw [← Array.foldl_toList]; simp
      have hok2 : OwnOk H' o.flatten w1 := by
        exact OwnOk.right hok
      have hmo : Mem w1 H' (ids o.flatten) o.flatten H' w1 := Mem.same hag hok2
      refine wpIn_mono (Q := Exit.then (fun a w => Holds { x with r := some lr, w0 := w1, H0 := H', S := ids o.flatten, ds := [] } L1 o H' a w) (fun _ _ _ => False)) ?_ ?_
      · rw [hfold]
        have hDs : D < w1.heap.size := (Array.getElem?_eq_some_iff.1 (hok.here (D, Obj.deferred (some [])) (by simp [tail]))).1
        exact hA w1 (Nat.le_trans hh.mem.kept.size (Nat.le_of_lt hDs)) { tmps := _, defers := [] } w1 ⟨hput.1, rfl, hput.2, hmo⟩
      · rintro e a1 w2 hh1
        cases e with
        | normal =>
          have hh1 : Holds { x with r := some lr, w0 := w1, H0 := H', S := ids o.flatten, ds := [] } L1 o H' a1 w2 := hh1
          -- the assignments have turned nothing of the book-keeping
          have hlt1 : lr < w1.heap.size := (Array.getElem?_eq_some_iff.1 hrecs).1
          have hnd := hok.nodup
          have hlro : lr ∉ ids o.flatten := fun hmem => by
            simp only [tail, ids, List.map_append, List.nodup_append] at hnd
            exact hnd.2.2 lr (by simp) lr hmem rfl
          have hDo : D ∉ ids o.flatten := fun hmem => by
            simp only [tail, ids, List.map_append, List.nodup_append] at hnd
            exact hnd.2.2 D (by simp) D hmem rfl
          have hr2 : w2.heap[lr]? = some (.loop (rec .ready none)) := by rw [hh1.mem.kept.block lr hlt1 hlro]; exact hrecs
          -- the whole memory at the round's begin, seen from w1
          have hmw1 : Mem w1 H' (ids (tail .ready none ++ o.flatten)) (tail .ready none ++ o.flatten) H' w1 := Mem.same hag hok
          have hmw2 : Mem w1 H' (ids (tail .ready none ++ o.flatten)) (o.flatten ++ (tail .ready none)) H' w2 :=
            hmw1.go (K := o.flatten) (rst := (tail .ready none)) List.perm_append_comm hh1.mem
          have hbr := run_beginRound (P := x.P) hr2 (by rw [hrec])
          refine ⟨_, hbr, ?_⟩
          have hmw3 : Mem w1 H' (ids (tail .ready none ++ o.flatten)) ([(lr, Obj.loop { rec .ready none with state := .busy })] ++ (([(D, Obj.deferred (some []))] : Own) ++ o.flatten)) H' (w2.putObj lr (.loop { rec .ready none with state := .busy })) := by
            refine hmw2.go (K := [(lr, Obj.loop (rec .ready none))]) (rst := [(D, Obj.deferred (some []))] ++ o.flatten) ?_ ?_
            · simp only [tail]
              refine List.perm_append_comm.trans ?_
              simp
            · exact Mem.putObj hh1.mem.agr hr2 hapr _
          have hDs : D < w1.heap.size := (Array.getElem?_eq_some_iff.1 (hok.here (D, Obj.deferred (some [])) (by simp [tail]))).1
          have hsz2 : x.w0.heap.size ≤ (w2.putObj lr (.loop { rec .ready none with state := .busy })).heap.size := by
            have h1 := hh.mem.kept.size
            have h2 : w1.heap.size ≤ w2.heap.size := hh1.mem.kept.size
            have h5 : w.heap.size < w1.heap.size := hDs
            exact Nat.le_trans (Nat.le_trans h1 (Nat.le_trans (Nat.le_of_lt h5) h2)) (by simp)
          refine wpIn_mono (hB (w2.putObj lr (.loop { rec .ready none with state := .busy })) hsz2 a1 _ ⟨hh1.size, hh1.ds, hh1.slots, Mem.same hmw3.agr ?_⟩) ?_
          · exact OwnOk.right (OwnOk.right hmw3.ok)
          · -- the round's end
            have fin : ∀ (jump : Option Code) (o1 : List Own) (H1 : Heaplet) (w3 : World), Mem (w2.putObj lr (.loop { rec .ready none with state := .busy })) H' (ids o.flatten) o1.flatten H1 w3 →
                (Instr.endRound lr jump).run x.P w3 = .ok (.bool jump.isNone) (w3.putObj lr (.loop (rec (if jump.isNone then .ready else .done) jump))) ∧
                Mem w1 H' (ids (tail .ready none ++ o.flatten)) (tail (if jump.isNone then .ready else .done) jump ++ o1.flatten) H1 (w3.putObj lr (.loop (rec (if jump.isNone then .ready else .done) jump))) := by
              intro jump o1 H1 w3 hm3
              have hm4 : Mem w1 H' (ids (tail .ready none ++ o.flatten)) (o1.flatten ++ ([(lr, Obj.loop { rec .ready none with state := .busy })] ++ [(D, Obj.deferred (some []))])) H1 w3 := by
                refine hmw3.go (K := o.flatten) (rst := [(lr, Obj.loop { rec .ready none with state := .busy })] ++ [(D, Obj.deferred (some []))]) ?_ hm3
                rw [← List.append_assoc]; exact List.perm_append_comm
              have hl3 : w3.heap[lr]? = some (.loop { rec .ready none with state := .busy }) := hm4.ok.here (lr, Obj.loop { rec .ready none with state := .busy }) (by simp)
              have hap3 : ∀ k, H1 lr k = none := fun k => hm4.ok.apart (lr, Obj.loop { rec .ready none with state := .busy }) (by simp) k
              have hend := run_endRound (P := x.P) jump hl3
              rw [hrec] at hend ⊢
              refine ⟨hend, ?_⟩
              have := hm4.go (K := [(lr, Obj.loop { rec .ready none with state := .busy })]) (rst := o1.flatten ++ [(D, Obj.deferred (some []))]) (by
                refine (List.perm_append_comm (l₁ := o1.flatten)).trans ?_
                rw [List.append_assoc]
                exact List.Perm.append_left _ List.perm_append_comm) (Mem.putObj hm4.agr hl3 hap3 (.loop { rec .ready none with state := if jump.isNone then .ready else .done, pending := jump }))
              rw [hrec] at this
              refine Mem.perm this ?_
              simp only [tail, hrec]
              exact List.Perm.append_left [_] (List.perm_append_comm (l₁ := o1.flatten) (l₂ := [(D, Obj.deferred (some []))]))
            rintro e2 a3 w3 hp
            cases e2 with
            | normal =>
              obtain ⟨s', o1, H1, rfl, hm3, hI1⟩ := hp
              obtain ⟨hend, hm5⟩ := fin none o1 H1 w3 hm3
              exact ⟨_, _, hend, _, H1, rfl, hm5, H1, Hle.refl _, o1, rfl, hI1⟩
            | ret =>
              obtain ⟨t, o1, H1, rfl, hm3, hX1⟩ := hp
              obtain ⟨hend, hm5⟩ := fin (some .ret) o1 H1 w3 hm3
              exact ⟨_, _, hend, _, H1, rfl, hm5, H1, Hle.refl _, o1, .ret, rfl, hX1⟩
            | exit id =>
              obtain ⟨t, o1, H1, rfl, hm3, hX1⟩ := hp
              obtain ⟨hend, hm5⟩ := fin (some (.exit id)) o1 H1 w3 hm3
              exact ⟨_, _, hend, _, H1, rfl, hm5, H1, Hle.refl _, o1, .exit id, rfl, hX1⟩
            | goto t => exact hp.elim
            | panic ch => exact hp.elim
            | outgrown => exact hp.elim
        | exit id => exact hh1.elim
        | goto t => exact hh1.elim
        | ret => exact hh1.elim
        | panic ch => exact hh1.elim
        | outgrown => exact hh1.elim
    -- the iterator
    have hD0 := hit lr I' X' (tail .ready none ++ own2.flatten) hY ⟨H, Hle.refl _, own2, rfl, h0⟩
    have hmW : Mem x.w0 x.H0 x.S (mine ++ [tail .ready none ++ own2.flatten]).flatten H W := by
      refine (show Mem x.w0 x.H0 x.S (tail .ready none ++ own.flatten) H W by simpa [tail, D, lr] using hm2).perm ?_
      rw [hown]
      simp only [List.flatten_append, List.flatten_cons, List.flatten_nil, List.append_nil]
      exact (List.append_assoc (tail .ready none) mine.flatten own2.flatten) ▸ (List.Perm.append_right own2.flatten (List.perm_append_comm (l₁ := tail .ready none) (l₂ := mine.flatten))).trans (by rw [List.append_assoc])
    refine CallsIn.mono (hD0 W hmW.agr hmW.ok) ?_
    rintro e w3 ⟨v, K', H', rfl, ⟨m', O', rfl, hM, hcase⟩, hm3⟩
    have hle : Hle H H' := hm3.le
    have hm4' : Mem x.w0 x.H0 x.S (m' ++ [O']).flatten H' w3 := by
      have := hmW.go (K := (mine ++ [tail .ready none ++ own2.flatten]).flatten) (rst := []) (by simp) hm3
      simpa using this
    obtain ⟨H1, hle1, hcase⟩ := hcase
    have hmk : ∀ (T o : Own), O' = T ++ o → Mem x.w0 x.H0 x.S (T ++ (m'.flatten ++ o)) H' w3 := fun T o e => by
      refine hm4'.perm ?_
      rw [e]
      simp only [List.flatten_append, List.flatten_cons, List.flatten_nil, List.append_nil]
      rw [← List.append_assoc, ← List.append_assoc]
      exact List.Perm.append_right o List.perm_append_comm
    cases tt with
    | inl s =>
      obtain ⟨o, hO, hI⟩ := hcase
      have hm4 := hmk _ _ hO
      have hl3 : w3.heap[lr]? = some (.loop (rec .ready none)) := hm4.ok.here (lr, Obj.loop (rec .ready none)) (by simp [tail])
      have hap3 : ∀ k, H' lr k = none := fun k => hm4.ok.apart (lr, Obj.loop (rec .ready none)) (by simp [tail]) k
      refine ⟨none, _, by have := run_endLoop (P := x.P) hl3 (by rw [hrec]; simp); rw [hrec] at this; exact this, ?_⟩
      have hm5 := hm4.go (K := [(lr, Obj.loop (rec .ready none))]) (rst := [(D, Obj.deferred (some []))] ++ (m'.flatten ++ o.flatten)) (by simp [tail]) (Mem.putObj hm4.agr hl3 hap3 (.loop { rec .ready none with state := .exhausted }))
      rw [hrec] at hm5
      have hDn : x.w0.heap.size ≤ D := hh.mem.kept.size
      refine hdone D s m' o H1 H' hDn rfl hM hle1 hI hle _ _ ⟨hh.size, by simp [hh.ds], hh.slots, ?_⟩
      have hs : ([(D, Obj.deferred (some []))] ++ (m'.flatten ++ o.flatten)).Sublist ([(lr, Obj.loop { rec .ready none with state := .exhausted })] ++ ([(D, Obj.deferred (some []))] ++ (m'.flatten ++ o.flatten))) := List.sublist_append_right _ _
      rw [hrec] at hs
      rw [List.flatten_cons, List.flatten_append]
      exact hm5.sub hs
    | inr e =>
      obtain ⟨o, c, hO, hX⟩ := hcase
      have hm4 := hmk _ _ hO
      have hl3 : w3.heap[lr]? = some (.loop (rec .done (some c))) := hm4.ok.here (lr, Obj.loop (rec .done (some c))) (by simp [tail])
      have hap3 : ∀ k, H' lr k = none := fun k => hm4.ok.apart (lr, Obj.loop (rec .done (some c))) (by simp [tail]) k
      refine ⟨some c, _, by have := run_endLoop (P := x.P) hl3 (by rw [hrec]; simp); rw [hrec] at this; exact this, ?_⟩
      have hm5 := hm4.go (K := [(lr, Obj.loop (rec .done (some c)))]) (rst := [(D, Obj.deferred (some []))] ++ (m'.flatten ++ o.flatten)) (by simp [tail]) (Mem.putObj hm4.agr hl3 hap3 (.loop { rec .done (some c) with state := .exhausted }))
      rw [hrec] at hm5
      have hDn : x.w0.heap.size ≤ D := hh.mem.kept.size
      have hJ := hstop D c e m' o H1 H' hDn rfl hM hle1 hX hle
      have hJ' : c.wpIn (Fw x.r) 0 x.P Q { tmps := a.tmps, defers := mark D :: a.defers } (w3.putObj lr (.loop { rec .done (some c) with state := .exhausted })) := by
        refine hJ _ _ ⟨hh.size, by simp [hh.ds], hh.slots, ?_⟩
        have hs : ([(D, Obj.deferred (some []))] ++ (m'.flatten ++ o.flatten)).Sublist ([(lr, Obj.loop { rec .done (some c) with state := .exhausted })] ++ ([(D, Obj.deferred (some []))] ++ (m'.flatten ++ o.flatten))) := List.sublist_append_right _ _
        rw [hrec] at hs ⊢
        rw [List.flatten_cons, List.flatten_append]
        exact hm5.sub hs
      rw [hFw, hrec] at hJ'
      exact hJ'
end Go.Ow
