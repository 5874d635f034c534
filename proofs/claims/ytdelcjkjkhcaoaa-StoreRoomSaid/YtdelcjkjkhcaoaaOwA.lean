/-
  What is proved here: a program logic over the kit's walk of Go functions. A state is a list of known slots, a list of own blocks,
  and a heaplet of cells that stay as they are. Each rule is proved once, for every program.
-/
import Derived.WalkKit
import Derived.ControlIn
import Derived.CallsIn
import Derived.OrdersIn
import Derived.RangeFuncLeaves
namespace Go.Ow
open Go.RowKit
set_option linter.unusedVariables false
set_option linter.unusedSimpArgs false

/-! ### Slots, heaplets, own blocks -/

abbrev Slots := List (Nat × Value)
def lk : Slots → Nat → Option Value
  | [], _ => none
  | (k, v) :: r, i => bif Nat.beq k i then some v else lk r i

abbrev Heaplet := Nat → Nat → Option Value
def Hle (H H' : Heaplet) : Prop := ∀ b o v, H b o = some v → H' b o = some v
theorem Hle.refl (H : Heaplet) : Hle H H := fun _ _ _ h => h
theorem Hle.trans {A B C : Heaplet} (h : Hle A B) (k : Hle B C) : Hle A C := fun b o v e => k b o v (h b o v e)
def Agrees (H : Heaplet) (w : World) : Prop := ∀ b o v, H b o = some v → w.cell? ⟨b, o, none⟩ = some v
theorem Agrees.le {H H' : Heaplet} {w : World} (h : Agrees H' w) (k : Hle H H') : Agrees H w := fun b o v e => h b o v (k b o v e)

abbrev Own := List (Nat × Obj)
def ids (K : Own) : List Nat := K.map (·.1)

/-- 'w' is as 'w0' was, but for the blocks of S and for new ones. -/
structure Kept (S : List Nat) (w0 w : World) : Prop where
  os : w.os = w0.os
  tape : w.tape = w0.tape
  output : w.output = w0.output
  size : w0.heap.size ≤ w.heap.size
  drawn : w0.drawn ≤ w.drawn
  block : ∀ k, k < w0.heap.size → k ∉ S → w.heap[k]? = w0.heap[k]?
theorem Kept.refl (S : List Nat) (w : World) : Kept S w w := ⟨rfl, rfl, rfl, Nat.le_refl _, Nat.le_refl _, fun _ _ _ => rfl⟩
theorem Kept.below {w0 w : World} (h : Kept [] w0 w) : Below w0.heap.size w0 w :=
  ⟨h.os, h.tape, h.output, h.size, fun k hk => h.block k hk (by simp)⟩

structure Cx where
  P : Program
  r : Option Nat
  n : Nat
  w0 : World
  H0 : Heaplet
  S : List Nat
  ds : List Deferred

structure OwnOk (H : Heaplet) (own : Own) (w : World) : Prop where
  here : ∀ p ∈ own, w.heap[p.1]? = some p.2
  nodup : (ids own).Nodup
  apart : ∀ p ∈ own, ∀ o, H p.1 o = none

structure Mem (w0 : World) (H0 : Heaplet) (S : List Nat) (own : Own) (H : Heaplet) (w : World) : Prop where
  agr : Agrees H w
  ok : OwnOk H own w
  kept : Kept S w0 w
  fresh : ∀ p ∈ own, p.1 ∈ S ∨ w0.heap.size ≤ p.1
  le : Hle H0 H
  grow : ∀ b o, b < w0.heap.size → H b o = H0 b o
  soft : ∀ b o v, H0 b o = none → H b o = some v → ∃ cur t, w.heap[b]? = some (.cells cur t (0, 0))
theorem Mem.soft0 {w : World} {H : Heaplet} : ∀ b o v, H b o = none → H b o = some v → ∃ cur t, w.heap[b]? = some (.cells cur t (0, 0)) := fun b o v h0 h => by rw [h0] at h; cases h

structure Holds (x : Cx) (l : Slots) (own : List Own) (H : Heaplet) (a : Act) (w : World) : Prop where
  size : a.tmps.size = x.n
  ds : a.defers = x.ds
  slots : ∀ i v, lk l i = some v → (a.tmps[i]?).getD undef = v
  mem : Mem x.w0 x.H0 x.S own.flatten H w

def Fw (r : Option Nat) : Fence := { fn := fun _ => True, depth := none, alive := false, round := r }
/-- a continuation, from a state -/
def JN (x : Cx) (K : Act → World → Prop) (l : Slots) (own : List Own) (H : Heaplet) : Prop := ∀ a w, Holds x l own H a w → K a w
/-- code, from a state -/
def JC (x : Cx) (c : Code) (Q : Exit → Act → World → Prop) (l : Slots) (own : List Own) (H : Heaplet) : Prop :=
  ∀ a w, Holds x l own H a w → c.wpIn (Fw x.r) 0 x.P Q a w

/-- the operations that are left, in the order of the text -/
def wpLs (P : Program) (r : Option Nat) (ops : Array Oper) (Q : Exit → Act → World → Prop) : List Oper → Act → World → Prop
  | [], a, w => Q .normal a w
  | o :: rest, a, w => if Region.wanted o (yielded ops a.tmps) then o.wpIn (Fw r) 0 P a w (wpLs P r ops Q rest) Q else wpLs P r ops Q rest (a.put o.dst undef) w
def JL (x : Cx) (ops : Array Oper) (Q : Exit → Act → World → Prop) (rest : List Oper) (l : Slots) (own : List Own) (H : Heaplet) : Prop :=
  ∀ a w, Holds x l own H a w → wpLs x.P x.r ops Q rest a w

theorem wpLs_sound {P : Program} {r : Option Nat} {ops : Array Oper} {Q : Exit → Act → World → Prop} : ∀ (rest : List Oper) (k : Nat) (a : Act) (w : World),
    (∀ j, rest[j]? = ops[k + j]?) → wpLs P r ops Q rest a w → wpOpsIn (Fw r) 0 P ops Q (List.range' k rest.length) a w
  | [], k, a, w, _, h => by simpa [wpOpsIn, List.range', wpLs] using h
  | o :: rest, k, a, w, he, h => by
    have h0 : ops[k]? = some o := by simpa using (he 0).symm
    have ih := fun a w => wpLs_sound (P := P) (r := r) (ops := ops) (Q := Q) rest (k + 1) a w (fun j => by have := he (j + 1); simpa [Nat.add_assoc, Nat.add_comm 1 j] using this)
    simp only [List.length_cons, List.range'_succ, wpOpsIn, h0]
    simp only [wpLs] at h
    split
    · rename_i hw; simp only [hw, if_true] at h
      exact Oper.wpIn_mono (fun a w h' => ih a w h') h
    · rename_i hw; simp only [hw] at h
      exact ⟨fun _ _ => trivial, ih _ _ h⟩

theorem JC.region {x : Cx} {id : Nat} {ops : Array Oper} {Q : Exit → Act → World → Prop} {l : Slots} {own : List Own} {H : Heaplet}
    (h : JL x ops Q ops.toList l own H) : JC x (.region id ops false) Q l own H := fun a w hh => by
  refine wpIn_region ?_
  have := wpLs_sound (P := x.P) (r := x.r) (ops := ops) (Q := Q) ops.toList 0 a w (fun j => by simp) (h a w hh)
  rw [List.range_eq_range']
  simpa using this

theorem JL.nil {x : Cx} {ops : Array Oper} {Q : Exit → Act → World → Prop} {l : Slots} {own : List Own} {H : Heaplet}
    (h : JN x (Q .normal) l own H) : JL x ops Q [] l own H := fun a w hh => h a w hh

/-! ### Control -/
section control
variable {x : Cx} {Q : Exit → Act → World → Prop} {l : Slots} {own : List Own} {H : Heaplet}

theorem JC.seq {c d : Code} (h : JC x c (Exit.then (d.wpIn (Fw x.r) 0 x.P Q) Q) l own H) : JC x (.seq c d) Q l own H :=
  fun a w hh => wpIn_seq (h a w hh)
theorem JC.skip (h : JN x (Q .normal) l own H) : JC x .skip Q l own H := fun a w hh => wpIn_skip (h a w hh)
theorem JC.exit {id : Nat} (h : JN x (Q (.exit id)) l own H) : JC x (.exit id) Q l own H := fun a w hh => wpIn_exit (h a w hh)
theorem JC.ret (h : JN x (Q .ret) l own H) : JC x .ret Q l own H := fun a w hh => wpIn_ret (h a w hh)
theorem JC.block {id : Nat} {c : Code} (h : JC x c (Exit.inBlock id Q) l own H) : JC x (.block id c) Q l own H := fun a w hh => wpIn_block (h a w hh)
/-- behind a statement comes the next one -/
theorem JN.next {d : Code} {Q' : Exit → Act → World → Prop} (h : JC x d Q l own H) : JN x (Exit.then (d.wpIn (Fw x.r) 0 x.P Q) Q' .normal) l own H := h
theorem JN.exitSame {id : Nat} (h : JN x (Q .normal) l own H) : JN x (Exit.inBlock id Q (.exit id)) l own H := fun a w hh => by
  show (if id = id then Q .normal a w else Q (.exit id) a w); rw [if_pos rfl]; exact h a w hh
theorem JN.exitOther {id id' : Nat} (hne : Nat.beq id' id = false) (h : JN x (Q (.exit id')) l own H) : JN x (Exit.inBlock id Q (.exit id')) l own H := fun a w hh => by
  show (if id' = id then Q .normal a w else Q (.exit id') a w); rw [if_neg (by intro e; subst e; simp at hne)]; exact h a w hh

def evo (l : Slots) : Operand → Option Value
  | .tmp t => lk l t
  | .const v => some v
  | .global g => some (.pointer (some ⟨g, 0, none⟩))
  | .func f => some (.func (.func f) #[] #[])
theorem eval_of {x : Cx} {a : Act} {w : World} (hh : Holds x l own H a w) {o : Operand} {v : Value} (h : evo l o = some v) : a.eval o = v := by
  rcases o with t | u | g | f
  · have := hh.slots t v h; simpa [Act.eval, Array.getD_eq_getD_getElem?] using this
  · simp [evo] at h; simpa [Act.eval] using h
  · simp [evo] at h; simpa [Act.eval] using h
  · simp [evo] at h; simpa [Act.eval] using h

theorem Holds.set {t : Tmp} {v : Value} {a : Act} {w : World} (hh : Holds x l own H a w) (hv : lk l t = some v) {u : Value} (e : u = v) : Holds x ((t, u) :: l) own H a w :=
  ⟨hh.size, hh.ds, fun i z h => by
    simp only [lk] at h
    cases hb : Nat.beq t i with
    | true =>
      have : t = i := Nat.eq_of_beq_eq_true hb
      subst this; rw [hb] at h; simp at h; subst h; subst e; exact hh.slots t _ hv
    | false => rw [hb] at h; exact hh.slots i z h, hh.mem⟩
theorem JC.cond {c : Tmp} {d e : Code} {t : Bool} (hc : lk l c = some (.bool t)) (ht : t = true → JC x d Q ((c, .bool true) :: l) own H) (hf : t = false → JC x e Q ((c, .bool false) :: l) own H) :
    JC x (.cond (.tmp c) d e) Q l own H := fun a w hh =>
  wpIn_cond_split (t := t) (eval_of hh (o := .tmp c) hc) (fun h => ht h a w (hh.set hc (by rw [h]))) (fun h => hf h a w (hh.set hc (by rw [h])))
theorem JC.condP {c : Tmp} {d e : Code} {p : Prop} [Decidable p] (hc : lk l c = some (.bool (decide p))) (ht : p → JC x d Q ((c, .bool true) :: l) own H) (hf : ¬ p → JC x e Q ((c, .bool false) :: l) own H) :
    JC x (.cond (.tmp c) d e) Q l own H := JC.cond hc (fun h => ht (of_decide_eq_true h)) (fun h => hf (of_decide_eq_false h))
theorem JC.condT {c : Operand} {d e : Code} (hc : evo l c = some (.bool true)) (ht : JC x d Q l own H) : JC x (.cond c d e) Q l own H :=
  fun a w hh => wpIn_cond_true (eval_of hh hc) (ht a w hh)
theorem JC.condF {c : Operand} {d e : Code} (hc : evo l c = some (.bool false)) (ht : JC x e Q l own H) : JC x (.cond c d e) Q l own H :=
  fun a w hh => wpIn_cond_false (eval_of hh hc) (ht a w hh)
theorem JN.passR {K : Act → World → Prop} (h : JN x (Q .ret) l own H) : JN x (Exit.then K Q .ret) l own H := h
theorem JN.passX {K : Act → World → Prop} {id : Nat} (h : JN x (Q (.exit id)) l own H) : JN x (Exit.then K Q (.exit id)) l own H := h
theorem JN.blkN {id : Nat} (h : JN x (Q .normal) l own H) : JN x (Exit.inBlock id Q .normal) l own H := h
theorem JN.blkR {id : Nat} (h : JN x (Q .ret) l own H) : JN x (Exit.inBlock id Q .ret) l own H := h

/-- what is known may be forgotten; what is spelled otherwise, spelled anew -/
def Sub : Slots → Slots → Prop
  | [], _ => True
  | (k, v) :: r, l => lk l k = some v ∧ Sub r l
theorem lk_sub {l l' : Slots} (h : Sub l' l) : ∀ i v, lk l' i = some v → lk l i = some v := by
  induction l' with
  | nil => intro i v e; simp [lk] at e
  | cons p r ih =>
    obtain ⟨k, u⟩ := p
    intro i v e
    simp only [lk] at e
    cases hb : Nat.beq k i with
    | true =>
      rw [hb] at e; simp at e
      have : k = i := Nat.eq_of_beq_eq_true hb
      subst this; subst e; exact h.1
    | false => rw [hb] at e; exact ih h.2 i v e
theorem Holds.sub {l' : Slots} {a : Act} {w : World} (hh : Holds x l own H a w) (h : Sub l' l) : Holds x l' own H a w :=
  ⟨hh.size, hh.ds, fun i v e => hh.slots i v (lk_sub h i v e), hh.mem⟩
theorem JN.sub {K : Act → World → Prop} {l' : Slots} (h : Sub l' l) (hk : JN x K l' own H) : JN x K l own H := fun a w hh => hk a w (hh.sub h)
theorem JC.sub {c : Code} {l' : Slots} (h : Sub l' l) (hk : JC x c Q l' own H) : JC x c Q l own H := fun a w hh => hk a w (hh.sub h)
theorem JL.sub {ops : Array Oper} {rest : List Oper} {l' : Slots} (h : Sub l' l) (hk : JL x ops Q rest l' own H) : JL x ops Q rest l own H := fun a w hh => hk a w (hh.sub h)

/-- a loop: 'L', 'O', 'G': slots, own blocks, heaplet at the head, by a variable; 'I': what holds of it; 'm': the measure -/
theorem JC.loop {ι : Type} {c : Code} (L : ι → Slots) (O : ι → List Own) (G : ι → Heaplet) (I : ι → Prop) (m : ι → Nat) (i₀ : ι) (h0 : I i₀)
    (hl : Sub (L i₀) l) (ho : O i₀ = own) (hg : G i₀ = H)
    (round : ∀ i, I i → JC x c (Exit.then (fun a w => ∃ j, I j ∧ m j < m i ∧ Holds x (L j) (O j) (G j) a w) Q) (L i) (O i) (G i)) :
    JC x (.loop c) Q l own H := fun a w hh => by
  subst ho; subst hg
  let J : Act → World → ι → Prop := fun a w i => I i ∧ Holds x (L i) (O i) (G i) a w
  have key : ∀ k i a w, m i = k → J a w i → ∀ (b : Frame) (kk : List Item) (cs : List Frame), b.roundOf = (Fw x.r).round → (Fw x.r).fn b.fn → (Fw x.r).room (cs.length + 1 + 0) →
      ∃ e a' w', Q e a' w' ∧ ArrivesIn (Machine.fenced x.P (Fw x.r)) x.P (lone (b.atR a (.code c :: .inLoop c :: kk)) cs w) b kk cs e a' w' := by
    intro k
    induction k using Nat.strongRecOn with
    | _ k ih =>
      intro i a w hm hJ b kk cs hro hb hr
      obtain ⟨e, a₁, w₁, hq, harr⟩ := round i hJ.1 a w hJ.2 b (.inLoop c :: kk) cs hro hb hr
      cases e with
      | normal =>
        obtain ⟨j, hj, hlt, hh1⟩ := hq
        obtain ⟨e₂, a₂, w₂, hq₂, harr₂⟩ := ih (m j) (hm ▸ hlt) j a₁ w₁ rfl ⟨hj, hh1⟩ b kk cs hro hb hr
        exact ⟨e₂, a₂, w₂, hq₂, .of_steps (StepsIn.trans harr (.one (fenced_calm hb hr rfl) stepR_inLoop)) harr₂⟩
      | exit id => exact ⟨_, a₁, w₁, hq, .pass (x := .inLoop c) rfl (fun _ _ => .inl (by simp)) harr⟩
      | goto l => exact ⟨_, a₁, w₁, hq, .pass (x := .inLoop c) rfl (fun _ _ => .inl (by simp)) harr⟩
      | ret => exact ⟨_, a₁, w₁, hq, .pass (x := .inLoop c) rfl (fun _ _ => .inl (by simp)) harr⟩
      | panic ch => exact ⟨_, a₁, w₁, hq, .pass (x := .inLoop c) rfl (fun _ _ => .inl (by simp)) harr⟩
      | outgrown => exact ⟨_, a₁, w₁, hq, .pass (x := .inLoop c) rfl (fun _ _ => .inl (by simp)) harr⟩
  intro b kk cs hro hb hr
  obtain ⟨e, a', w', hq, harr⟩ := key _ i₀ a w rfl ⟨h0, hh.sub hl⟩ b kk cs hro hb hr
  exact ⟨e, a', w', hq, .of_steps (.one (fenced_calm hb hr rfl) stepR_loop) harr⟩

/-- the end of a round -/
theorem JN.again {ι : Type} {L : ι → Slots} {O : ι → List Own} {G : ι → Heaplet} {I : ι → Prop} {m : ι → Nat} {i : ι} (j : ι)
    (hj : I j) (hm : m j < m i) (hl : Sub (L j) l) (ho : O j = own) (hg : G j = H) :
    JN x (Exit.then (fun a w => ∃ j, I j ∧ m j < m i ∧ Holds x (L j) (O j) (G j) a w) Q .normal) l own H :=
  fun a w hh => ⟨j, hj, hm, by rw [ho, hg]; exact hh.sub hl⟩
end control

/-! ### Functions -/

/-- what a call of 'f' does: from K (blocks that it may change) and H to a value, K', H' -/
def Does (P : Program) (f : FuncId) (args : Array Value) (K : List Own) (H : Heaplet) (R : Value → List Own → Heaplet → Prop) : Prop :=
  ∀ w, Agrees H w → OwnOk H K.flatten w → CallsIn Fence.wide 0 P f args w fun e w' => ∃ v K' H', e = .returned v ∧ R v K' H' ∧ Mem w H (ids K.flatten) K'.flatten H' w'

theorem Does.mono {P : Program} {f : FuncId} {args : Array Value} {K : List Own} {H : Heaplet} {R R' : Value → List Own → Heaplet → Prop} (h : Does P f args K H R)
    (hr : ∀ v K' H', R v K' H' → R' v K' H') : Does P f args K H R' := fun w ha hk =>
  CallsIn.mono (h w ha hk) fun e w' ⟨v, K', H', he, hR, hm⟩ => ⟨v, K', H', he, hr _ _ _ hR, hm⟩

/-- the way out of a function: the result is told from the state -/
def Ret (x : Cx) (fn : Func) (R : Value → List Own → Heaplet → Prop) : Exit → Act → World → Prop :=
  bodyPost x.P fn (fun e w' => ∃ v K' H', e = .returned v ∧ R v K' H' ∧ Mem x.w0 x.H0 x.S K'.flatten H' w')

theorem lk_args (vs : List Value) : ∀ (k i : Nat) (v : Value), lk ((List.range' k vs.length).zip vs) i = some v → k ≤ i ∧ vs[i - k]? = some v := by
  induction vs with
  | nil => intro k i v h; simp [lk] at h
  | cons u vs ih =>
    intro k i v h
    simp only [List.length_cons, List.range'_succ, List.zip_cons_cons, lk] at h
    cases hb : Nat.beq k i with
    | true =>
      have e : k = i := Nat.eq_of_beq_eq_true hb
      subst e; rw [hb] at h; simp at h; subst h; simp
    | false =>
      have ne : k ≠ i := by intro e; subst e; simp at hb
      rw [hb] at h
      obtain ⟨h1, h2⟩ := ih (k + 1) i v h
      refine ⟨by omega, ?_⟩
      rw [show i - k = (i - (k + 1)) + 1 by omega]; simpa using h2

/-- entering a function -/
theorem Does.enter {P : Program} {f : FuncId} {fn : Func} {c : Code} {vs : List Value} {K : List Own} {H : Heaplet} {R : Value → List Own → Heaplet → Prop} {l : Slots}
    (hf : P.funcs[f]? = some fn) (hb : fn.body = some c) (hn : Nat.ble vs.length fn.ntmps = true) (hl : Sub l ((List.range' 0 vs.length).zip vs))
    (h : ∀ w, JC { P := P, r := none, n := fn.ntmps, w0 := w, H0 := H, S := ids K.flatten, ds := [] } c
      (Ret { P := P, r := none, n := fn.ntmps, w0 := w, H0 := H, S := ids K.flatten, ds := [] } fn R) l K H) : Does P f vs.toArray K H R := fun w ha hk => by
  have hn := Nat.le_of_ble_eq_true hn
  refine callsIn_of_wp hf hb trivial ?_
  refine h w _ w ⟨?_, rfl, ?_, ⟨ha, hk, Kept.refl _ _, fun p hp => .inl (List.mem_map_of_mem hp), Hle.refl _, fun _ _ _ => rfl, Mem.soft0⟩⟩
  · simp; omega
  · intro i v e
    obtain ⟨_, h2⟩ := lk_args vs 0 i v (lk_sub hl i v e)
    have hi : i < vs.length := by
      rcases Nat.lt_or_ge i vs.length with h' | h'
      · exact h'
      · simp [List.getElem?_eq_none h'] at h2
    have h3 : vs[i] = v := by simpa [List.getElem?_eq_getElem hi] using h2
    have : i < (vs.toArray ++ Array.replicate (fn.ntmps - vs.toArray.size) undef).size := by simp; omega
    simp only [Array.getD_eq_getD_getElem?, Array.getElem?_eq_getElem this, Option.getD_some]
    rw [Array.getElem_append_left (by simpa using hi)]
    simpa using h3

/-- leaving it: one result -/
theorem JN.out1 {x : Cx} {fn : Func} {R : Value → List Own → Heaplet → Prop} {l : Slots} {own : List Own} {H : Heaplet} {t : Tmp} {v : Value} {e : Exit} (he : e = .ret ∨ e = .normal)
    (hr : fn.results = #[.tmp t]) (hd : x.ds = []) (hv : lk l t = some v) (h : R v own H) : JN x (Ret x fn R e) l own H := fun a w hh => by
  have : bodyPost x.P fn (fun e w' => ∃ v K' H', e = .returned v ∧ R v K' H' ∧ Mem x.w0 x.H0 x.S K'.flatten H' w') .ret a w :=
    ⟨hh.ds.trans hd, v, by simp [results, hr, go_sem, hh.slots t v hv], v, own, H, rfl, h, hh.mem⟩
  rcases he with rfl | rfl <;> exact this
theorem JN.out0 {x : Cx} {fn : Func} {R : Value → List Own → Heaplet → Prop} {l : Slots} {own : List Own} {H : Heaplet} {e : Exit} (he : e = .ret ∨ e = .normal)
    (hr : fn.results = #[]) (hd : x.ds = []) (h : R (.tuple #[]) own H) : JN x (Ret x fn R e) l own H := fun a w hh => by
  have : bodyPost x.P fn (fun e w' => ∃ v K' H', e = .returned v ∧ R v K' H' ∧ Mem x.w0 x.H0 x.S K'.flatten H' w') .ret a w :=
    ⟨hh.ds.trans hd, _, by simp [results, hr, go_sem], _, own, H, rfl, h, hh.mem⟩
  rcases he with rfl | rfl <;> exact this

end Go.Ow
