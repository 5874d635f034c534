/-
  What is proved here: one rule for each operation that computes, reads an own block, or makes one; over OwA.
-/
import Derived.Test.YtdelcjkjkhcaoaaOwA
namespace Go.Ow
open Go.RowKit
set_option linter.unusedVariables false
set_option linter.unusedSimpArgs false

variable {x : Cx} {ops : Array Oper} {Q : Exit → Act → World → Prop} {rest : List Oper} {l : Slots} {own : List Own} {H : Heaplet}

theorem Holds.put {a : Act} {w : World} (hh : Holds x l own H a w) {d : Nat} (hd : Nat.blt d x.n = true) (v : Value) :
    Holds x ((d, v) :: l) own H (a.put (some d) v) w := by
  have hlt : d < a.tmps.size := by rw [hh.size]; exact Nat.lt_of_lt_of_le (Nat.lt_succ_self d) (Nat.le_of_ble_eq_true hd)
  refine ⟨by simpa [Act.put] using hh.size, by simpa [Act.put] using hh.ds, fun i u e => ?_, hh.mem⟩
  simp only [lk] at e
  cases hb : Nat.beq d i with
  | true =>
    have : d = i := Nat.eq_of_beq_eq_true hb
    subst this; rw [hb] at e; simp at e; subst e
    simp [Act.put, Array.getElem?_setIfInBounds, hlt]
  | false =>
    have : d ≠ i := by intro h; subst h; simp at hb
    rw [hb] at e
    have := hh.slots i u e
    simp [Act.put, Array.getElem?_setIfInBounds, *]

/-- these own blocks, and this heaplet, are there -/
def Stab (so : List Own) (sH : Heaplet) (w : World) : Prop := Agrees sH w ∧ ∀ p ∈ so.flatten, w.heap[p.1]? = some p.2
theorem Mem.stab {w0 : World} {H0 : Heaplet} {S : List Nat} {w : World} (hm : Mem w0 H0 S own.flatten H w) : Stab own H w := ⟨hm.agr, hm.ok.here⟩
/-- an operation that yields this value and leaves the world -/
def Runs (x : Cx) (op : Op) (ty : TypeId) (l : Slots) (own : List Own) (H : Heaplet) (v : Value) : Prop :=
  ∀ (ρ : Operand → Value) (w : World) (d : Option Tmp) (pos : String) (aft : Array Edge) (g : Option (Nat × Bool)), (∀ o u, evo l o = some u → ρ o = u) →
    Stab own H w → (execOp ρ ⟨d, op, ty, pos, aft, g⟩).run x.P w = .ok (.value v) w

theorem wanted_none {ops : Array Oper} {d : Option Tmp} {op : Op} {ty : TypeId} {pos : String} {aft : Array Edge} {a : Act} :
    Region.wanted ⟨d, op, ty, pos, aft, none⟩ (yielded ops a.tmps) = true := rfl

def noDefer : Op → Bool
  | .defer _ => false
  | _ => true
theorem semAt_of {ro : Option Nat} {ρ : Operand → Value} {o : Oper} (h : noDefer o.op = true) : o.semAt ro ρ = execOp ρ o :=
  Oper.semAt_eq ro ρ o (fun c e => by rw [e] at h; cases h)

theorem JL.val {op : Op} {ty : TypeId} {d : Nat} {pos : String} {aft : Array Edge} {v : Value} (hd : Nat.blt d x.n = true) (hn : noDefer op = true)
    (hr : Runs x op ty l own H v) (h : JL x ops Q rest ((d, v) :: l) own H) : JL x ops Q (⟨some d, op, ty, pos, aft, none⟩ :: rest) l own H := fun a w hh => by
  simp only [wpLs, wanted_none, if_true]
  refine ⟨fun _ _ => trivial, ?_⟩
  rw [semAt_of hn, hr a.eval w _ _ _ _ (fun o u e => eval_of hh e) hh.mem.stab]
  exact h _ _ (hh.put hd v)

/-! ### Guards -/
theorem JL.gYes {dst : Option Tmp} {op : Op} {ty : TypeId} {pos : String} {aft : Array Edge} {j t : Nat} {b : Bool} {oj : Oper} (hj : ops[j]? = some oj) (ht : oj.dst = some t) (hb : lk l t = some (.bool b))
    (h : JL x ops Q (⟨dst, op, ty, pos, aft, none⟩ :: rest) l own H) : JL x ops Q (⟨dst, op, ty, pos, aft, some (j, b)⟩ :: rest) l own H := fun a w hh => by
  have hw : Region.wanted ⟨dst, op, ty, pos, aft, some (j, b)⟩ (yielded ops a.tmps) = true := by
    simp only [Region.wanted, yielded, hj, Option.bind_some, ht]
    have := hh.slots t _ hb
    cases hs : a.tmps[t]? with
    | none => simp [hs, undef] at this
    | some u => simp [hs] at this; simp [this]
  have := h a w hh
  simp only [wpLs, hw, if_true]
  simp only [wpLs] at this
  rw [if_pos (by rfl)] at this
  exact this
theorem JL.gNo {d : Nat} {op : Op} {ty : TypeId} {pos : String} {aft : Array Edge} {j t : Nat} {b b' : Bool} {oj : Oper} (hj : ops[j]? = some oj) (ht : oj.dst = some t) (hb : lk l t = some (.bool b')) (hne : (b' == b) = false)
    (hlt : Nat.blt d x.n = true)
    (h : JL x ops Q rest ((d, undef) :: l) own H) : JL x ops Q (⟨some d, op, ty, pos, aft, some (j, b)⟩ :: rest) l own H := fun a w hh => by
  have hw : Region.wanted ⟨some d, op, ty, pos, aft, some (j, b)⟩ (yielded ops a.tmps) = false := by
    simp only [Region.wanted, yielded, hj, Option.bind_some, ht]
    have := hh.slots t _ hb
    cases hs : a.tmps[t]? with
    | none => simp [hs, undef] at this
    | some u => simp [hs] at this; subst this; simpa using hne
  simp only [wpLs, hw]
  have := h _ _ (hh.put hlt undef)
  simpa using this
/-- the test itself was left out: what waits on it is left out too -/
theorem JL.gNoU {d : Nat} {op : Op} {ty : TypeId} {pos : String} {aft : Array Edge} {j t : Nat} {b : Bool} {oj : Oper} (hj : ops[j]? = some oj) (ht : oj.dst = some t) (hb : lk l t = some undef)
    (hlt : Nat.blt d x.n = true)
    (h : JL x ops Q rest ((d, undef) :: l) own H) : JL x ops Q (⟨some d, op, ty, pos, aft, some (j, b)⟩ :: rest) l own H := fun a w hh => by
  have hw : Region.wanted ⟨some d, op, ty, pos, aft, some (j, b)⟩ (yielded ops a.tmps) = false := by
    simp only [Region.wanted, yielded, hj, Option.bind_some, ht]
    have := hh.slots t _ hb
    cases hs : a.tmps[t]? with
    | none => simp
    | some u => simp [hs] at this; subst this; simp [undef]
  simp only [wpLs, hw]
  have := h _ _ (hh.put hlt undef)
  simpa using this
/-- a test that is not decided yet: both ways -/
theorem JL.gSplit {t : Nat} {b : Bool} (hb : lk l t = some (.bool b)) (ht : b = true → JL x ops Q rest ((t, .bool true) :: l) own H)
    (hf : b = false → JL x ops Q rest ((t, .bool false) :: l) own H) : JL x ops Q rest l own H := fun a w hh => by
  have key : ∀ c : Bool, b = c → Holds x ((t, .bool c) :: l) own H a w := fun c hc => ⟨hh.size, hh.ds, fun i v e => by
    simp only [lk] at e
    cases hbq : Nat.beq t i with
    | true =>
      have : t = i := Nat.eq_of_beq_eq_true hbq
      subst this; rw [hbq] at e; simp at e; subst e; subst hc; exact hh.slots t _ hb
    | false => rw [hbq] at e; exact hh.slots i v e, hh.mem⟩
  cases b with
  | true => exact ht rfl a w (key true rfl)
  | false => exact hf rfl a w (key false rfl)
/-! ### Operations that compute -/
section compute
variable {ty : TypeId} {d : Nat} {pos : String} {aft : Array Edge} {v : Value}

theorem JL.move {o : Operand} (h1 : evo l o = some v) (hd : Nat.blt d x.n = true) (h : JL x ops Q rest ((d, v) :: l) own H) :
    JL x ops Q (⟨some d, .move o, ty, pos, aft, none⟩ :: rest) l own H :=
  JL.val hd rfl (fun ρ w _ _ _ _ hρ hm => by simp [execOp, hρ _ _ h1, go_sem]) h
theorem JL.assign {o : Operand} (h1 : evo l o = some v) (hd : Nat.blt d x.n = true) (h : JL x ops Q rest ((d, v) :: l) own H) :
    JL x ops Q (⟨some d, .assign o, ty, pos, aft, none⟩ :: rest) l own H :=
  JL.val hd rfl (fun ρ w _ _ _ _ hρ hm => by simp [execOp, hρ _ _ h1, go_sem]) h
theorem JL.pickT {c p q : Operand} (hc : evo l c = some (.bool true)) (h1 : evo l p = some v) (hd : Nat.blt d x.n = true) (h : JL x ops Q rest ((d, v) :: l) own H) :
    JL x ops Q (⟨some d, .pick c p q, ty, pos, aft, none⟩ :: rest) l own H :=
  JL.val hd rfl (fun ρ w _ _ _ _ hρ hm => by simp [execOp, hρ _ _ hc, hρ _ _ h1, go_sem]) h
theorem JL.pickF {c p q : Operand} (hc : evo l c = some (.bool false)) (h1 : evo l q = some v) (hd : Nat.blt d x.n = true) (h : JL x ops Q rest ((d, v) :: l) own H) :
    JL x ops Q (⟨some d, .pick c p q, ty, pos, aft, none⟩ :: rest) l own H :=
  JL.val hd rfl (fun ρ w _ _ _ _ hρ hm => by simp [execOp, hρ _ _ hc, hρ _ _ h1, go_sem]) h
theorem JL.not {p : Operand} {b : Bool} {t : TypeId} (h1 : evo l p = some (.bool b)) (hd : Nat.blt d x.n = true) (h : JL x ops Q rest ((d, .bool (!b)) :: l) own H) :
    JL x ops Q (⟨some d, .unOp .not t p, ty, pos, aft, none⟩ :: rest) l own H :=
  JL.val hd rfl (fun ρ w _ _ _ _ hρ hm => by simp [execOp, hρ _ _ h1, Op.unary, go_sem]) h
theorem JL.extract {p : Operand} {vs : Array Value} {i : Nat} (h1 : evo l p = some (.tuple vs)) (h2 : vs[i]? = some v) (hd : Nat.blt d x.n = true) (h : JL x ops Q rest ((d, v) :: l) own H) :
    JL x ops Q (⟨some d, .extract p i, ty, pos, aft, none⟩ :: rest) l own H :=
  JL.val hd rfl (fun ρ w _ _ _ _ hρ hm => by simp [execOp, hρ _ _ h1, Instr.extract, h2, go_sem]) h

theorem JL.add {p q : Operand} {k : IntKind} {m n : Int} {t u : TypeId} (h1 : evo l p = some (.int k m)) (h2 : evo l q = some (.int k n)) (hb : k.wrap (m + n) = m + n) (hd : Nat.blt d x.n = true)
    (h : JL x ops Q rest ((d, .int k (m + n)) :: l) own H) : JL x ops Q (⟨some d, .binOp .add t p q u, ty, pos, aft, none⟩ :: rest) l own H :=
  JL.val hd rfl (fun ρ w _ _ _ _ hρ hm => by simp [execOp, hρ _ _ h1, hρ _ _ h2, eqGuard, binOp, Op.intArith, hb, go_sem]) h
theorem JL.subI {p q : Operand} {k : IntKind} {m n : Int} {t u : TypeId} (h1 : evo l p = some (.int k m)) (h2 : evo l q = some (.int k n)) (hb : k.wrap (m - n) = m - n) (hd : Nat.blt d x.n = true)
    (h : JL x ops Q rest ((d, .int k (m - n)) :: l) own H) : JL x ops Q (⟨some d, .binOp .sub t p q u, ty, pos, aft, none⟩ :: rest) l own H :=
  JL.val hd rfl (fun ρ w _ _ _ _ hρ hm => by simp [execOp, hρ _ _ h1, hρ _ _ h2, eqGuard, binOp, Op.intArith, hb, go_sem]) h
theorem JL.mul {p q : Operand} {k : IntKind} {m n : Int} {t u : TypeId} (h1 : evo l p = some (.int k m)) (h2 : evo l q = some (.int k n)) (hb : k.wrap (m * n) = m * n) (hd : Nat.blt d x.n = true)
    (h : JL x ops Q rest ((d, .int k (m * n)) :: l) own H) : JL x ops Q (⟨some d, .binOp .mul t p q u, ty, pos, aft, none⟩ :: rest) l own H :=
  JL.val hd rfl (fun ρ w _ _ _ _ hρ hm => by simp [execOp, hρ _ _ h1, hρ _ _ h2, eqGuard, binOp, Op.intArith, hb, go_sem]) h
theorem JL.quo {p q : Operand} {k : IntKind} {m n : Int} {t u : TypeId} (h1 : evo l p = some (.int k m)) (h2 : evo l q = some (.int k n)) (h0 : n ≠ 0) (hb : k.wrap (m.tdiv n) = m.tdiv n) (hd : Nat.blt d x.n = true)
    (h : JL x ops Q rest ((d, .int k (m.tdiv n)) :: l) own H) : JL x ops Q (⟨some d, .binOp .quo t p q u, ty, pos, aft, none⟩ :: rest) l own H :=
  JL.val hd rfl (fun ρ w _ _ _ _ hρ hm => by simp [execOp, hρ _ _ h1, hρ _ _ h2, eqGuard, binOp, Op.intDiv, h0, hb, go_sem]) h
theorem JL.rem {p q : Operand} {k : IntKind} {m n : Int} {t u : TypeId} (h1 : evo l p = some (.int k m)) (h2 : evo l q = some (.int k n)) (h0 : n ≠ 0) (hd : Nat.blt d x.n = true)
    (h : JL x ops Q rest ((d, .int k (m.tmod n)) :: l) own H) : JL x ops Q (⟨some d, .binOp .rem t p q u, ty, pos, aft, none⟩ :: rest) l own H :=
  JL.val hd rfl (fun ρ w _ _ _ _ hρ hm => by simp [execOp, hρ _ _ h1, hρ _ _ h2, eqGuard, binOp, Op.intDiv, h0, go_sem]) h
theorem JL.shl {p q : Operand} {k k' : IntKind} {m n : Int} {t u : TypeId} (h1 : evo l p = some (.int k m)) (h2 : evo l q = some (.int k' n)) (h0 : 0 ≤ n) (hd : Nat.blt d x.n = true)
    (h : JL x ops Q rest ((d, .int k (k.wrap (m * 2 ^ (min n.toNat k.bits)))) :: l) own H) : JL x ops Q (⟨some d, .binOp .shl t p q u, ty, pos, aft, none⟩ :: rest) l own H :=
  JL.val hd rfl (fun ρ w _ _ _ _ hρ hm => by simp [execOp, hρ _ _ h1, hρ _ _ h2, eqGuard, binOp, Op.shift, show ¬ n < 0 by omega, go_sem]) h
theorem JL.shr {p q : Operand} {k k' : IntKind} {m n : Int} {t u : TypeId} (h1 : evo l p = some (.int k m)) (h2 : evo l q = some (.int k' n)) (h0 : 0 ≤ n) (hd : Nat.blt d x.n = true)
    (h : JL x ops Q rest ((d, .int k (m.fdiv (2 ^ (min n.toNat k.bits)))) :: l) own H) : JL x ops Q (⟨some d, .binOp .shr t p q u, ty, pos, aft, none⟩ :: rest) l own H :=
  JL.val hd rfl (fun ρ w _ _ _ _ hρ hm => by simp [execOp, hρ _ _ h1, hρ _ _ h2, eqGuard, binOp, Op.shift, show ¬ n < 0 by omega, go_sem]) h

theorem JL.lss {p q : Operand} {k : IntKind} {m n : Int} {t u : TypeId} (h1 : evo l p = some (.int k m)) (h2 : evo l q = some (.int k n)) (hd : Nat.blt d x.n = true)
    (h : JL x ops Q rest ((d, .bool (decide (m < n))) :: l) own H) : JL x ops Q (⟨some d, .binOp .lss t p q u, ty, pos, aft, none⟩ :: rest) l own H :=
  JL.val hd rfl (fun ρ w _ _ _ _ hρ hm => by simp [execOp, hρ _ _ h1, hρ _ _ h2, eqGuard, binOp, Op.intCmp, go_sem]) h
theorem JL.leq {p q : Operand} {k : IntKind} {m n : Int} {t u : TypeId} (h1 : evo l p = some (.int k m)) (h2 : evo l q = some (.int k n)) (hd : Nat.blt d x.n = true)
    (h : JL x ops Q rest ((d, .bool (decide (m ≤ n))) :: l) own H) : JL x ops Q (⟨some d, .binOp .leq t p q u, ty, pos, aft, none⟩ :: rest) l own H :=
  JL.val hd rfl (fun ρ w _ _ _ _ hρ hm => by simp [execOp, hρ _ _ h1, hρ _ _ h2, eqGuard, binOp, Op.intCmp, go_sem]) h
theorem JL.gtr {p q : Operand} {k : IntKind} {m n : Int} {t u : TypeId} (h1 : evo l p = some (.int k m)) (h2 : evo l q = some (.int k n)) (hd : Nat.blt d x.n = true)
    (h : JL x ops Q rest ((d, .bool (decide (n < m))) :: l) own H) : JL x ops Q (⟨some d, .binOp .gtr t p q u, ty, pos, aft, none⟩ :: rest) l own H :=
  JL.val hd rfl (fun ρ w _ _ _ _ hρ hm => by simp [execOp, hρ _ _ h1, hρ _ _ h2, eqGuard, binOp, Op.intCmp, go_sem]) h
theorem JL.geq {p q : Operand} {k : IntKind} {m n : Int} {t u : TypeId} (h1 : evo l p = some (.int k m)) (h2 : evo l q = some (.int k n)) (hd : Nat.blt d x.n = true)
    (h : JL x ops Q rest ((d, .bool (decide (n ≤ m))) :: l) own H) : JL x ops Q (⟨some d, .binOp .geq t p q u, ty, pos, aft, none⟩ :: rest) l own H :=
  JL.val hd rfl (fun ρ w _ _ _ _ hρ hm => by simp [execOp, hρ _ _ h1, hρ _ _ h2, eqGuard, binOp, Op.intCmp, go_sem]) h
theorem JL.eql {p q : Operand} {k : IntKind} {m n : Int} {t u : TypeId} (h1 : evo l p = some (.int k m)) (h2 : evo l q = some (.int k n)) (hd : Nat.blt d x.n = true)
    (h : JL x ops Q rest ((d, .bool (decide (m = n))) :: l) own H) : JL x ops Q (⟨some d, .binOp .eql t p q u, ty, pos, aft, none⟩ :: rest) l own H :=
  JL.val hd rfl (fun ρ w _ _ _ _ hρ hm => by simp [execOp, hρ _ _ h1, hρ _ _ h2, eqGuard, binOp, Op.intCmp, go_sem]; rw [Bool.eq_iff_iff]; simp) h
theorem JL.neq {p q : Operand} {k : IntKind} {m n : Int} {t u : TypeId} (h1 : evo l p = some (.int k m)) (h2 : evo l q = some (.int k n)) (hd : Nat.blt d x.n = true)
    (h : JL x ops Q rest ((d, .bool (decide (m ≠ n))) :: l) own H) : JL x ops Q (⟨some d, .binOp .neq t p q u, ty, pos, aft, none⟩ :: rest) l own H :=
  JL.val hd rfl (fun ρ w _ _ _ _ hρ hm => by simp [execOp, hρ _ _ h1, hρ _ _ h2, eqGuard, binOp, Op.intCmp, go_sem]; rw [Bool.eq_iff_iff]; simp) h
theorem JL.xor {p q : Operand} {k : IntKind} {m n : Int} {t u : TypeId} (h1 : evo l p = some (.int k m)) (h2 : evo l q = some (.int k n)) (hd : Nat.blt d x.n = true)
    (h : JL x ops Q rest ((d, .int k (k.wrap (BitVec.ofInt k.bits m ^^^ BitVec.ofInt k.bits n).toNat)) :: l) own H) : JL x ops Q (⟨some d, .binOp .xor t p q u, ty, pos, aft, none⟩ :: rest) l own H :=
  JL.val hd rfl (fun ρ w _ _ _ _ hρ hm => by simp [execOp, hρ _ _ h1, hρ _ _ h2, eqGuard, binOp, Op.intBits, go_sem]) h
theorem JL.or {p q : Operand} {k : IntKind} {m n : Int} {t u : TypeId} (h1 : evo l p = some (.int k m)) (h2 : evo l q = some (.int k n)) (hd : Nat.blt d x.n = true)
    (h : JL x ops Q rest ((d, .int k (k.wrap (BitVec.ofInt k.bits m ||| BitVec.ofInt k.bits n).toNat)) :: l) own H) : JL x ops Q (⟨some d, .binOp .or t p q u, ty, pos, aft, none⟩ :: rest) l own H :=
  JL.val hd rfl (fun ρ w _ _ _ _ hρ hm => by simp [execOp, hρ _ _ h1, hρ _ _ h2, eqGuard, binOp, Op.intBits, go_sem]) h
theorem JL.conv {p : Operand} {k k' : IntKind} {m : Int} {s t : TypeId} {ds : TypeDesc} (hs : x.P.underlying s = some ds) (ht : x.P.underlying t = some (.int k')) (h1 : evo l p = some (.int k m)) (hb : k'.wrap m = m) (hd : Nat.blt d x.n = true)
    (h : JL x ops Q rest ((d, .int k' m) :: l) own H) : JL x ops Q (⟨some d, .convert s t p, ty, pos, aft, none⟩ :: rest) l own H :=
  JL.val hd rfl (fun ρ w _ _ _ _ hρ hm => by simp [execOp, hρ _ _ h1, convert, run_underlying hs, run_underlying ht, Conv.intToInt, hb, go_sem]) h
theorem JL.convW {p : Operand} {k k' : IntKind} {m : Int} {s t : TypeId} {ds : TypeDesc} (hs : x.P.underlying s = some ds) (ht : x.P.underlying t = some (.int k')) (h1 : evo l p = some (.int k m)) (hd : Nat.blt d x.n = true)
    (h : JL x ops Q rest ((d, .int k' (k'.wrap m)) :: l) own H) : JL x ops Q (⟨some d, .convert s t p, ty, pos, aft, none⟩ :: rest) l own H :=
  JL.val hd rfl (fun ρ w _ _ _ _ hρ hm => by simp [execOp, hρ _ _ h1, convert, run_underlying hs, run_underlying ht, Conv.intToInt, go_sem]) h
theorem JL.len {p : Operand} {ao : Option Addr} {n c : Nat} {t e : TypeId} (hu : x.P.underlying t = some (.slice e)) (h1 : evo l p = some (.slice ao n c)) (hd : Nat.blt d x.n = true)
    (h : JL x ops Q rest ((d, .int .i64 n) :: l) own H) : JL x ops Q (⟨some d, .call ⟨.builtin .len, #[p], #[t]⟩, ty, pos, aft, none⟩ :: rest) l own H :=
  JL.val hd rfl (fun ρ w _ _ _ _ hρ hm => by simp [execOp, resolve, invoke, hρ _ _ h1, run_underlying hu, go_sem, Builtin.len_, goInt]) h
theorem JL.func {fn : Go.Fn} {fs cs : Array Operand} {vf vc : Array Value} (h1 : fs.toList.mapM (evo l) = some vf.toList) (h2 : cs.toList.mapM (evo l) = some vc.toList) (hd : Nat.blt d x.n = true)
    (h : JL x ops Q rest ((d, .func fn vf vc) :: l) own H) : JL x ops Q (⟨some d, .makeFunc fn fs cs, ty, pos, aft, none⟩ :: rest) l own H :=
  JL.val hd rfl (fun ρ w _ _ _ _ hρ hm => by
    have key : ∀ (os : List Operand) (vs : List Value), os.mapM (evo l) = some vs → os.map ρ = vs := by
      intro os
      induction os with
      | nil => intro vs e; simp at e; simp [e]
      | cons o os ih =>
        intro vs e
        simp only [List.mapM_cons] at e
        cases ho : evo l o with
        | none => simp [ho] at e
        | some v =>
          cases hos : os.mapM (evo l) with
          | none => simp [ho, hos] at e
          | some us => simp [ho, hos] at e; subst e; simp [hρ _ _ ho, ih us hos]
    have e1 : fs.map ρ = vf := by rw [← Array.toList_inj]; simpa using key _ _ h1
    have e2 : cs.map ρ = vc := by rw [← Array.toList_inj]; simpa using key _ _ h2
    simp [execOp, Instr.makeFunc, e1, e2, go_sem]) h
end compute
end Go.Ow
