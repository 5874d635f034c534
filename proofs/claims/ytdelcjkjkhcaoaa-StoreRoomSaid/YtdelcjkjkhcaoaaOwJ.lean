/-
  What is proved here: the rules of OwB to OwF on operations that read or compute, for a region whose order is open. Printed by mkja.py.
-/
import Derived.Test.YtdelcjkjkhcaoaaOwG
namespace Go.Ow
open Go.RowKit
set_option linter.unusedVariables false
set_option linter.unusedSimpArgs false

variable {x : Cx} {ops : Array Oper} {Q : Exit → Act → World → Prop} {l : Slots} {own so : List Own} {H sH : Heaplet} {fuel i0 : Nat} {listed listed' : Array Bool} {g0 : Option (Nat × Bool)}
variable {ty : TypeId} {d : Nat} {pos : String} {aft : Array Edge} {v : Value} {α : Type} {R : Rep α} {size : Nat} {g : Bool} {t e : TypeId} {ao : Option Addr} {n cap : Nat} {m : List α} {p : Operand}

theorem JA.move {o : Operand} (hreg : Reg ops) (hc : Calm Q) (ho : ops[i0]? = some ⟨some d, .move o, ty, pos, aft, g0⟩) (ht : Take ops listed i0 listed') (hg : guardYes ops l g0) (hs : ∀ a w, Holds x l own H a w → Stab so sH w) (h1 : evo l o = some v) (hd : Nat.blt d x.n = true) (h : JA x ops Q so sH fuel listed' ((d, v) :: l) own H) :
    JA x ops Q so sH (fuel + 1) listed l own H :=
  JA.val hreg hc ho ht hg hs (fun ρ w _ _ _ _ hρ hm => by simp [execOp, hρ _ _ h1, go_sem]) hd h

theorem JA.assign {o : Operand} (hreg : Reg ops) (hc : Calm Q) (ho : ops[i0]? = some ⟨some d, .assign o, ty, pos, aft, g0⟩) (ht : Take ops listed i0 listed') (hg : guardYes ops l g0) (hs : ∀ a w, Holds x l own H a w → Stab so sH w) (h1 : evo l o = some v) (hd : Nat.blt d x.n = true) (h : JA x ops Q so sH fuel listed' ((d, v) :: l) own H) :
    JA x ops Q so sH (fuel + 1) listed l own H :=
  JA.val hreg hc ho ht hg hs (fun ρ w _ _ _ _ hρ hm => by simp [execOp, hρ _ _ h1, go_sem]) hd h

theorem JA.pickT {c p q : Operand} (hreg : Reg ops) (hc : Calm Q) (ho : ops[i0]? = some ⟨some d, .pick c p q, ty, pos, aft, g0⟩) (ht : Take ops listed i0 listed') (hg : guardYes ops l g0) (hs : ∀ a w, Holds x l own H a w → Stab so sH w) (hcq : evo l c = some (.bool true)) (h1 : evo l p = some v) (hd : Nat.blt d x.n = true) (h : JA x ops Q so sH fuel listed' ((d, v) :: l) own H) :
    JA x ops Q so sH (fuel + 1) listed l own H :=
  JA.val hreg hc ho ht hg hs (fun ρ w _ _ _ _ hρ hm => by simp [execOp, hρ _ _ hcq, hρ _ _ h1, go_sem]) hd h

theorem JA.pickF {c p q : Operand} (hreg : Reg ops) (hc : Calm Q) (ho : ops[i0]? = some ⟨some d, .pick c p q, ty, pos, aft, g0⟩) (ht : Take ops listed i0 listed') (hg : guardYes ops l g0) (hs : ∀ a w, Holds x l own H a w → Stab so sH w) (hcq : evo l c = some (.bool false)) (h1 : evo l q = some v) (hd : Nat.blt d x.n = true) (h : JA x ops Q so sH fuel listed' ((d, v) :: l) own H) :
    JA x ops Q so sH (fuel + 1) listed l own H :=
  JA.val hreg hc ho ht hg hs (fun ρ w _ _ _ _ hρ hm => by simp [execOp, hρ _ _ hcq, hρ _ _ h1, go_sem]) hd h

theorem JA.not {p : Operand} {b : Bool} {t : TypeId} (hreg : Reg ops) (hc : Calm Q) (ho : ops[i0]? = some ⟨some d, .unOp .not t p, ty, pos, aft, g0⟩) (ht : Take ops listed i0 listed') (hg : guardYes ops l g0) (hs : ∀ a w, Holds x l own H a w → Stab so sH w) (h1 : evo l p = some (.bool b)) (hd : Nat.blt d x.n = true) (h : JA x ops Q so sH fuel listed' ((d, .bool (!b)) :: l) own H) :
    JA x ops Q so sH (fuel + 1) listed l own H :=
  JA.val hreg hc ho ht hg hs (fun ρ w _ _ _ _ hρ hm => by simp [execOp, hρ _ _ h1, Op.unary, go_sem]) hd h

theorem JA.extract {p : Operand} {vs : Array Value} {i : Nat} (hreg : Reg ops) (hc : Calm Q) (ho : ops[i0]? = some ⟨some d, .extract p i, ty, pos, aft, g0⟩) (ht : Take ops listed i0 listed') (hg : guardYes ops l g0) (hs : ∀ a w, Holds x l own H a w → Stab so sH w) (h1 : evo l p = some (.tuple vs)) (h2 : vs[i]? = some v) (hd : Nat.blt d x.n = true) (h : JA x ops Q so sH fuel listed' ((d, v) :: l) own H) :
    JA x ops Q so sH (fuel + 1) listed l own H :=
  JA.val hreg hc ho ht hg hs (fun ρ w _ _ _ _ hρ hm => by simp [execOp, hρ _ _ h1, Instr.extract, h2, go_sem]) hd h

theorem JA.add {p q : Operand} {k : IntKind} {m n : Int} {t u : TypeId} (hreg : Reg ops) (hc : Calm Q) (ho : ops[i0]? = some ⟨some d, .binOp .add t p q u, ty, pos, aft, g0⟩) (ht : Take ops listed i0 listed') (hg : guardYes ops l g0) (hs : ∀ a w, Holds x l own H a w → Stab so sH w) (h1 : evo l p = some (.int k m)) (h2 : evo l q = some (.int k n)) (hb : k.wrap (m + n) = m + n) (hd : Nat.blt d x.n = true)
    (h : JA x ops Q so sH fuel listed' ((d, .int k (m + n)) :: l) own H) : JA x ops Q so sH (fuel + 1) listed l own H :=
  JA.val hreg hc ho ht hg hs (fun ρ w _ _ _ _ hρ hm => by simp [execOp, hρ _ _ h1, hρ _ _ h2, eqGuard, binOp, Op.intArith, hb, go_sem]) hd h

theorem JA.subI {p q : Operand} {k : IntKind} {m n : Int} {t u : TypeId} (hreg : Reg ops) (hc : Calm Q) (ho : ops[i0]? = some ⟨some d, .binOp .sub t p q u, ty, pos, aft, g0⟩) (ht : Take ops listed i0 listed') (hg : guardYes ops l g0) (hs : ∀ a w, Holds x l own H a w → Stab so sH w) (h1 : evo l p = some (.int k m)) (h2 : evo l q = some (.int k n)) (hb : k.wrap (m - n) = m - n) (hd : Nat.blt d x.n = true)
    (h : JA x ops Q so sH fuel listed' ((d, .int k (m - n)) :: l) own H) : JA x ops Q so sH (fuel + 1) listed l own H :=
  JA.val hreg hc ho ht hg hs (fun ρ w _ _ _ _ hρ hm => by simp [execOp, hρ _ _ h1, hρ _ _ h2, eqGuard, binOp, Op.intArith, hb, go_sem]) hd h

theorem JA.mul {p q : Operand} {k : IntKind} {m n : Int} {t u : TypeId} (hreg : Reg ops) (hc : Calm Q) (ho : ops[i0]? = some ⟨some d, .binOp .mul t p q u, ty, pos, aft, g0⟩) (ht : Take ops listed i0 listed') (hg : guardYes ops l g0) (hs : ∀ a w, Holds x l own H a w → Stab so sH w) (h1 : evo l p = some (.int k m)) (h2 : evo l q = some (.int k n)) (hb : k.wrap (m * n) = m * n) (hd : Nat.blt d x.n = true)
    (h : JA x ops Q so sH fuel listed' ((d, .int k (m * n)) :: l) own H) : JA x ops Q so sH (fuel + 1) listed l own H :=
  JA.val hreg hc ho ht hg hs (fun ρ w _ _ _ _ hρ hm => by simp [execOp, hρ _ _ h1, hρ _ _ h2, eqGuard, binOp, Op.intArith, hb, go_sem]) hd h

theorem JA.quo {p q : Operand} {k : IntKind} {m n : Int} {t u : TypeId} (hreg : Reg ops) (hc : Calm Q) (ho : ops[i0]? = some ⟨some d, .binOp .quo t p q u, ty, pos, aft, g0⟩) (ht : Take ops listed i0 listed') (hg : guardYes ops l g0) (hs : ∀ a w, Holds x l own H a w → Stab so sH w) (h1 : evo l p = some (.int k m)) (h2 : evo l q = some (.int k n)) (h0 : n ≠ 0) (hb : k.wrap (m.tdiv n) = m.tdiv n) (hd : Nat.blt d x.n = true)
    (h : JA x ops Q so sH fuel listed' ((d, .int k (m.tdiv n)) :: l) own H) : JA x ops Q so sH (fuel + 1) listed l own H :=
  JA.val hreg hc ho ht hg hs (fun ρ w _ _ _ _ hρ hm => by simp [execOp, hρ _ _ h1, hρ _ _ h2, eqGuard, binOp, Op.intDiv, h0, hb, go_sem]) hd h
theorem JA.rem {p q : Operand} {k : IntKind} {m n : Int} {t u : TypeId} (hreg : Reg ops) (hc : Calm Q) (ho : ops[i0]? = some ⟨some d, .binOp .rem t p q u, ty, pos, aft, g0⟩) (ht : Take ops listed i0 listed') (hg : guardYes ops l g0) (hs : ∀ a w, Holds x l own H a w → Stab so sH w) (h1 : evo l p = some (.int k m)) (h2 : evo l q = some (.int k n)) (h0 : n ≠ 0) (hd : Nat.blt d x.n = true)
    (h : JA x ops Q so sH fuel listed' ((d, .int k (m.tmod n)) :: l) own H) : JA x ops Q so sH (fuel + 1) listed l own H :=
  JA.val hreg hc ho ht hg hs (fun ρ w _ _ _ _ hρ hm => by simp [execOp, hρ _ _ h1, hρ _ _ h2, eqGuard, binOp, Op.intDiv, h0, go_sem]) hd h

theorem JA.shl {p q : Operand} {k k' : IntKind} {m n : Int} {t u : TypeId} (hreg : Reg ops) (hc : Calm Q) (ho : ops[i0]? = some ⟨some d, .binOp .shl t p q u, ty, pos, aft, g0⟩) (ht : Take ops listed i0 listed') (hg : guardYes ops l g0) (hs : ∀ a w, Holds x l own H a w → Stab so sH w) (h1 : evo l p = some (.int k m)) (h2 : evo l q = some (.int k' n)) (h0 : 0 ≤ n) (hd : Nat.blt d x.n = true)
    (h : JA x ops Q so sH fuel listed' ((d, .int k (k.wrap (m * 2 ^ (min n.toNat k.bits)))) :: l) own H) : JA x ops Q so sH (fuel + 1) listed l own H :=
  JA.val hreg hc ho ht hg hs (fun ρ w _ _ _ _ hρ hm => by simp [execOp, hρ _ _ h1, hρ _ _ h2, eqGuard, binOp, Op.shift, show ¬ n < 0 by omega, go_sem]) hd h

theorem JA.shr {p q : Operand} {k k' : IntKind} {m n : Int} {t u : TypeId} (hreg : Reg ops) (hc : Calm Q) (ho : ops[i0]? = some ⟨some d, .binOp .shr t p q u, ty, pos, aft, g0⟩) (ht : Take ops listed i0 listed') (hg : guardYes ops l g0) (hs : ∀ a w, Holds x l own H a w → Stab so sH w) (h1 : evo l p = some (.int k m)) (h2 : evo l q = some (.int k' n)) (h0 : 0 ≤ n) (hd : Nat.blt d x.n = true)
    (h : JA x ops Q so sH fuel listed' ((d, .int k (m.fdiv (2 ^ (min n.toNat k.bits)))) :: l) own H) : JA x ops Q so sH (fuel + 1) listed l own H :=
  JA.val hreg hc ho ht hg hs (fun ρ w _ _ _ _ hρ hm => by simp [execOp, hρ _ _ h1, hρ _ _ h2, eqGuard, binOp, Op.shift, show ¬ n < 0 by omega, go_sem]) hd h

theorem JA.lss {p q : Operand} {k : IntKind} {m n : Int} {t u : TypeId} (hreg : Reg ops) (hc : Calm Q) (ho : ops[i0]? = some ⟨some d, .binOp .lss t p q u, ty, pos, aft, g0⟩) (ht : Take ops listed i0 listed') (hg : guardYes ops l g0) (hs : ∀ a w, Holds x l own H a w → Stab so sH w) (h1 : evo l p = some (.int k m)) (h2 : evo l q = some (.int k n)) (hd : Nat.blt d x.n = true)
    (h : JA x ops Q so sH fuel listed' ((d, .bool (decide (m < n))) :: l) own H) : JA x ops Q so sH (fuel + 1) listed l own H :=
  JA.val hreg hc ho ht hg hs (fun ρ w _ _ _ _ hρ hm => by simp [execOp, hρ _ _ h1, hρ _ _ h2, eqGuard, binOp, Op.intCmp, go_sem]) hd h

theorem JA.leq {p q : Operand} {k : IntKind} {m n : Int} {t u : TypeId} (hreg : Reg ops) (hc : Calm Q) (ho : ops[i0]? = some ⟨some d, .binOp .leq t p q u, ty, pos, aft, g0⟩) (ht : Take ops listed i0 listed') (hg : guardYes ops l g0) (hs : ∀ a w, Holds x l own H a w → Stab so sH w) (h1 : evo l p = some (.int k m)) (h2 : evo l q = some (.int k n)) (hd : Nat.blt d x.n = true)
    (h : JA x ops Q so sH fuel listed' ((d, .bool (decide (m ≤ n))) :: l) own H) : JA x ops Q so sH (fuel + 1) listed l own H :=
  JA.val hreg hc ho ht hg hs (fun ρ w _ _ _ _ hρ hm => by simp [execOp, hρ _ _ h1, hρ _ _ h2, eqGuard, binOp, Op.intCmp, go_sem]) hd h

theorem JA.gtr {p q : Operand} {k : IntKind} {m n : Int} {t u : TypeId} (hreg : Reg ops) (hc : Calm Q) (ho : ops[i0]? = some ⟨some d, .binOp .gtr t p q u, ty, pos, aft, g0⟩) (ht : Take ops listed i0 listed') (hg : guardYes ops l g0) (hs : ∀ a w, Holds x l own H a w → Stab so sH w) (h1 : evo l p = some (.int k m)) (h2 : evo l q = some (.int k n)) (hd : Nat.blt d x.n = true)
    (h : JA x ops Q so sH fuel listed' ((d, .bool (decide (n < m))) :: l) own H) : JA x ops Q so sH (fuel + 1) listed l own H :=
  JA.val hreg hc ho ht hg hs (fun ρ w _ _ _ _ hρ hm => by simp [execOp, hρ _ _ h1, hρ _ _ h2, eqGuard, binOp, Op.intCmp, go_sem]) hd h

theorem JA.geq {p q : Operand} {k : IntKind} {m n : Int} {t u : TypeId} (hreg : Reg ops) (hc : Calm Q) (ho : ops[i0]? = some ⟨some d, .binOp .geq t p q u, ty, pos, aft, g0⟩) (ht : Take ops listed i0 listed') (hg : guardYes ops l g0) (hs : ∀ a w, Holds x l own H a w → Stab so sH w) (h1 : evo l p = some (.int k m)) (h2 : evo l q = some (.int k n)) (hd : Nat.blt d x.n = true)
    (h : JA x ops Q so sH fuel listed' ((d, .bool (decide (n ≤ m))) :: l) own H) : JA x ops Q so sH (fuel + 1) listed l own H :=
  JA.val hreg hc ho ht hg hs (fun ρ w _ _ _ _ hρ hm => by simp [execOp, hρ _ _ h1, hρ _ _ h2, eqGuard, binOp, Op.intCmp, go_sem]) hd h

theorem JA.eql {p q : Operand} {k : IntKind} {m n : Int} {t u : TypeId} (hreg : Reg ops) (hc : Calm Q) (ho : ops[i0]? = some ⟨some d, .binOp .eql t p q u, ty, pos, aft, g0⟩) (ht : Take ops listed i0 listed') (hg : guardYes ops l g0) (hs : ∀ a w, Holds x l own H a w → Stab so sH w) (h1 : evo l p = some (.int k m)) (h2 : evo l q = some (.int k n)) (hd : Nat.blt d x.n = true)
    (h : JA x ops Q so sH fuel listed' ((d, .bool (decide (m = n))) :: l) own H) : JA x ops Q so sH (fuel + 1) listed l own H :=
  JA.val hreg hc ho ht hg hs (fun ρ w _ _ _ _ hρ hm => by simp [execOp, hρ _ _ h1, hρ _ _ h2, eqGuard, binOp, Op.intCmp, go_sem]; rw [Bool.eq_iff_iff]; simp) hd h

theorem JA.neq {p q : Operand} {k : IntKind} {m n : Int} {t u : TypeId} (hreg : Reg ops) (hc : Calm Q) (ho : ops[i0]? = some ⟨some d, .binOp .neq t p q u, ty, pos, aft, g0⟩) (ht : Take ops listed i0 listed') (hg : guardYes ops l g0) (hs : ∀ a w, Holds x l own H a w → Stab so sH w) (h1 : evo l p = some (.int k m)) (h2 : evo l q = some (.int k n)) (hd : Nat.blt d x.n = true)
    (h : JA x ops Q so sH fuel listed' ((d, .bool (decide (m ≠ n))) :: l) own H) : JA x ops Q so sH (fuel + 1) listed l own H :=
  JA.val hreg hc ho ht hg hs (fun ρ w _ _ _ _ hρ hm => by simp [execOp, hρ _ _ h1, hρ _ _ h2, eqGuard, binOp, Op.intCmp, go_sem]; rw [Bool.eq_iff_iff]; simp) hd h

theorem JA.xor {p q : Operand} {k : IntKind} {m n : Int} {t u : TypeId} (hreg : Reg ops) (hc : Calm Q) (ho : ops[i0]? = some ⟨some d, .binOp .xor t p q u, ty, pos, aft, g0⟩) (ht : Take ops listed i0 listed') (hg : guardYes ops l g0) (hs : ∀ a w, Holds x l own H a w → Stab so sH w) (h1 : evo l p = some (.int k m)) (h2 : evo l q = some (.int k n)) (hd : Nat.blt d x.n = true)
    (h : JA x ops Q so sH fuel listed' ((d, .int k (k.wrap (BitVec.ofInt k.bits m ^^^ BitVec.ofInt k.bits n).toNat)) :: l) own H) : JA x ops Q so sH (fuel + 1) listed l own H :=
  JA.val hreg hc ho ht hg hs (fun ρ w _ _ _ _ hρ hm => by simp [execOp, hρ _ _ h1, hρ _ _ h2, eqGuard, binOp, Op.intBits, go_sem]) hd h

theorem JA.or {p q : Operand} {k : IntKind} {m n : Int} {t u : TypeId} (hreg : Reg ops) (hc : Calm Q) (ho : ops[i0]? = some ⟨some d, .binOp .or t p q u, ty, pos, aft, g0⟩) (ht : Take ops listed i0 listed') (hg : guardYes ops l g0) (hs : ∀ a w, Holds x l own H a w → Stab so sH w) (h1 : evo l p = some (.int k m)) (h2 : evo l q = some (.int k n)) (hd : Nat.blt d x.n = true)
    (h : JA x ops Q so sH fuel listed' ((d, .int k (k.wrap (BitVec.ofInt k.bits m ||| BitVec.ofInt k.bits n).toNat)) :: l) own H) : JA x ops Q so sH (fuel + 1) listed l own H :=
  JA.val hreg hc ho ht hg hs (fun ρ w _ _ _ _ hρ hm => by simp [execOp, hρ _ _ h1, hρ _ _ h2, eqGuard, binOp, Op.intBits, go_sem]) hd h

theorem JA.conv {p : Operand} {k k' : IntKind} {m : Int} {s t : TypeId} {ds : TypeDesc} (hreg : Reg ops) (hc : Calm Q) (ho : ops[i0]? = some ⟨some d, .convert s t p, ty, pos, aft, g0⟩) (ht : Take ops listed i0 listed') (hg : guardYes ops l g0) (hs : ∀ a w, Holds x l own H a w → Stab so sH w) (hsq : x.P.underlying s = some ds) (htq : x.P.underlying t = some (.int k')) (h1 : evo l p = some (.int k m)) (hb : k'.wrap m = m) (hd : Nat.blt d x.n = true)
    (h : JA x ops Q so sH fuel listed' ((d, .int k' m) :: l) own H) : JA x ops Q so sH (fuel + 1) listed l own H :=
  JA.val hreg hc ho ht hg hs (fun ρ w _ _ _ _ hρ hm => by simp [execOp, hρ _ _ h1, convert, run_underlying hsq, run_underlying htq, Conv.intToInt, hb, go_sem]) hd h

theorem JA.convW {p : Operand} {k k' : IntKind} {m : Int} {s t : TypeId} {ds : TypeDesc} (hreg : Reg ops) (hc : Calm Q) (ho : ops[i0]? = some ⟨some d, .convert s t p, ty, pos, aft, g0⟩) (ht : Take ops listed i0 listed') (hg : guardYes ops l g0) (hs : ∀ a w, Holds x l own H a w → Stab so sH w) (hsq : x.P.underlying s = some ds) (htq : x.P.underlying t = some (.int k')) (h1 : evo l p = some (.int k m)) (hd : Nat.blt d x.n = true)
    (h : JA x ops Q so sH fuel listed' ((d, .int k' (k'.wrap m)) :: l) own H) : JA x ops Q so sH (fuel + 1) listed l own H :=
  JA.val hreg hc ho ht hg hs (fun ρ w _ _ _ _ hρ hm => by simp [execOp, hρ _ _ h1, convert, run_underlying hsq, run_underlying htq, Conv.intToInt, go_sem]) hd h

theorem JA.len {p : Operand} {ao : Option Addr} {n c : Nat} {t e : TypeId} (hreg : Reg ops) (hc : Calm Q) (ho : ops[i0]? = some ⟨some d, .call ⟨.builtin .len, #[p], #[t]⟩, ty, pos, aft, g0⟩) (ht : Take ops listed i0 listed') (hg : guardYes ops l g0) (hs : ∀ a w, Holds x l own H a w → Stab so sH w) (hu : x.P.underlying t = some (.slice e)) (h1 : evo l p = some (.slice ao n c)) (hd : Nat.blt d x.n = true)
    (h : JA x ops Q so sH fuel listed' ((d, .int .i64 n) :: l) own H) : JA x ops Q so sH (fuel + 1) listed l own H :=
  JA.val hreg hc ho ht hg hs (fun ρ w _ _ _ _ hρ hm => by simp [execOp, resolve, invoke, hρ _ _ h1, run_underlying hu, go_sem, Builtin.len_, goInt]) hd h

theorem JA.func {fn : Go.Fn} {fs cs : Array Operand} {vf vc : Array Value} (hreg : Reg ops) (hc : Calm Q) (ho : ops[i0]? = some ⟨some d, .makeFunc fn fs cs, ty, pos, aft, g0⟩) (ht : Take ops listed i0 listed') (hg : guardYes ops l g0) (hs : ∀ a w, Holds x l own H a w → Stab so sH w) (h1 : fs.toList.mapM (evo l) = some vf.toList) (h2 : cs.toList.mapM (evo l) = some vc.toList) (hd : Nat.blt d x.n = true)
    (h : JA x ops Q so sH fuel listed' ((d, .func fn vf vc) :: l) own H) : JA x ops Q so sH (fuel + 1) listed l own H :=
  JA.val hreg hc ho ht hg hs (fun ρ w _ _ _ _ hρ hm => by
    have key : ∀ (os : List Operand) (vs : List Value), os.mapM (evo l) = some vs → os.map ρ = vs := by
      intro os
      induction os with
      | nil => intro vs e; simp at e; simp [e]
      | cons o os ih =>
        intro vs e
        simp only [List.mapM_cons] at e
        cases ho : evo l o with
        | none => simp [ho] at e
        | some v =>
          cases hos : os.mapM (evo l) with
          | none => simp [ho, hos] at e
          | some us => simp [ho, hos] at e; subst e; simp [hρ _ _ ho, ih us hos]
    have e1 : fs.map ρ = vf := by rw [← Array.toList_inj]; simpa using key _ _ h1
    have e2 : cs.map ρ = vc := by rw [← Array.toList_inj]; simpa using key _ _ h2
    simp [execOp, Instr.makeFunc, e1, e2, go_sem]) hd h

theorem JA.fa {p : Operand} {S k n b o : Nat} (hreg : Reg ops) (hc : Calm Q) (ho : ops[i0]? = some ⟨some d, .fieldAddr S p k, ty, pos, aft, g0⟩) (ht : Take ops listed i0 listed') (hg : guardYes ops l g0) (hs : ∀ a w, Holds x l own H a w → Stab so sH w) (hf : fieldOff x.P S k = some n) (h1 : evo l p = some (.pointer (some ⟨b, o, none⟩))) (hd : Nat.blt d x.n = true)
    (h : JA x ops Q so sH fuel listed' ((d, .pointer (some ⟨b, o + n, none⟩)) :: l) own H) : JA x ops Q so sH (fuel + 1) listed l own H :=
  JA.val hreg hc ho ht hg hs (fun ρ w _ _ _ _ hρ hm => by simp only [execOp, hρ _ _ h1]; exact run_v (run_fieldAt hf b o w)) hd h

theorem JA.ld {p : Operand} {T n b o : Nat} (hreg : Reg ops) (hc : Calm Q) (ho : ops[i0]? = some ⟨some d, .load T p, ty, pos, aft, g0⟩) (ht : Take ops listed i0 listed') (hg : guardYes ops l g0) (hs : ∀ a w, Holds x l own H a w → Stab so sH w) (hsq : shapeOf x.P T = some (false, n)) (h1 : evo l p = some (.pointer (some ⟨b, o, none⟩))) (ha : At sH so b o v) (hd : Nat.blt d x.n = true)
    (h : JA x ops Q so sH fuel listed' ((d, v) :: l) own H) : JA x ops Q so sH (fuel + 1) listed l own H :=
  JA.val hreg hc ho ht hg hs (fun ρ w _ _ _ _ hρ hm => by simp only [execOp, hρ _ _ h1]; exact run_v (run_load1 hsq (ha.cell hm))) hd h
/-- out of an so block -/

theorem JA.ldo (i : Nat) {p : Operand} {T n b o : Nat} {cur : Array Value} {t : TypeId} {fr : Nat × Nat} (hreg : Reg ops) (hc : Calm Q) (ho : ops[i0]? = some ⟨some d, .load T p, ty, pos, aft, g0⟩) (ht : Take ops listed i0 listed') (hg : guardYes ops l g0) (hs : ∀ a w, Holds x l own H a w → Stab so sH w) (hsq : shapeOf x.P T = some (false, n)) (h1 : evo l p = some (.pointer (some ⟨b, o, none⟩)))
    (hi : so[i]? = some [(b, .cells cur t fr)]) (hcq : cur.toList[o]? = some v) (hd : Nat.blt d x.n = true)
    (h : JA x ops Q so sH fuel listed' ((d, v) :: l) own H) : JA x ops Q so sH (fuel + 1) listed l own H :=
  JA.ld hreg hc ho ht hg hs hsq h1 (.inr ⟨i, cur, t, fr, hi, by simpa using hcq⟩) hd h

theorem JA.ldN {p : Operand} {T b o n : Nat} {vs : List Value} (hreg : Reg ops) (hc : Calm Q) (ho : ops[i0]? = some ⟨some d, .load T p, ty, pos, aft, g0⟩) (ht : Take ops listed i0 listed') (hg : guardYes ops l g0) (hs : ∀ a w, Holds x l own H a w → Stab so sH w) (hsq : shapeOf x.P T = some (true, n)) (h1 : evo l p = some (.pointer (some ⟨b, o, none⟩))) (ha : ∀ j u, vs[j]? = some u → At sH so b (o + j) u) (hn : vs.length = n) (hd : Nat.blt d x.n = true)
    (h : JA x ops Q so sH fuel listed' ((d, .agg vs.toArray) :: l) own H) : JA x ops Q so sH (fuel + 1) listed l own H :=
  JA.val hreg hc ho ht hg hs (fun ρ w _ _ _ _ hρ hm => by simp only [execOp, hρ _ _ h1]; exact run_v (run_loadN (by rw [hn]; exact hsq) (fun j u e => (ha j u e).cell hm))) hd h
/-- a whole so block -/

theorem JA.ldoN (i : Nat) {p : Operand} {T b n : Nat} {cur : Array Value} {t : TypeId} {fr : Nat × Nat} (hreg : Reg ops) (hc : Calm Q) (ho : ops[i0]? = some ⟨some d, .load T p, ty, pos, aft, g0⟩) (ht : Take ops listed i0 listed') (hg : guardYes ops l g0) (hs : ∀ a w, Holds x l own H a w → Stab so sH w) (hsq : shapeOf x.P T = some (true, n)) (h1 : evo l p = some (.pointer (some ⟨b, 0, none⟩)))
    (hi : so[i]? = some [(b, .cells cur t fr)]) (hn : cur.toList.length = n) (hd : Nat.blt d x.n = true)
    (h : JA x ops Q so sH fuel listed' ((d, .agg cur) :: l) own H) : JA x ops Q so sH (fuel + 1) listed l own H := by
  refine JA.ldN (vs := cur.toList) hreg hc ho ht hg hs hsq h1 (fun j u e => .inr ⟨i, cur, t, fr, hi, by simpa using e⟩) hn hd ?_
  simpa using h

theorem JA.lenS {α : Type} {R : Rep α} {size : Nat} {p : Operand} {t e : TypeId} {m : List α} (hreg : Reg ops) (hc : Calm Q) (ho : ops[i0]? = some ⟨some d, .call ⟨.builtin .len, #[p], #[t]⟩, ty, pos, aft, g0⟩) (ht : Take ops listed i0 listed') (hg : guardYes ops l g0) (hs : ∀ a w, Holds x l own H a w → Stab so sH w) (hu : x.P.underlying t = some (.slice e)) (h1 : evo l p = some v) (hsq : IsSlice sH R size v m) (hd : Nat.blt d x.n = true)
    (h : JA x ops Q so sH fuel listed' ((d, .int .i64 m.length) :: l) own H) : JA x ops Q so sH (fuel + 1) listed l own H := by
  obtain ⟨ao, cap, rfl, _⟩ := hsq
  exact JA.len hreg hc ho ht hg hs hu h1 hd h

theorem JA.ix {α : Type} {R : Rep α} {p q : Operand} {T e : TypeId} {g : Bool} {n : Nat} {m : List α} {kk : IntKind} {i : Int} {k : Nat} (hreg : Reg ops) (hc : Calm Q) (ho : ops[i0]? = some ⟨some d, .indexAddr T p q, ty, pos, aft, g0⟩) (ht : Take ops listed i0 listed') (hg : guardYes ops l g0) (hs : ∀ a w, Holds x l own H a w → Stab so sH w) (hu : x.P.underlying T = some (.slice e)) (hsq : shapeOf x.P e = some (g, n))
    (h1 : evo l p = some v) (hS : IsSlice sH R n v m) (h2 : evo l q = some (.int kk i)) (hi : i = (k : Int)) (hk : k < m.length) (hd : Nat.blt d x.n = true)
    (h : ∀ b o cs, R sH cs m[k] → cs.length = n → (∀ j u, cs[j]? = some u → sH b (o + j) = some u) → JA x ops Q so sH fuel listed' ((d, .pointer (some ⟨b, o, none⟩)) :: l) own H) :
    JA x ops Q so sH (fuel + 1) listed l own H := by
  obtain ⟨ao, cap, rfl, e1, e2, e3, e4, e5⟩ := hS
  obtain ⟨b, o, cs, rfl, f1, f2, f3⟩ := e5 k _ (List.getElem?_eq_getElem hk)
  subst hi
  exact JA.val hreg hc ho ht hg hs (fun ρ w _ _ _ _ hρ hm => by simp only [execOp, hρ _ _ h1, hρ _ _ h2]; exact run_v (run_indexAt hu hsq hk w)) hd (h b (o + k * n) cs f2 f1 f3)
/-- a byte -/

theorem JA.ixB {p q : Operand} {T e : TypeId} {g : Bool} {m : List UInt8} {kk : IntKind} {i : Int} {k : Nat} (hreg : Reg ops) (hc : Calm Q) (ho : ops[i0]? = some ⟨some d, .indexAddr T p q, ty, pos, aft, g0⟩) (ht : Take ops listed i0 listed') (hg : guardYes ops l g0) (hs : ∀ a w, Holds x l own H a w → Stab so sH w) (hu : x.P.underlying T = some (.slice e)) (hsq : shapeOf x.P e = some (g, 1))
    (h1 : evo l p = some v) (hS : IsB sH v m) (h2 : evo l q = some (.int kk i)) (hi : i = (k : Int)) (hk : k < m.length) (hd : Nat.blt d x.n = true)
    (h : ∀ b o, sH b o = some (.int .u8 (m[k].toNat : Int)) → JA x ops Q so sH fuel listed' ((d, .pointer (some ⟨b, o, none⟩)) :: l) own H) :
    JA x ops Q so sH (fuel + 1) listed l own H :=
  JA.ix hreg hc ho ht hg hs hu hsq h1 hS h2 hi hk hd (fun b o cs hR _ hc => h b o (by rw [show cs = _ from hR] at hc; simpa using hc 0 _ rfl))
/-- a cell of the heaplet -/

theorem JA.ldH {p : Operand} {T n b o : Nat} (hreg : Reg ops) (hc : Calm Q) (ho : ops[i0]? = some ⟨some d, .load T p, ty, pos, aft, g0⟩) (ht : Take ops listed i0 listed') (hg : guardYes ops l g0) (hs : ∀ a w, Holds x l own H a w → Stab so sH w) (hsq : shapeOf x.P T = some (false, n)) (h1 : evo l p = some (.pointer (some ⟨b, o, none⟩))) (ha : sH b o = some v) (hd : Nat.blt d x.n = true)
    (h : JA x ops Q so sH fuel listed' ((d, v) :: l) own H) : JA x ops Q so sH (fuel + 1) listed l own H := JA.ld hreg hc ho ht hg hs hsq h1 (.inl ha) hd h

theorem JA.slc (a b c : Nat) {lo hi mx : Option Operand} (hreg : Reg ops) (hc : Calm Q) (ho : ops[i0]? = some ⟨some d, .slice t p lo hi mx, ty, pos, aft, g0⟩) (ht : Take ops listed i0 listed') (hg : guardYes ops l g0) (hs : ∀ a w, Holds x l own H a w → Stab so sH w) (hu : x.P.underlying t = some (.slice e)) (hsq : shapeOf x.P e = some (g, size)) (h0 : evo l p = some (.slice ao n cap)) (hS : IsSlice sH R size (.slice ao n cap) m)
    (h1 : bnd l lo 0 a) (h2 : bnd l hi m.length b) (h3 : bnd l mx cap c) (hab : a ≤ b) (hbm : b ≤ m.length) (hbc : b ≤ c) (hcq : c ≤ cap) (hmx : mx = none ∨ hi ≠ none) (hd : Nat.blt d x.n = true)
    (h : ∀ ao' cap', IsSlice sH R size (.slice ao' (b - a) cap') ((m.drop a).take (b - a)) → JA x ops Q so sH fuel listed' ((d, .slice ao' (b - a) cap') :: l) own H) :
    JA x ops Q so sH (fuel + 1) listed l own H := by
  have hn : n = m.length := by obtain ⟨_, _, e, _⟩ := hS; simp only [Value.slice.injEq] at e; exact e.2.1
  have hsub := hS.sub a b c hab hbm hbc hcq
  unfold sliced at hsub
  refine JA.val hreg hc ho ht hg hs (fun ρ w _ _ _ _ hρ hm => ?_) hd (h _ _ hsub)
  simp only [execOp, hρ _ _ h0]
  exact run_v (run_slc hu hsq ρ hρ lo hi mx a b c h1 (by subst hn; exact h2) h3 hab hbc hcq hmx w)

theorem JA.toStr {s t e : TypeId} {lb : List UInt8} (hreg : Reg ops) (hc : Calm Q) (ho : ops[i0]? = some ⟨some d, .convert s t p, ty, pos, aft, g0⟩) (ht : Take ops listed i0 listed') (hg : guardYes ops l g0) (hs : ∀ a w, Holds x l own H a w → Stab so sH w) (hsq : x.P.underlying s = some (.slice e)) (he : x.P.underlying e = some (.int .u8)) (htq : x.P.underlying t = some .string) (h1 : evo l p = some v) (hB : IsB sH v lb) (hd : Nat.blt d x.n = true)
    (h : JA x ops Q so sH fuel listed' ((d, .string (bs lb)) :: l) own H) : JA x ops Q so sH (fuel + 1) listed l own H := by
  obtain ⟨cells, hf, ao, cap, rfl, hcc⟩ := hB.cells
  rw [hf.of_u8] at hcc
  exact JA.val hreg hc ho ht hg hs (fun ρ w _ _ _ _ hρ hm => by
    simp only [execOp, hρ _ _ h1]
    exact run_v (run_toStr hsq he htq ⟨ao, cap, rfl, hcc.imp id (fun ⟨b, o, e1, e2⟩ => ⟨b, o, e1, fun j u hj => hm.1 _ _ _ (e2 j u hj)⟩)⟩)) hd h

theorem JA.eqlStr {q : Operand} {a b : List UInt8} {t u : TypeId} (hreg : Reg ops) (hc : Calm Q) (ho : ops[i0]? = some ⟨some d, .binOp .eql t p q u, ty, pos, aft, g0⟩) (ht : Take ops listed i0 listed') (hg : guardYes ops l g0) (hs : ∀ a w, Holds x l own H a w → Stab so sH w) (h1 : evo l p = some (.string (bs a))) (h2 : evo l q = some (.string (bs b))) (hd : Nat.blt d x.n = true)
    (h : JA x ops Q so sH fuel listed' ((d, .bool (decide (a = b))) :: l) own H) : JA x ops Q so sH (fuel + 1) listed l own H :=
  JA.val hreg hc ho ht hg hs (fun ρ w _ _ _ _ hρ hm => by simp [execOp, hρ _ _ h1, hρ _ _ h2, eqGuard, binOp, Op.stringOp, bs_eq, go_sem]) hd h

theorem JA.neqStr {q : Operand} {a b : List UInt8} {t u : TypeId} (hreg : Reg ops) (hc : Calm Q) (ho : ops[i0]? = some ⟨some d, .binOp .neq t p q u, ty, pos, aft, g0⟩) (ht : Take ops listed i0 listed') (hg : guardYes ops l g0) (hs : ∀ a w, Holds x l own H a w → Stab so sH w) (h1 : evo l p = some (.string (bs a))) (h2 : evo l q = some (.string (bs b))) (hd : Nat.blt d x.n = true)
    (h : JA x ops Q so sH fuel listed' ((d, .bool (decide (a ≠ b))) :: l) own H) : JA x ops Q so sH (fuel + 1) listed l own H :=
  JA.val hreg hc ho ht hg hs (fun ρ w _ _ _ _ hρ hm => by simp [execOp, hρ _ _ h1, hρ _ _ h2, eqGuard, binOp, Op.stringOp, bs_eq, go_sem]) hd h

end Go.Ow
