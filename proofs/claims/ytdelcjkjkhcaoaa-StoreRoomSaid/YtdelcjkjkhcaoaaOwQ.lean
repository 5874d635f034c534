/-
  What is proved here: equality of structs; storing into a part of an element of an own row; over OwT.
-/
import Derived.Test.YtdelcjkjkhcaoaaOwT
import Derived.Laws.StructEq
namespace Go.Ow
open Go.RowKit
set_option linter.unusedVariables false
set_option linter.unusedSimpArgs false

variable {x : Cx} {ops : Array Oper} {Q : Exit → Act → World → Prop} {rest : List Oper} {l : Slots} {own : List Own} {H HF : Heaplet}
variable {ty : TypeId} {d : Nat} {pos : String} {aft : Array Edge} {v : Value} {p q : Operand} {t u : TypeId}

/-! ### Equality -/
def EqF (P : Program) (d : Nat) (xs ys : Array Value) : List Field → Bool → Prop
  | [], b => b = true
  | f :: fs, b => f.name ≠ "_" ∧ ∃ (p q : Value) (b1 b2 : Bool), (∀ w, (part f.type xs f.offset).run P w = .ok p w) ∧ (∀ w, (part f.type ys f.offset).run P w = .ok q w) ∧
      (∀ w, (Op.equalIn d f.type p q).run P w = .ok b1 w) ∧ EqF P d xs ys fs b2 ∧ b = (b1 && b2)
theorem EqF.run {P : Program} {d : Nat} {xs ys : Array Value} : ∀ {fs : List Field} {b : Bool}, EqF P d xs ys fs b → ∀ w, (Op.eqFields d xs ys fs).run P w = .ok b w
  | [], b, h, w => by simp only [EqF] at h; subst h; rfl
  | f :: fs, b, h, w => by
    obtain ⟨hn, p, q, b1, b2, h1, h2, h3, h4, rfl⟩ := h
    simp only [Op.eqFields, hn, ne_eq, not_false_eq_true, if_true, Sem.run_bind, h1, h2, h3, Result.andThen, Sem.run_ite]
    cases b1 with
    | true => simpa using EqF.run h4 w
    | false => simp [Sem.run_pure]
theorem run_part1 {P : Program} {T n : Nat} {cs : Array Value} {off : Nat} {v : Value} (hs : shapeOf P T = some (false, n)) (h : cs.toList[off]? = some v) (w : World) : (part T cs off).run P w = .ok v w := by
  have h' : cs[off]? = some v := by simpa using h
  simp only [part, Sem.run_bind, run_isAgg hs, Result.andThen, Bool.false_eq_true, if_false, h', Sem.run_pure]
theorem run_partN {P : Program} {T n : Nat} {cs vs : Array Value} {off : Nat} (hs : shapeOf P T = some (true, n)) (h : cs.extract off (off + n) = vs) (w : World) : (part T cs off).run P w = .ok (.agg vs) w := by
  simp only [part, Sem.run_bind, run_isAgg hs, run_sizeOf hs, Result.andThen, if_true, h, Sem.run_pure]
section eqf
variable {P : Program} {xs ys : Array Value} {f : Field} {fs : List Field} {bb : Bool} {k : Nat}
theorem EqF.nil : EqF P k xs ys [] true := rfl
theorem EqF.i {kk k' : IntKind} {n : Nat} {a b : Int} (hn : f.name ≠ "_") (hs : shapeOf P f.type = some (false, n)) (hu : P.underlying f.type = some (.int k')) (h1 : xs.toList[f.offset]? = some (.int kk a)) (h2 : ys.toList[f.offset]? = some (.int kk b)) (h : EqF P (k + 1) xs ys fs bb) :
    EqF P (k + 1) xs ys (f :: fs) (decide (a = b) && bb) :=
  ⟨hn, _, _, _, _, run_part1 hs h1, run_part1 hs h2, fun w => by rw [run_equalIn_int w k f.type kk k' a b hu, show (a == b) = decide (a = b) by rw [Bool.eq_iff_iff]; simp], h, rfl⟩
theorem EqF.u32 {k' : IntKind} {n : Nat} {a b : UInt32} (hn : f.name ≠ "_") (hs : shapeOf P f.type = some (false, n)) (hu : P.underlying f.type = some (.int k')) (h1 : xs.toList[f.offset]? = some (.int .u32 (a.toNat : Int))) (h2 : ys.toList[f.offset]? = some (.int .u32 (b.toNat : Int))) (h : EqF P (k + 1) xs ys fs bb) :
    EqF P (k + 1) xs ys (f :: fs) (decide (a = b) && bb) := by
  have := EqF.i hn hs hu h1 h2 h
  rw [show decide ((a.toNat : Int) = (b.toNat : Int)) = decide (a = b) by rw [Bool.eq_iff_iff]; simp only [decide_eq_true_eq, ← UInt32.toNat_inj]; omega] at this; exact this
theorem EqF.u8 {k' : IntKind} {n : Nat} {a b : UInt8} (hn : f.name ≠ "_") (hs : shapeOf P f.type = some (false, n)) (hu : P.underlying f.type = some (.int k')) (h1 : xs.toList[f.offset]? = some (.int .u8 (a.toNat : Int))) (h2 : ys.toList[f.offset]? = some (.int .u8 (b.toNat : Int))) (h : EqF P (k + 1) xs ys fs bb) :
    EqF P (k + 1) xs ys (f :: fs) (decide (a = b) && bb) := by
  have := EqF.i hn hs hu h1 h2 h
  rw [show decide ((a.toNat : Int) = (b.toNat : Int)) = decide (a = b) by rw [Bool.eq_iff_iff]; simp only [decide_eq_true_eq, ← UInt8.toNat_inj]; omega] at this; exact this
theorem EqF.s {n : Nat} {xs' ys' : Array Value} {fs' : List Field} {b : Bool} (hn : f.name ≠ "_") (hs : shapeOf P f.type = some (true, n)) (hu : P.underlying f.type = some (.struct (P.fieldsOf f.type))) (hp : P.stoodInHeld f.type = false) (hf : (P.fieldsOf f.type).toList = fs') (h1 : xs.extract f.offset (f.offset + n) = xs') (h2 : ys.extract f.offset (f.offset + n) = ys')
    (hi : EqF P k xs' ys' fs' b) (h : EqF P (k + 1) xs ys fs bb) : EqF P (k + 1) xs ys (f :: fs) (b && bb) :=
  ⟨hn, _, _, _, _, run_partN hs h1, run_partN hs h2, fun w => by rw [run_equalIn_struct w k f.type xs' ys' hu hp, hf]; exact hi.run w, h, rfl⟩
end eqf
theorem R.eqlAgg {xs ys : Array Value} {fs : List Field} {b : Bool} (hu : x.P.underlying t = some (.struct (x.P.fieldsOf t))) (hp : x.P.stoodInHeld t = false) (hg : x.P.eqGuardType x.P.depth t = false) (hf : (x.P.fieldsOf t).toList = fs)
    (h1 : evo l p = some (.agg xs)) (h2 : evo l q = some (.agg ys)) (h : EqF x.P 9999 xs ys fs b) : Runs x (.binOp .eql t p q u) ty l own H (.bool b) := fun ρ w _ _ _ _ hρ hm => by
  simp only [execOp, hρ _ _ h1, hρ _ _ h2]
  refine run_v ?_
  rw [Sem.run_bind, run_eqGuard_agg w .eql t p q xs ys hg]
  simp only [Result.andThen, run_eql_struct, run_equalIn_struct w 9999 t xs ys hu hp, hf, h.run w]
/-! ### A part of an element -/
end Go.Ow
