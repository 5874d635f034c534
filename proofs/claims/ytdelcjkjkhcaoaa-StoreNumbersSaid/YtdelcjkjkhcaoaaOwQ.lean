/-
  What is proved here: equality of structs; storing into a part of an element of an own row; over OwT.
-/
import Derived.Test.YtdelcjkjkhcaoaaOwT
import Derived.Laws.StructEq
namespace Go.Ow
open Go.RowKit
set_option linter.unusedVariables false
set_option linter.unusedSimpArgs false

variable {x : Cx} {ops : Array Oper} {Q : Exit → Act → World → Prop} {rest : List Oper} {l : Slots} {own : List Own} {H HF : Heaplet}
variable {ty : TypeId} {d : Nat} {pos : String} {aft : Array Edge} {v : Value} {p q : Operand} {t u : TypeId}

/-! ### Equality -/
def EqF (P : Program) (d : Nat) (xs ys : Array Value) : List Field → Bool → Prop
  | [], b => b = true
  | f :: fs, b => f.name ≠ "_" ∧ ∃ (p q : Value) (b1 b2 : Bool), (∀ w, (part f.type xs f.offset).run P w = .ok p w) ∧ (∀ w, (part f.type ys f.offset).run P w = .ok q w) ∧
      (∀ w, (Op.equalIn d f.type p q).run P w = .ok b1 w) ∧ EqF P d xs ys fs b2 ∧ b = (b1 && b2)
theorem EqF.run {P : Program} {d : Nat} {xs ys : Array Value} : ∀ {fs : List Field} {b : Bool}, EqF P d xs ys fs b → ∀ w, (Op.eqFields d xs ys fs).run P w = .ok b w
  | [], b, h, w => by simp only [EqF] at h; subst h; rfl
  | f :: fs, b, h, w => by
    obtain ⟨hn, p, q, b1, b2, h1, h2, h3, h4, rfl⟩ := h
    simp only [Op.eqFields, hn, ne_eq, not_false_eq_true, if_true, Sem.run_bind, h1, h2, h3, Result.andThen, Sem.run_ite]
    cases b1 with
    | true => simpa using EqF.run h4 w
    | false => simp [Sem.run_pure]
theorem run_part1 {P : Program} {T n : Nat} {cs : Array Value} {off : Nat} {v : Value} (hs : shapeOf P T = some (false, n)) (h : cs.toList[off]? = some v) (w : World) : (part T cs off).run P w = .ok v w := by
  have h' : cs[off]? = some v := by simpa using h
  simp only [part, Sem.run_bind, run_isAgg hs, Result.andThen, Bool.false_eq_true, if_false, h', Sem.run_pure]
theorem run_partN {P : Program} {T n : Nat} {cs vs : Array Value} {off : Nat} (hs : shapeOf P T = some (true, n)) (h : cs.extract off (off + n) = vs) (w : World) : (part T cs off).run P w = .ok (.agg vs) w := by
  simp only [part, Sem.run_bind, run_isAgg hs, run_sizeOf hs, Result.andThen, if_true, h, Sem.run_pure]
section eqf
variable {P : Program} {xs ys : Array Value} {f : Field} {fs : List Field} {bb : Bool} {k : Nat}
theorem EqF.nil : EqF P k xs ys [] true := rfl
theorem EqF.i {kk k' : IntKind} {n : Nat} {a b : Int} (hn : f.name ≠ "_") (hs : shapeOf P f.type = some (false, n)) (hu : P.underlying f.type = some (.int k')) (h1 : xs.toList[f.offset]? = some (.int kk a)) (h2 : ys.toList[f.offset]? = some (.int kk b)) (h : EqF P (k + 1) xs ys fs bb) :
    EqF P (k + 1) xs ys (f :: fs) (decide (a = b) && bb) :=
  ⟨hn, _, _, _, _, run_part1 hs h1, run_part1 hs h2, fun w => by rw [run_equalIn_int w k f.type kk k' a b hu, show (a == b) = decide (a = b) by rw [Bool.eq_iff_iff]; simp], h, rfl⟩
theorem EqF.u32 {k' : IntKind} {n : Nat} {a b : UInt32} (hn : f.name ≠ "_") (hs : shapeOf P f.type = some (false, n)) (hu : P.underlying f.type = some (.int k')) (h1 : xs.toList[f.offset]? = some (.int .u32 (a.toNat : Int))) (h2 : ys.toList[f.offset]? = some (.int .u32 (b.toNat : Int))) (h : EqF P (k + 1) xs ys fs bb) :
    EqF P (k + 1) xs ys (f :: fs) (decide (a = b) && bb) := by
  have := EqF.i hn hs hu h1 h2 h
  rw [show decide ((a.toNat : Int) = (b.toNat : Int)) = decide (a = b) by rw [Bool.eq_iff_iff]; simp only [decide_eq_true_eq, ← UInt32.toNat_inj]; omega] at this; exact this
theorem EqF.u8 {k' : IntKind} {n : Nat} {a b : UInt8} (hn : f.name ≠ "_") (hs : shapeOf P f.type = some (false, n)) (hu : P.underlying f.type = some (.int k')) (h1 : xs.toList[f.offset]? = some (.int .u8 (a.toNat : Int))) (h2 : ys.toList[f.offset]? = some (.int .u8 (b.toNat : Int))) (h : EqF P (k + 1) xs ys fs bb) :
    EqF P (k + 1) xs ys (f :: fs) (decide (a = b) && bb) := by
  have := EqF.i hn hs hu h1 h2 h
  rw [show decide ((a.toNat : Int) = (b.toNat : Int)) = decide (a = b) by rw [Bool.eq_iff_iff]; simp only [decide_eq_true_eq, ← UInt8.toNat_inj]; omega] at this; exact this
theorem EqF.s {n : Nat} {xs' ys' : Array Value} {fs' : List Field} {b : Bool} (hn : f.name ≠ "_") (hs : shapeOf P f.type = some (true, n)) (hu : P.underlying f.type = some (.struct (P.fieldsOf f.type))) (hp : P.stoodInHeld f.type = false) (hf : (P.fieldsOf f.type).toList = fs') (h1 : xs.extract f.offset (f.offset + n) = xs') (h2 : ys.extract f.offset (f.offset + n) = ys')
    (hi : EqF P k xs' ys' fs' b) (h : EqF P (k + 1) xs ys fs bb) : EqF P (k + 1) xs ys (f :: fs) (b && bb) :=
  ⟨hn, _, _, _, _, run_partN hs h1, run_partN hs h2, fun w => by rw [run_equalIn_struct w k f.type xs' ys' hu hp, hf]; exact hi.run w, h, rfl⟩
end eqf
theorem R.eqlAgg {xs ys : Array Value} {fs : List Field} {b : Bool} (hu : x.P.underlying t = some (.struct (x.P.fieldsOf t))) (hp : x.P.stoodInHeld t = false) (hg : x.P.eqGuardType x.P.depth t = false) (hf : (x.P.fieldsOf t).toList = fs)
    (h1 : evo l p = some (.agg xs)) (h2 : evo l q = some (.agg ys)) (h : EqF x.P 9999 xs ys fs b) : Runs x (.binOp .eql t p q u) ty l own H (.bool b) := fun ρ w _ _ _ _ hρ hm => by
  simp only [execOp, hρ _ _ h1, hρ _ _ h2]
  refine run_v ?_
  rw [Sem.run_bind, run_eqGuard_agg w .eql t p q xs ys hg]
  simp only [Result.andThen, run_eql_struct, run_equalIn_struct w 9999 t xs ys hu hp, hf, h.run w]
theorem R.neqAgg {xs ys : Array Value} {fs : List Field} {b : Bool} (hu : x.P.underlying t = some (.struct (x.P.fieldsOf t))) (hp : x.P.stoodInHeld t = false) (hg : x.P.eqGuardType x.P.depth t = false) (hf : (x.P.fieldsOf t).toList = fs)
    (h1 : evo l p = some (.agg xs)) (h2 : evo l q = some (.agg ys)) (h : EqF x.P 9999 xs ys fs b) : Runs x (.binOp .neq t p q u) ty l own H (.bool (!b)) := fun ρ w _ _ _ _ hρ hm => by
  simp only [execOp, hρ _ _ h1, hρ _ _ h2]
  refine run_v ?_
  rw [Sem.run_bind, run_eqGuard_agg w .neq t p q xs ys hg]
  simp only [Result.andThen, run_neq_struct, run_equalIn_struct w 9999 t xs ys hu hp, hf, h.run w]

/-! ### A part of an element -/
theorem take_drop_split {α : Type} (l : List α) (k m n o : Nat) (h : k + m ≤ n) (ho : o + n ≤ l.length) (cs : List α) (hcs : cs = (l.drop o).take n) (u : List α) (hu : u.length = m) :
    l.take (o + k) ++ u ++ l.drop (o + k + m) = l.take o ++ (cs.take k ++ u ++ cs.drop (k + m)) ++ l.drop (o + n) := by
  subst hcs
  have e1 : l.take (o + k) = l.take o ++ ((l.drop o).take n).take k := by
    rw [List.take_take, Nat.min_eq_left (by omega), List.take_add]
  have e2 : l.drop (o + k + m) = ((l.drop o).take n).drop (k + m) ++ l.drop (o + n) := by
    rw [List.drop_take]
    have : l.drop (o + n) = (l.drop (o + k + m)).drop (n - (k + m)) := by rw [List.drop_drop]; congr 1; omega
    rw [this, List.drop_drop, show o + (k + m) = o + k + m by omega, List.take_append_drop]
  rw [e1, e2]; simp
theorem JL.stP {α : Type} {R : Rep α} (i : Nat) (k : Nat) {T E : TypeId} {g : Bool} {size m B b o : Nat} {j : Int} {v u : Value} {ms ms' : List α} {y' : α} {cs : List Value} {cur : Array Value} (hs : shapeOf x.P T = some (g, m)) (hi : own[i]? = some [(b, .cells cur E (0, 0))]) (hS : RowOf HF R B E size v ms [(b, .cells cur E (0, 0))])
    (h1 : evo l p = some (.pointer (some ⟨b, o + k, none⟩))) (hE : ElemAt v size j b o) (h2 : evo l q = some u) (hu : u.cells.size = m) (hc : ∀ j u, cs[j]? = some u → cur.toList[o + j]? = some u) (hl : cs.length = size)
    (hR : R HF (cs.take k ++ u.cells.toList ++ cs.drop (k + m)) y') (hR1 : R.One) (hk : k + m ≤ size) (hm : ms' = ms.set j.toNat y')
    (h : ∀ K', RowOf HF R B E size v ms' K' → ms'.length = ms.length → JL x ops Q rest l (own.set i K') H) : JL x ops Q (⟨none, .store T p q, ty, pos, aft, none⟩ :: rest) l own H := by
  obtain ⟨cells, ⟨h0, h3⟩, hf, ho⟩ := hS
  obtain ⟨hk0, o0, len, cap0, ev, rfl, hklt⟩ := hE
  rcases h3 with ⟨rfl, h3, h4⟩ | ⟨b', cap, cur', rfl, e2, e3, e4, e5, e6, e7⟩
  · cases h4
  · simp only [List.cons.injEq, Prod.mk.injEq, Obj.cells.injEq, and_true] at e2
    obtain ⟨rfl, rfl⟩ := e2
    simp only [Value.slice.injEq, Option.some.injEq, Addr.mk.injEq] at ev
    obtain ⟨⟨-, rfl, -⟩, rfl, rfl⟩ := ev
    have hj : j.toNat < ms.length := hklt
    subst hm
    have hone := hR1 _ _ _ hR
    have hks : j.toNat * size + size ≤ ms.length * size := by rw [← Nat.succ_mul]; exact Nat.mul_le_mul_right _ hj
    have hms : ms.length * size ≤ cap * size := Nat.mul_le_mul_right _ e4
    have hul : u.cells.toList.length = m := by simpa using hu
    have hcl : cap * size ≤ cur.toList.length := by simpa using e6
    have hone' : ∀ w ∈ u.cells.toList, w.oneCell' = true := fun w hw => hone w (by simp [hw])
    refine JL.store i hs h1 h2 hi hu (List.all_eq_true.2 hone') (by omega) (h _ ?_ (List.length_set ..))
    have hcs : cs = (cur.toList.drop (0 + j.toNat * size)).take size := by
      apply List.ext_getElem?
      intro n
      rw [List.getElem?_take]
      by_cases hn : n < size
      · rw [if_pos hn, List.getElem?_drop]
        have : cs[n]? = some cs[n] := by simp
        rw [this, hc n _ this]
      · rw [if_neg hn, List.getElem?_eq_none (by omega)]
    have hcl2 : (cs.take k ++ u.cells.toList ++ cs.drop (k + m)).length = size := by simp only [List.length_append, List.length_take, List.length_drop, hl, hul]; omega
    have hf' := Flat.set (y := y') hcl2 hR hf hj
    have es := take_drop_split cur.toList k m size (0 + j.toNat * size) hk (by omega) cs hcs u.cells.toList hul
    refine ⟨_, ⟨by rw [hf'.length], .inr ⟨b, cap, _, by rw [List.length_set], rfl, e3, by rw [List.length_set]; exact e4, e5, ?_, ?_⟩⟩, hf', ?_⟩
    · simp only [List.size_toArray, List.length_append, List.length_take, List.length_drop, hul]; omega
    · simp only [List.length_set, List.toList_toArray]
      rw [es, ← e7]
      generalize cs.take k ++ u.cells.toList ++ cs.drop (k + m) = C at hcl2
      rw [Nat.zero_add]
      rw [List.take_append, List.take_append, List.take_take, List.take_take, Nat.min_eq_right (by omega), Nat.min_eq_left (by omega)]
      rw [List.take_of_length_le (l := C) (by simp only [List.length_take, hcl2, hcl]; omega)]
      congr 1
      rw [List.take_drop]
      congr 2
      simp only [List.length_append, List.length_take, hcl2, hcl]; omega
    · intro w hw
      rcases List.mem_append.1 hw with hw | hw
      · rcases List.mem_append.1 hw with hw | hw
        · exact ho w (List.mem_of_mem_take hw)
        · exact hone w hw
      · exact ho w (List.mem_of_mem_drop hw)
end Go.Ow
