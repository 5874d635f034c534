/-
  What is proved here: what operations yield, told apart from when they are carried out; cuts and loops by a predicate on states; what is new memory; over OwM.
-/
import Derived.Test.YtdelcjkjkhcaoaaOwM
import Derived.Test.YtdelcjkjkhcaoaaOwPU
namespace Go.Ow
open Go.RowKit
set_option linter.unusedVariables false
set_option linter.unusedSimpArgs false

variable {x : Cx} {ops : Array Oper} {Q : Exit → Act → World → Prop} {rest : List Oper} {l : Slots} {own : List Own} {H : Heaplet}

theorem wrap_w64 (n : Int) : IntKind.i64.wrap n = w64 n := by
  simp only [IntKind.wrap, IntKind.bits, IntKind.signed, w64, Bool.true_and, decide_eq_true_eq, ge_iff_le]
  by_cases h : (2 : Int) ^ (64 - 1) ≤ n % 2 ^ 64
  · rw [if_pos h]; omega
  · rw [if_neg h]; omega

/-! ### Cuts -/
def HoldsI (x : Cx) (I : Slots → List Own → Heaplet → Prop) (a : Act) (w : World) : Prop := ∃ l o g, I l o g ∧ Holds x l o g a w
/-- whatever the code, what comes behind it is proved once, from the states of I -/
theorem JC.cut {c : Code} (I : Slots → List Own → Heaplet → Prop) (h2 : ∀ l o g, I l o g → JN x (Q .normal) l o g)
    (h1 : JC x c (Exit.then (HoldsI x I) Q) l own H) : JC x c Q l own H := fun a w hh => by
  refine wpIn_mono (h1 a w hh) ?_
  intro e a w hq
  cases e with
  | normal => obtain ⟨l, o, g, hI, hh⟩ := hq; exact h2 l o g hI a w hh
  | exit id => exact hq
  | goto t => exact hq
  | ret => exact hq
  | panic c => exact hq
  | outgrown => exact hq
theorem JN.cut {I : Slots → List Own → Heaplet → Prop} {l' : Slots} {o' : List Own} {g' : Heaplet} (hI : I l' o' g') (hl : Sub l' l) (ho : o' = own) (hg : g' = H) :
    JN x (Exit.then (HoldsI x I) Q .normal) l own H := fun a w hh => ⟨l', o', g', hI, by rw [ho, hg]; exact hh.sub hl⟩
/-- a loop; the number: how many rounds are left -/
theorem JC.loopI {c : Code} (I : Nat → Slots → List Own → Heaplet → Prop) (n0 : Nat) {l0 : Slots} (hb : ∀ l o g, ¬ I 0 l o g) (h0 : I n0 l0 own H) (hl : Sub l0 l)
    (round : ∀ n l o g, I (n + 1) l o g → JC x c (Exit.then (HoldsI x (I n)) Q) l o g) : JC x (.loop c) Q l own H := by
  refine JC.loop (ι := Nat × Slots × List Own × Heaplet) (fun i => i.2.1) (fun i => i.2.2.1) (fun i => i.2.2.2) (fun i => I i.1 i.2.1 i.2.2.1 i.2.2.2) (fun i => i.1) (n0, l0, own, H) h0 hl rfl rfl ?_
  rintro ⟨n, l', o', g'⟩ hI
  cases n with
  | zero => exact (hb _ _ _ hI).elim
  | succ n =>
    intro a w hh
    refine wpIn_mono (round n l' o' g' hI a w hh) ?_
    intro e a w hq
    cases e with
    | normal => obtain ⟨l2, o2, g2, hI2, hh2⟩ := hq; exact ⟨(n, l2, o2, g2), hI2, Nat.lt_succ_self n, hh2⟩
    | exit id => exact hq
    | goto t => exact hq
    | ret => exact hq
    | panic c => exact hq
    | outgrown => exact hq
theorem JC.condB {c : Tmp} {d e : Code} {b : Bool} (hc : lk l c = some (.bool b)) (ht : b = true → JC x d Q ((c, .bool true) :: l) own H) (hf : b = false → JC x e Q ((c, .bool false) :: l) own H) :
    JC x (.cond (.tmp c) d e) Q l own H := JC.cond hc ht hf
/-! ### Values of operations -/
section R
variable {ty : TypeId} {p q : Operand} {t u : TypeId} {v : Value}
theorem R.move (h1 : evo l p = some v) : Runs x (.move p) ty l own H v := fun ρ w _ _ _ _ hρ hm => by simp [execOp, hρ _ _ h1, go_sem]
theorem R.assign (h1 : evo l p = some v) : Runs x (.assign p) ty l own H v := fun ρ w _ _ _ _ hρ hm => by simp [execOp, hρ _ _ h1, go_sem]
theorem R.pickT {c : Operand} (hc : evo l c = some (.bool true)) (h1 : evo l p = some v) : Runs x (.pick c p q) ty l own H v := fun ρ w _ _ _ _ hρ hm => by simp [execOp, hρ _ _ hc, hρ _ _ h1, go_sem]
theorem R.pickF {c : Operand} (hc : evo l c = some (.bool false)) (h1 : evo l q = some v) : Runs x (.pick c p q) ty l own H v := fun ρ w _ _ _ _ hρ hm => by simp [execOp, hρ _ _ hc, hρ _ _ h1, go_sem]
theorem R.not {b : Bool} (h1 : evo l p = some (.bool b)) : Runs x (.unOp .not t p) ty l own H (.bool (!b)) := fun ρ w _ _ _ _ hρ hm => by simp [execOp, hρ _ _ h1, Op.unary, go_sem]
theorem R.extract {vs : Array Value} {i : Nat} (h1 : evo l p = some (.tuple vs)) (h2 : vs[i]? = some v) : Runs x (.extract p i) ty l own H v := fun ρ w _ _ _ _ hρ hm => by simp [execOp, hρ _ _ h1, Instr.extract, h2, go_sem]
theorem R.add_i {m n : Int} (h1 : evo l p = some (.int .i64 m)) (h2 : evo l q = some (.int .i64 n)) : Runs x (.binOp .add t p q u) ty l own H (.int .i64 (w64 (m + n))) :=
  fun ρ w _ _ _ _ hρ hm => by rw [← wrap_w64]; simp [execOp, hρ _ _ h1, hρ _ _ h2, eqGuard, binOp, Op.intArith, go_sem]
/-- a place goes on by one -/
theorem R.inc {k : Nat} {m : Int} (h1 : evo l p = some (.int .i64 (k : Int))) (h2 : evo l q = some (.int .i64 1)) (hk : (k : Int) < m) (hm : m ≤ 9223372036854775807) : Runs x (.binOp .add t p q u) ty l own H (.int .i64 ((k + 1 : Nat) : Int)) := by
  have := R.add_i (x := x) (own := own) (H := H) (ty := ty) (t := t) (u := u) h1 h2
  rw [w64_of (by omega) (by omega)] at this; exact this
theorem R.sub_i {m n : Int} (h1 : evo l p = some (.int .i64 m)) (h2 : evo l q = some (.int .i64 n)) : Runs x (.binOp .sub t p q u) ty l own H (.int .i64 (w64 (m - n))) :=
  fun ρ w _ _ _ _ hρ hm => by rw [← wrap_w64]; simp [execOp, hρ _ _ h1, hρ _ _ h2, eqGuard, binOp, Op.intArith, go_sem]
theorem R.mul_i {m n : Int} (h1 : evo l p = some (.int .i64 m)) (h2 : evo l q = some (.int .i64 n)) : Runs x (.binOp .mul t p q u) ty l own H (.int .i64 (w64 (m * n))) :=
  fun ρ w _ _ _ _ hρ hm => by rw [← wrap_w64]; simp [execOp, hρ _ _ h1, hρ _ _ h2, eqGuard, binOp, Op.intArith, go_sem]
theorem R.quo_i {m n : Int} (h1 : evo l p = some (.int .i64 m)) (h2 : evo l q = some (.int .i64 n)) (h0 : n ≠ 0) : Runs x (.binOp .quo t p q u) ty l own H (.int .i64 (w64 (m.tdiv n))) :=
  fun ρ w _ _ _ _ hρ hm => by rw [← wrap_w64]; simp [execOp, hρ _ _ h1, hρ _ _ h2, eqGuard, binOp, Op.intDiv, h0, go_sem]
theorem R.rem_i {m n : Int} (h1 : evo l p = some (.int .i64 m)) (h2 : evo l q = some (.int .i64 n)) (h0 : n ≠ 0) : Runs x (.binOp .rem t p q u) ty l own H (.int .i64 (m.tmod n)) :=
  fun ρ w _ _ _ _ hρ hm => by simp [execOp, hρ _ _ h1, hρ _ _ h2, eqGuard, binOp, Op.intDiv, h0, go_sem]
theorem R.shl_i {m n : Int} {k : IntKind} (h1 : evo l p = some (.int .i64 m)) (h2 : evo l q = some (.int k n)) (h0 : 0 ≤ n) : Runs x (.binOp .shl t p q u) ty l own H (.int .i64 (sli m n)) :=
  fun ρ w _ _ _ _ hρ hm => by rw [sli, ← wrap_w64]; simp [execOp, hρ _ _ h1, hρ _ _ h2, eqGuard, binOp, Op.shift, IntKind.bits, show ¬ n < 0 by omega, go_sem]
theorem R.lss_i {k : IntKind} {m n : Int} (h1 : evo l p = some (.int k m)) (h2 : evo l q = some (.int k n)) : Runs x (.binOp .lss t p q u) ty l own H (.bool (decide (m < n))) :=
  fun ρ w _ _ _ _ hρ hm => by simp [execOp, hρ _ _ h1, hρ _ _ h2, eqGuard, binOp, Op.intCmp, go_sem]
theorem R.leq_i {k : IntKind} {m n : Int} (h1 : evo l p = some (.int k m)) (h2 : evo l q = some (.int k n)) : Runs x (.binOp .leq t p q u) ty l own H (.bool (decide (m ≤ n))) :=
  fun ρ w _ _ _ _ hρ hm => by simp [execOp, hρ _ _ h1, hρ _ _ h2, eqGuard, binOp, Op.intCmp, go_sem]
theorem R.gtr_i {k : IntKind} {m n : Int} (h1 : evo l p = some (.int k m)) (h2 : evo l q = some (.int k n)) : Runs x (.binOp .gtr t p q u) ty l own H (.bool (decide (n < m))) :=
  fun ρ w _ _ _ _ hρ hm => by simp [execOp, hρ _ _ h1, hρ _ _ h2, eqGuard, binOp, Op.intCmp, go_sem]
theorem R.geq_i {k : IntKind} {m n : Int} (h1 : evo l p = some (.int k m)) (h2 : evo l q = some (.int k n)) : Runs x (.binOp .geq t p q u) ty l own H (.bool (decide (n ≤ m))) :=
  fun ρ w _ _ _ _ hρ hm => by simp [execOp, hρ _ _ h1, hρ _ _ h2, eqGuard, binOp, Op.intCmp, go_sem]
theorem R.eql_i {k : IntKind} {m n : Int} (h1 : evo l p = some (.int k m)) (h2 : evo l q = some (.int k n)) : Runs x (.binOp .eql t p q u) ty l own H (.bool (decide (m = n))) :=
  fun ρ w _ _ _ _ hρ hm => by simp [execOp, hρ _ _ h1, hρ _ _ h2, eqGuard, binOp, Op.intCmp, go_sem]; rw [Bool.eq_iff_iff]; simp
theorem R.neq_i {k : IntKind} {m n : Int} (h1 : evo l p = some (.int k m)) (h2 : evo l q = some (.int k n)) : Runs x (.binOp .neq t p q u) ty l own H (.bool (!decide (m = n))) :=
  fun ρ w _ _ _ _ hρ hm => by simp [execOp, hρ _ _ h1, hρ _ _ h2, eqGuard, binOp, Op.intCmp, go_sem]; rw [Bool.eq_iff_iff]; simp
theorem R.convW {k k' : IntKind} {m : Int} {s : TypeId} {ds : TypeDesc} (hs : x.P.underlying s = some ds) (ht : x.P.underlying t = some (.int k')) (h1 : evo l p = some (.int k m)) : Runs x (.convert s t p) ty l own H (.int k' (k'.wrap m)) :=
  fun ρ w _ _ _ _ hρ hm => by simp [execOp, hρ _ _ h1, convert, run_underlying hs, run_underlying ht, Conv.intToInt, go_sem]
theorem R.func {fn : Go.Fn} {fs cs : Array Operand} {vf vc : List Value} (h1 : fs.toList.mapM (evo l) = some vf) (h2 : cs.toList.mapM (evo l) = some vc) : Runs x (.makeFunc fn fs cs) ty l own H (.func fn vf.toArray vc.toArray) :=
  fun ρ w _ _ _ _ hρ hm => by
    have e1 := mapM_eval hρ h1
    have e2 := mapM_eval hρ h2
    simp [execOp, Instr.makeFunc, e1, e2, go_sem]
theorem R.fa {S k n b o : Nat} (hf : fieldOff x.P S k = some n) (h1 : evo l p = some (.pointer (some ⟨b, o, none⟩))) : Runs x (.fieldAddr S p k) ty l own H (.pointer (some ⟨b, o + n, none⟩)) :=
  fun ρ w _ _ _ _ hρ hm => by simp only [execOp, hρ _ _ h1]; exact run_v (run_fieldAt hf b o w)
theorem R.ld {T n b o : Nat} (hs : shapeOf x.P T = some (false, n)) (h1 : evo l p = some (.pointer (some ⟨b, o, none⟩))) (ha : At H own b o v) : Runs x (.load T p) ty l own H v :=
  fun ρ w _ _ _ _ hρ hm => by simp only [execOp, hρ _ _ h1]; exact run_v (run_load1 hs (ha.cell hm))
theorem R.ldN {T b o n : Nat} {vs : List Value} (hs : shapeOf x.P T = some (true, n)) (h1 : evo l p = some (.pointer (some ⟨b, o, none⟩))) (ha : ∀ j u, vs[j]? = some u → At H own b (o + j) u) (hn : vs.length = n) : Runs x (.load T p) ty l own H (.agg vs.toArray) :=
  fun ρ w _ _ _ _ hρ hm => by simp only [execOp, hρ _ _ h1]; exact run_v (run_loadN (by rw [hn]; exact hs) (fun j u e => (ha j u e).cell hm))
/-- out of an own block -/
theorem R.ldo (i : Nat) {T n b o : Nat} {cur : Array Value} {t : TypeId} {fr : Nat × Nat} (hs : shapeOf x.P T = some (false, n)) (h1 : evo l p = some (.pointer (some ⟨b, o, none⟩)))
    (hi : own[i]? = some [(b, .cells cur t fr)]) (hc : cur.toList[o]? = some v) : Runs x (.load T p) ty l own H v := R.ld hs h1 (.inr ⟨i, cur, t, fr, hi, by simpa using hc⟩)
theorem R.ldoN (i : Nat) {T b o n : Nat} {cur : Array Value} {t : TypeId} {fr : Nat × Nat} {vs : List Value} (hs : shapeOf x.P T = some (true, n)) (h1 : evo l p = some (.pointer (some ⟨b, o, none⟩)))
    (hi : own[i]? = some [(b, .cells cur t fr)]) (hv : vs = (cur.toList.drop o).take n) (hn : vs.length = n) : Runs x (.load T p) ty l own H (.agg vs.toArray) :=
  R.ldN hs h1 (fun j u e => .inr ⟨i, cur, t, fr, hi, by
    rw [hv, List.getElem?_take] at e
    split at e
    · simpa [List.getElem?_drop] using e
    · cases e⟩) hn
/-- out of the heaplet -/
theorem R.ldH {T n b o : Nat} (hs : shapeOf x.P T = some (false, n)) (h1 : evo l p = some (.pointer (some ⟨b, o, none⟩))) (ha : H b o = some v) : Runs x (.load T p) ty l own H v := R.ld hs h1 (.inl ha)
theorem R.ldHE {T b o n : Nat} {cs : List Value} (k : Nat) {vs : List Value} (hs : shapeOf x.P T = some (true, n)) (h1 : evo l p = some (.pointer (some ⟨b, o + k, none⟩))) (ha : ∀ j u, cs[j]? = some u → H b (o + j) = some u) (hv : vs = (cs.drop k).take n) (hn : vs.length = n) : Runs x (.load T p) ty l own H (.agg vs.toArray) :=
  R.ldN hs h1 (fun j u e => .inl (by
    rw [Nat.add_assoc]; refine ha _ _ ?_
    rw [hv, List.getElem?_take] at e
    split at e
    · simpa [List.getElem?_drop] using e
    · cases e)) hn
theorem R.len {ao : Option Addr} {n c : Nat} {e : TypeId} (hu : x.P.underlying t = some (.slice e)) (h1 : evo l p = some (.slice ao n c)) : Runs x (.call ⟨.builtin .len, #[p], #[t]⟩) ty l own H (.int .i64 (n : Int)) :=
  fun ρ w _ _ _ _ hρ hm => by simp [execOp, resolve, invoke, hρ _ _ h1, run_underlying hu, go_sem, Builtin.len_, goInt]
/-- a value that is a slice of so many -/
def Long (v : Value) (n : Nat) : Prop := ∃ ao cap, v = .slice ao n cap
theorem R.lenL {n : Nat} {e : TypeId} (hu : x.P.underlying t = some (.slice e)) (h1 : evo l p = some v) (hL : Long v n) : Runs x (.call ⟨.builtin .len, #[p], #[t]⟩) ty l own H (.int .i64 (n : Int)) := by
  obtain ⟨ao, cap, rfl⟩ := hL; exact R.len hu h1
theorem run_equalBool {P : Program} {w : World} {t : TypeId} {a b : Bool} (hu : P.underlying t = some .bool) : (Op.equal t (.bool a) (.bool b)).run P w = .ok (a == b) w := by
  have key : ∀ k, (Op.equalIn (k + 1) t (.bool a) (.bool b)).run P w = .ok (a == b) w := fun k => by
    unfold Op.equalIn
    rw [Sem.run_bind, run_underlying hu]
    rfl
  exact key 9999
theorem R.neqBool {a b : Bool} (hu : x.P.underlying t = some .bool) (h1 : evo l p = some (.bool a)) (h2 : evo l q = some (.bool b)) : Runs x (.binOp .neq t p q u) ty l own H (.bool (!(a == b))) :=
  fun ρ w _ _ _ _ hρ hm => by
    simp only [execOp, hρ _ _ h1, hρ _ _ h2]
    refine run_v ?_
    have hg : ∃ g : Bool, (eqGuard .neq t p q (.bool a) (.bool b)).run x.P w = .ok () w := ⟨true, by unfold eqGuard; split <;> rfl⟩
    obtain ⟨_, hg⟩ := hg
    rw [Sem.run_bind, hg]
    simp only [Result.andThen, binOp, Sem.run_bind, run_equalBool hu]; rfl
theorem R.eqlStr {a b : List UInt8} (h1 : evo l p = some (.string (bs a))) (h2 : evo l q = some (.string (bs b))) : Runs x (.binOp .eql t p q u) ty l own H (.bool (decide (a = b))) :=
  fun ρ w _ _ _ _ hρ hm => by simp [execOp, hρ _ _ h1, hρ _ _ h2, eqGuard, binOp, Op.stringOp, bs_eq, go_sem]
theorem R.neqStr {a b : List UInt8} (h1 : evo l p = some (.string (bs a))) (h2 : evo l q = some (.string (bs b))) : Runs x (.binOp .neq t p q u) ty l own H (.bool (!decide (a = b))) :=
  fun ρ w _ _ _ _ hρ hm => by simp [execOp, hρ _ _ h1, hρ _ _ h2, eqGuard, binOp, Op.stringOp, bs_eq, go_sem]
theorem R.toStr {s e : TypeId} {lb : List UInt8} (hs : x.P.underlying s = some (.slice e)) (he : x.P.underlying e = some (.int .u8)) (ht : x.P.underlying t = some .string) (h1 : evo l p = some v) (hB : IsSlice H RU8 1 v lb) : Runs x (.convert s t p) ty l own H (.string (bs lb)) := by
  obtain ⟨cells, hf, ao, cap, rfl, hcc⟩ := IsSlice.cells hB
  rw [hf.of_u8] at hcc
  exact fun ρ w _ _ _ _ hρ hm => by
    simp only [execOp, hρ _ _ h1]
    exact run_v (run_toStr hs he ht ⟨ao, cap, rfl, hcc.imp id (fun ⟨b, o, e1, e2⟩ => ⟨b, o, e1, fun j u hj => hm.1 _ _ _ (e2 j u hj)⟩)⟩)
theorem R.eqlNil {ao : Option Addr} {n c : Nat} {e : TypeId} (hu : x.P.underlying t = some (.slice e)) (h1 : evo l p = some (.slice ao n c)) (h2 : evo l q = some (.slice none 0 0)) : Runs x (.binOp .eql t p q u) ty l own H (.bool ao.isNone) :=
  fun ρ w _ _ _ _ hρ hm => by
    simp only [execOp, hρ _ _ h1, hρ _ _ h2]
    refine run_v ?_
    have hg : (eqGuard .eql t p q (.slice ao n c) (.slice none 0 0)).run x.P w = .ok () w := rfl
    rw [Sem.run_bind, hg]
    simp only [Result.andThen, binOp, Sem.run_bind, run_equalNil hu]; rfl
theorem R.bld {T : TypeId} {parts : Array (Nat × Operand)} {vs : List (Nat × Value)} {z : Value} {places : List (Nat × Nat)} {cells : Array Value} (hz : zeroOf x.P T = some z) (hp : placesOf x.P T = some places)
    (hv : parts.toList.mapM (fun p => (evo l p.2).map (fun u => (p.1, u))) = some vs) (hf : Instr.fill (places.toArray[·]?) z.cells vs = some cells) : Runs x (.build T parts) ty l own H (.agg cells) :=
  fun ρ w _ _ _ _ hρ hm => by
    simp only [execOp]
    have key : ∀ (ps : List (Nat × Operand)) (us : List (Nat × Value)), ps.mapM (fun p => (evo l p.2).map (fun u => (p.1, u))) = some us → ps.map (fun p => (p.1, ρ p.2)) = us := by
      intro ps
      induction ps with
      | nil => intro us e; simp at e; simp [e]
      | cons p ps ih =>
        intro us e
        simp only [List.mapM_cons, Option.bind_eq_bind, Option.bind_eq_some_iff, Option.map_eq_some_iff] at e
        obtain ⟨b, ⟨u, hu, rfl⟩, cs, hcs, e⟩ := e
        simp at e; subst e
        simp [ih cs hcs, hρ _ _ hu]
    have e : parts.map (fun p => (p.1, ρ p.2)) = vs.toArray := by
      rw [← key _ _ hv]; apply Array.ext'; simp
    have := run_build (P := x.P) (w := w) hz hp hf
    rw [← e] at this
    exact run_v this
end R

/-! ### Places in slices -/
/-- where the i-th of a slice begins -/
def ElemAt (v : Value) (n : Nat) (i : Int) (b o : Nat) : Prop := 0 ≤ i ∧ ∃ o0 len cap, v = .slice (some ⟨b, o0, none⟩) len cap ∧ o = o0 + i.toNat * n ∧ i.toNat < len
theorem IsSlice.elem {α : Type} {R : Rep α} {n : Nat} {v : Value} {m : List α} {i : Int} {y : α} {HF : Heaplet} (hS : IsSlice HF R n v m) (hA : Nth m i y) :
    ∃ b o cs, ElemAt v n i b o ∧ R HF cs y ∧ cs.length = n ∧ ∀ j u, cs[j]? = some u → HF b (o + j) = some u := by
  obtain ⟨ao, cap, rfl, e1, e2, e3, e4, e5⟩ := hS
  obtain ⟨b, o, cs, rfl, f1, f2, f3⟩ := e5 _ _ hA.2
  exact ⟨b, _, cs, ⟨hA.1, o, _, cap, rfl, rfl, (List.getElem?_eq_some_iff.1 hA.2).1⟩, f2, f1, f3⟩
theorem RowOf.elem {α : Type} {R : Rep α} {n B : Nat} {E : TypeId} {v : Value} {m : List α} {K : Own} {i : Int} {y : α} {HF : Heaplet} (hS : RowOf HF R B E n v m K) (hA : Nth m i y) :
    ∃ b o cs cur, K = [(b, .cells cur E (0, 0))] ∧ ElemAt v n i b o ∧ R HF cs y ∧ cs.length = n ∧ ∀ j u, cs[j]? = some u → cur.toList[o + j]? = some u := by
  obtain ⟨cells, ⟨h0, h3⟩, hf, ho⟩ := hS
  rcases h3 with ⟨rfl, h3, rfl⟩ | ⟨b, cap, cur, rfl, rfl, e3, e4, e5, e6, e7⟩
  · have : m = [] := List.length_eq_zero_iff.1 h3
    subst this; simp [Nth] at hA
  · obtain ⟨cs, f1, f2, f3⟩ := hf.at hA.2
    refine ⟨b, _, cs, cur, rfl, ⟨hA.1, 0, _, cap, rfl, rfl, (List.getElem?_eq_some_iff.1 hA.2).1⟩, f2, f1, fun j u hj => ?_⟩
    have := f3 j u hj
    rw [← e7, List.getElem?_take] at this
    split at this
    · rw [Nat.zero_add]; exact this
    · cases this
section R2
variable {ty : TypeId} {p q : Operand} {t u : TypeId} {v : Value}
theorem R.ix {T e : TypeId} {g : Bool} {n b o : Nat} {i : Int} {kk : IntKind} (hu : x.P.underlying T = some (.slice e)) (hs : shapeOf x.P e = some (g, n)) (h1 : evo l p = some v) (h2 : evo l q = some (.int kk i)) (hE : ElemAt v n i b o) :
    Runs x (.indexAddr T p q) ty l own H (.pointer (some ⟨b, o, none⟩)) := by
  obtain ⟨h0, o0, len, cap, rfl, rfl, hlt⟩ := hE
  obtain ⟨k, rfl⟩ := Int.eq_ofNat_of_zero_le h0
  exact fun ρ w _ _ _ _ hρ hm => by simp only [execOp, hρ _ _ h1, hρ _ _ h2]; exact run_v (run_indexAt hu hs (by simpa using hlt) w)
/-- an index of the unsigned kinds -/
theorem R.slc {α : Type} {R : Rep α} {size cap : Nat} {e : TypeId} {g : Bool} {a b c : Int} {lo hi mx : Option Operand} {m : List α} {v' : Value} (hu : x.P.underlying t = some (.slice e)) (hs : shapeOf x.P e = some (g, size)) (h0 : evo l p = some v)
    (h1 : match lo with | none => a = 0 | some o => ∃ kk, evo l o = some (.int kk a)) (h2 : match hi with | none => b = m.length | some o => ∃ kk, evo l o = some (.int kk b)) (h3 : match mx with | none => ∃ ao n, v = .slice ao n cap ∧ c = cap | some o => ∃ kk, evo l o = some (.int kk c))
    (hab : 0 ≤ a ∧ a ≤ b ∧ b ≤ c) (hv : ∃ ao, v = .slice ao m.length cap ∧ c ≤ cap ∧ v' = sliced ao a.toNat b.toNat c.toNat size) (hmx : mx = none ∨ hi ≠ none) :
    Runs x (.slice t p lo hi mx) ty l own H v' := by
  obtain ⟨ao, rfl, hc, rfl⟩ := hv
  obtain ⟨a, rfl⟩ := Int.eq_ofNat_of_zero_le hab.1
  obtain ⟨b, rfl⟩ := Int.eq_ofNat_of_zero_le (show 0 ≤ b by omega)
  obtain ⟨c, rfl⟩ := Int.eq_ofNat_of_zero_le (show 0 ≤ c by omega)
  exact fun ρ w _ _ _ _ hρ hm => by
    simp only [execOp, hρ _ _ h0]
    refine run_v (run_slc hu hs ρ hρ lo hi mx a b c ?_ ?_ ?_ (by omega) (by omega) (by omega) hmx w)
    · cases lo with
      | none => simp only at h1; simp only [bnd]; omega
      | some o => obtain ⟨kk, h⟩ := h1; exact ⟨kk, _, h, rfl⟩
    · cases hi with
      | none => simp only at h2; simp only [bnd]; omega
      | some o => obtain ⟨kk, h⟩ := h2; exact ⟨kk, _, h, rfl⟩
    · cases mx with
      | none => obtain ⟨ao', n', e1, e2⟩ := h3; simp only [Value.slice.injEq] at e1; simp only [bnd]; omega
      | some o => obtain ⟨kk, h⟩ := h3; exact ⟨kk, _, h, rfl⟩
end R2
/-- a part of a slice, as a value -/
theorem IsSlice.cutv {α : Type} {R : Rep α} {size : Nat} {v : Value} {m m' : List α} {a b : Int} {HF : Heaplet} (h : IsSlice HF R size v m) (hm : m' = cut m a b) (hab : 0 ≤ a ∧ a ≤ b ∧ b ≤ m.length) :
    ∃ v' cap, (∃ ao n, v = .slice ao n cap ∧ (cap : Int) = cap) ∧ b ≤ cap ∧ (∃ ao, v = .slice ao m.length cap ∧ (cap : Int) ≤ cap ∧ v' = sliced ao a.toNat b.toNat (cap : Int).toNat size) ∧ IsSlice HF R size v' m' := by
  subst hm
  obtain ⟨ao, cap, rfl, e1, r⟩ := h
  have hs := IsSlice.sub (ao := ao) (n := m.length) (cap := cap) ⟨ao, cap, rfl, e1, r⟩ a.toNat b.toNat cap (by omega) (by omega) (by omega) (Nat.le_refl _)
  exact ⟨_, cap, ⟨ao, _, rfl, rfl⟩, by omega, ⟨ao, rfl, Int.le_refl _, rfl⟩, by simpa [cut] using hs⟩
theorem IsSlice.long {α : Type} {R : Rep α} {size : Nat} {v : Value} {m : List α} {HF : Heaplet} (h : IsSlice HF R size v m) : Long v m.length := by obtain ⟨ao, cap, e, _⟩ := h; exact ⟨ao, cap, e⟩
theorem RowOf.long {α : Type} {R : Rep α} {B : Nat} {E : TypeId} {size : Nat} {v : Value} {ls : List α} {K : Own} {HF : Heaplet} (h : RowOf HF R B E size v ls K) : Long v ls.length := by
  obtain ⟨ao, cap, e, _⟩ := h.len; exact ⟨ao, cap, e⟩
theorem IsSlice.lenI {α : Type} {R : Rep α} {size : Nat} {v : Value} {m : List α} {HF : Heaplet} (h : IsSlice HF R size v m) : (m.length : Int) ≤ 9223372036854775807 := by have := h.len_le; omega
theorem RowOf.lenI {α : Type} {R : Rep α} {B : Nat} {E : TypeId} {size : Nat} {v : Value} {ls : List α} {K : Own} {HF : Heaplet} (h : RowOf HF R B E size v ls K) : (ls.length : Int) ≤ 9223372036854775807 := by
  obtain ⟨ao, cap, e, h1, h2⟩ := h.len; unfold maxLen at h2; omega

/-! ### What is new -/
/-- the cells of H' that H has not -/
def New (H H' : Heaplet) : Heaplet := fun b o => match H b o with
  | none => H' b o
  | some _ => none
theorem New.le (H H' : Heaplet) : Hle (New H H') H' := fun b o v h => by
  unfold New at h; split at h
  · exact h
  · cases h
theorem New.mono {H H1 H2 : Heaplet} (h : Hle H1 H2) : Hle (New H H1) (New H H2) := fun b o v e => by
  unfold New at e ⊢
  split at e
  · rename_i hn; simp [hn, h _ _ _ e]
  · cases e
/-- what is new behind a call is new -/
theorem New.call {H0 H H' : Heaplet} (h : Hle H0 H) : Hle (New H H') (New H0 H') := fun b o v e => by
  unfold New at e ⊢
  split at e
  · rename_i hn
    cases h0 : H0 b o with
    | none => simp [e]
    | some u => rw [h _ _ _ h0] at hn; cases hn
  · cases e
def Rep.Const {α : Type} (R : Rep α) : Prop := ∀ H H' cs x, R H cs x → R H' cs x
theorem RU8.const : RU8.Const := fun _ _ _ _ h => h
theorem RU32.const : RU32.Const := fun _ _ _ _ h => h
theorem RBool.const : RBool.Const := fun _ _ _ _ h => h
/-- a number, of whatever size -/
def RInt : Rep Int := fun _ cs n => cs = [.int .i64 n]
theorem RInt.const : RInt.Const := fun _ _ _ _ h => h
theorem RInt.mono : RInt.Mono := fun _ _ _ _ _ h => h
theorem RInt.one : RInt.One := fun _ cs y h => by rw [show cs = _ from h]; intro u hu; simp at hu; subst hu; rfl
def RU64 : Rep UInt64 := fun _ cs n => cs = [.int .u64 n.toNat]
theorem RU64.const : RU64.Const := fun _ _ _ _ h => h
theorem RU64.mono : RU64.Mono := fun _ _ _ _ _ h => h
theorem RU64.one : RU64.One := fun _ cs y h => by rw [show cs = _ from h]; intro u hu; simp at hu; subst hu; rfl
/-- a slice inside of a datum -/
def RSl {α : Type} (R : Rep α) (size : Nat) : Rep (List α) := fun H cs l => ∃ v, cs = [v] ∧ IsSlice H R size v l
theorem RSl.mono {α : Type} {R : Rep α} {size : Nat} (hR : R.Mono) : (RSl R size).Mono := fun _ _ _ _ hle ⟨v, e, h⟩ => ⟨v, e, h.mono hR hle⟩
theorem IsSlice.one1 {α : Type} {R : Rep α} {size : Nat} {v : Value} {m : List α} {HF : Heaplet} (h : IsSlice HF R size v m) : v.oneCell' = true := by obtain ⟨ao, cap, rfl, _⟩ := h; rfl
theorem RSl.one {α : Type} {R : Rep α} {size : Nat} : (RSl R size).One := fun _ _ _ ⟨v, e, h⟩ => by subst e; intro u hu; simp at hu; subst hu; exact h.one1
theorem Flat.conv {α : Type} {R : Rep α} {H1 H2 : Heaplet} (hR : ∀ cs y, R H1 cs y → R H2 cs y) {size : Nat} : ∀ {l : List α} {cells : List Value}, Flat H1 R size cells l → Flat H2 R size cells l
  | [], cells, h => h
  | y :: r, cells, h => by
    obtain ⟨cs, more, rfl, h1, h2, h3⟩ := h
    exact ⟨cs, more, rfl, h1, hR _ _ h2, Flat.conv hR h3⟩
theorem RowOf.const {α : Type} {R : Rep α} (hR : R.Const) {H1 H2 : Heaplet} {B : Nat} {E : TypeId} {size : Nat} {v : Value} {ls : List α} {K : Own} (h : RowOf H1 R B E size v ls K) : RowOf H2 R B E size v ls K := by
  obtain ⟨cells, h1, h2, h3⟩ := h
  exact ⟨cells, h1, h2.conv (hR _ _), h3⟩

/-! ### Publishing: what was an own row is new memory -/
theorem Holds.pubN {α : Type} {R : Rep α} (hR : R.Mono) {i : Nat} {K : Own} {B : Nat} {E : TypeId} {size : Nat} {v : Value} {ls : List α} (hi : own[i]? = some K) (hr : RowOf (New x.H0 H) R B E size v ls K) (hB : x.w0.heap.size ≤ B)
    {a : Act} {w : World} (hh : Holds x l own H a w) : ∃ H', Hle H H' ∧ IsSlice (New x.H0 H') R size v ls ∧ Holds x l (own.set i []) H' a w := by
  obtain ⟨cells, ⟨h0, h1⟩, hf, ho⟩ := hr
  rcases h1 with ⟨rfl, h3, rfl⟩ | ⟨g, cap, cur, rfl, rfl, e3, e4, e5, e6, e7⟩
  · have : ls = [] := List.length_eq_zero_iff.1 h3
    subst this
    exact ⟨H, Hle.refl _, IsSlice.nil _ _ _, hh.size, hh.ds, hh.slots, by
      have e : own.set i [] = own := by
        apply List.ext_getElem?
        intro j
        rw [List.getElem?_set]
        split
        · rename_i hj; subst hj; rw [hi]; split
          · rfl
          · rename_i hlt; have := (List.getElem?_eq_some_iff.1 hi).1; omega
        · rfl
      rw [e]; exact hh.mem⟩
  · have hm := Mem.pub hh.mem hi (Nat.le_trans hB e3)
    have hgn : ∀ o, H g o = none := fun o => (own_here hh.mem hi).apart (g, .cells cur E (0, 0)) (by simp) o
    have hg0 : ∀ o, x.H0 g o = none := fun o => by
      cases h : x.H0 g o with
      | none => rfl
      | some v => have := hh.mem.le _ _ _ h; rw [hgn] at this; cases this
    have hle : Hle H (fun b o => if b = g then cur[o]? else H b o) := fun b o v e => by
      by_cases hb : b = g
      · subst hb; rw [hgn] at e; cases e
      · simp [hb, e]
    refine ⟨_, hle, ?_, hh.size, hh.ds, hh.slots, hm⟩
    refine IsSlice.of_cells (hf.mono hR (New.mono hle)) e4 e5 (fun j u hj => ?_)
    rw [← e7, List.getElem?_take] at hj
    split at hj
    · simp [New, hg0]; simpa using hj
    · cases hj
theorem JN.pubN {C : Act → World → Prop} {α : Type} {R : Rep α} (i : Nat) (hR : R.Mono) {K : Own} {B : Nat} {E : TypeId} {size : Nat} {v : Value} {ls : List α} (hi : own[i]? = some K) (hr : RowOf (New x.H0 H) R B E size v ls K) (hB : x.w0.heap.size ≤ B)
    (h : ∀ H', Hle H H' → IsSlice (New x.H0 H') R size v ls → JN x C l (own.set i []) H') : JN x C l own H := fun a w hh => by
  obtain ⟨H', h1, h2, h3⟩ := hh.pubN hR hi hr hB; exact h H' h1 h2 a w h3
theorem JL.pubN {α : Type} {R : Rep α} (i : Nat) (hR : R.Mono) {K : Own} {B : Nat} {E : TypeId} {size : Nat} {v : Value} {ls : List α} (hi : own[i]? = some K) (hr : RowOf (New x.H0 H) R B E size v ls K) (hB : x.w0.heap.size ≤ B)
    (h : ∀ H', Hle H H' → IsSlice (New x.H0 H') R size v ls → JL x ops Q rest l (own.set i []) H') : JL x ops Q rest l own H := JN.pubN (C := fun a w => wpLs x.P x.r ops Q rest a w) i hR hi hr hB h

/-! ### Results -/
def Res (P : Program) (l : Slots) (own : List Own) : List ResultVar → List Value → Prop
  | [], vs => vs = []
  | .tmp t :: rs, vs => ∃ v r, vs = v :: r ∧ lk l t = some v ∧ Res P l own rs r
  | .cell t T :: rs, vs => ∃ v r, vs = v :: r ∧ (∃ (b i : Nat) (cur : Array Value) (tt : TypeId) (fr : Nat × Nat), lk l t = some (.pointer (some ⟨b, 0, none⟩)) ∧ own[i]? = some [(b, Obj.cells cur tt fr)] ∧
      ((shapeOf P T = some (true, cur.toList.length) ∧ v = .agg cur) ∨ (∃ n, shapeOf P T = some (false, n) ∧ cur.toList[0]? = some v))) ∧ Res P l own rs r
theorem Res.tmp {P : Program} {t : Tmp} {v : Value} {rs : List ResultVar} {r : List Value} (h : lk l t = some v) (k : Res P l own rs r) : Res P l own (.tmp t :: rs) (v :: r) := ⟨v, r, rfl, h, k⟩
theorem Res.cellN {P : Program} {t : Tmp} {T b : Nat} {cur : Array Value} {tt : TypeId} {fr : Nat × Nat} {rs : List ResultVar} {r : List Value} (i : Nat) (h : lk l t = some (.pointer (some ⟨b, 0, none⟩))) (hi : own[i]? = some [(b, Obj.cells cur tt fr)])
    (hs : shapeOf P T = some (true, cur.toList.length)) (k : Res P l own rs r) : Res P l own (.cell t T :: rs) (.agg cur :: r) := ⟨_, r, rfl, ⟨b, i, cur, tt, fr, h, hi, .inl ⟨hs, rfl⟩⟩, k⟩
def pack : List Value → Value
  | [v] => v
  | vs => .tuple vs.toArray
def resF (tmps : Array Value) : ResultVar → Sem Value
  | .tmp t => pure (tmps.getD t undef)
  | .cell a t => do loadVar t (← asAddr (tmps.getD a undef))
theorem res_mapM {w : World} {a : Act} (hh : Holds x l own H a w) : ∀ (rs : List ResultVar) (vs : List Value), Res x.P l own rs vs → (rs.mapM (resF a.tmps)).run x.P w = .ok vs w
  | [], vs, h => by simp only [Res] at h; subst h; rfl
  | .tmp t :: rs, vs, h => by
    obtain ⟨v, r, rfl, h1, h2⟩ := h
    rw [List.mapM_cons]
    simp only [resF, Sem.run_bind, Sem.run_pure, Result.andThen, res_mapM hh rs r h2, Array.getD_eq_getD_getElem?, hh.slots t _ h1]
  | .cell t T :: rs, vs, h => by
    obtain ⟨v, r, rfl, ⟨b, i, cur, tt, fr, h1, hi, hcase⟩, h2⟩ := h
    rw [List.mapM_cons]
    have hb := hh.mem.ok.here (b, .cells cur tt fr) (List.mem_flatten.2 ⟨_, List.mem_of_getElem? hi, by simp⟩)
    have hl' : (loadVar T ⟨b, 0, none⟩).run x.P w = .ok v w := by
      have e : Instr.loadAt T (.pointer (some ⟨b, 0, none⟩)) = loadVar T ⟨b, 0, none⟩ := by simp [Instr.loadAt, Instr.sureAddr]
      rw [← e]
      rcases hcase with ⟨hs, rfl⟩ | ⟨n, hs, hc⟩
      · have hl := run_loadN (P := x.P) (T := T) (w := w) (b := b) (o := 0) (vs := cur.toList) hs (fun j u e => by rw [Nat.zero_add, cell_of_row w b j cur tt fr hb]; simpa using e)
        simpa using hl
      · exact run_load1 hs (by rw [cell_of_row w b 0 cur tt fr hb]; simpa using hc)
    simp only [resF, Sem.run_bind, Sem.run_pure, Result.andThen, Array.getD_eq_getD_getElem?, hh.slots t _ h1, asAddr, hl', res_mapM hh rs r h2]
theorem res_run {fn : Func} {w : World} {a : Act} {rs : List ResultVar} {vs : List Value} (hh : Holds x l own H a w) (hr : fn.results = rs.toArray) (h : Res x.P l own rs vs) : (results fn a.tmps).run x.P w = .ok (pack vs) w := by
  have := res_mapM hh rs vs h
  have e : results fn a.tmps = (do let vs ← fn.results.mapM (resF a.tmps); pure (if h : vs.size = 1 then vs[0] else .tuple vs)) := by
    unfold results; congr 1
  rw [e, hr]
  simp only [Sem.run_bind, Array.mapM_eq_mapM_toList, map_eq_pure_bind, Result.andThen]
  rw [this]
  simp only [Sem.run_pure]
  congr 1
  cases vs with
  | nil => rfl
  | cons v r => cases r <;> simp [pack]
theorem JN.outP {fn : Func} {R : Value → List Own → Heaplet → Prop} {e : Exit} {rs : List ResultVar} {vs : List Value} {K rst : List Own} (he : e = .ret ∨ e = .normal) (hr : fn.results = rs.toArray) (hd : x.ds = []) (hv : Res x.P l own rs vs)
    (hp : own.flatten.Perm (K.flatten ++ rst.flatten)) (h : R (pack vs) K H) : JN x (Ret x fn R e) l own H := fun a w hh => by
  have hm : Mem x.w0 x.H0 x.S K.flatten H w := (hh.mem.perm hp).sub (List.sublist_append_left _ _)
  have : bodyPost x.P fn (fun e w' => ∃ v K' H', e = .returned v ∧ R v K' H' ∧ Mem x.w0 x.H0 x.S K'.flatten H' w') .ret a w :=
    ⟨hh.ds.trans hd, _, res_run hh hr hv, _, K, H, rfl, h, hm⟩
  rcases he with rfl | rfl <;> exact this
end Go.Ow
