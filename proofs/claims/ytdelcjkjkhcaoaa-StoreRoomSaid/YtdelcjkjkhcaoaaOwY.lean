/-
  What is proved here: pieces of one block of bytes, named by the rows of a table (a slice of slices that a function has cut out of one piece of memory); over OwX.
-/
import Derived.Test.YtdelcjkjkhcaoaaOwX
namespace Go.Ow
open Go.RowKit
set_option linter.unusedVariables false
set_option linter.unusedSimpArgs false

variable {x : Cx} {ops : Array Oper} {Q : Exit → Act → World → Prop} {rest : List Oper} {l : Slots} {own : List Own} {H HF : Heaplet}
variable {ty : TypeId} {d : Nat} {pos : String} {aft : Array Edge} {v : Value} {p q : Operand} {t u : TypeId}

/-- one row of the table: from where on, how long -/
def RPc (hb : Nat) : Rep (Nat × Nat) := fun _ cs y => ∃ s, cs = [.slice (some ⟨hb, s, none⟩) y.2 y.2] ∧ (y.2 = 0 ∨ s = y.1)
theorem RPc.const (hb : Nat) : (RPc hb).Const := fun _ _ _ _ h => h
theorem RPc.mono (hb : Nat) : (RPc hb).Mono := fun _ _ _ _ _ h => h
theorem RPc.one (hb : Nat) : (RPc hb).One := fun _ _ _ ⟨s, e, _⟩ => by subst e; intro u hu; simp at hu; subst hu; rfl
/-- the places of pieces that lie one behind the other -/
def offs : Nat → List Nat → List (Nat × Nat)
  | _, [] => []
  | s, n :: r => (s, n) :: offs (s + n) r
theorem offs_length : ∀ (s : Nat) (ns : List Nat), (offs s ns).length = ns.length
  | _, [] => rfl
  | s, n :: r => by simp [offs, offs_length (s + n) r]
theorem offs_append : ∀ (s : Nat) (a b : List Nat), offs s (a ++ b) = offs s a ++ offs (s + a.sum) b
  | s, [], b => by simp [offs]
  | s, n :: r, b => by simp [offs, offs_append (s + n) r b, Nat.add_assoc]
def lens (bs : List (List UInt8)) : List Nat := bs.map List.length
theorem offs_at : ∀ (bs : List (List UInt8)) (s i : Nat) (b : List UInt8), bs[i]? = some b → (offs s (lens bs))[i]? = some (s + (bs.take i).flatten.length, b.length)
  | [], s, i, b, h => by simp at h
  | c :: r, s, 0, b, h => by simp at h; subst h; simp [lens, offs]
  | c :: r, s, i + 1, b, h => by
    have := offs_at r (s + c.length) i b (by simpa using h)
    simp only [lens, List.map_cons, offs, List.getElem?_cons_succ, List.take_succ_cons, List.flatten_cons, List.length_append] at this ⊢
    rw [this, Nat.add_assoc]
theorem flat_at : ∀ (bs : List (List UInt8)) (i : Nat) (b : List UInt8), bs[i]? = some b → bs.flatten = (bs.take i).flatten ++ b ++ (bs.drop (i + 1)).flatten
  | [], i, b, h => by simp at h
  | c :: r, 0, b, h => by simp at h; subst h; simp
  | c :: r, i + 1, b, h => by
    have := flat_at r i b (by simpa using h)
    simp [this]
theorem set_split : ∀ (bs : List (List UInt8)) (i : Nat) (b c : List UInt8), bs[i]? = some b → bs.set i c = bs.take i ++ c :: bs.drop (i + 1)
  | [], i, b, c, h => by simp at h
  | a :: r, 0, b, c, h => by simp
  | a :: r, i + 1, b, c, h => by simp [set_split r i b c (by simpa using h)]
theorem lens_set {bs : List (List UInt8)} {i : Nat} {b c : List UInt8} (h : bs[i]? = some b) (hl : c.length = b.length) : lens (bs.set i c) = lens bs := by
  unfold lens
  rw [List.map_set]
  apply List.ext_getElem?
  intro j
  rw [List.getElem?_set]
  split
  · rename_i hj
    subst hj
    split
    · simp [h, hl]
    · rename_i hlt; have := (List.getElem?_eq_some_iff.1 h).1; simp at hlt; omega
  · rfl

/-- a slice of slices of bytes, all of it owned: the table, and behind it the block that its rows are cut out of -/
def Pcs (B E8 Eb : Nat) (v : Value) (bs : List (List UInt8)) (K : Own) : Prop :=
  ∃ hb Kt, K = Kt ++ [(hb, .cells (bvs bs.flatten).toArray E8 (0, 0))] ∧ B ≤ hb ∧ bs.flatten.length ≤ maxLen ∧ RowOf (fun _ _ => none) (RPc hb) B Eb 1 v (offs 0 (lens bs)) Kt
theorem bvs_length (l : List UInt8) : (bvs l).length = l.length := by simp [bvs]
theorem Pcs.val {B E8 Eb : Nat} {bs : List (List UInt8)} {K : Own} (h : Pcs B E8 Eb v bs K) : ∃ ao cap, v = .slice ao bs.length cap := by
  obtain ⟨hb, Kt, _, _, _, hr⟩ := h
  obtain ⟨ao, cap, e, _⟩ := hr.len
  exact ⟨ao, cap, by rw [e, offs_length]; simp [lens]⟩
theorem Pcs.long {B E8 Eb : Nat} {bs : List (List UInt8)} {K : Own} (h : Pcs B E8 Eb v bs K) : Long v bs.length := by
  obtain ⟨ao, cap, e⟩ := h.val; exact ⟨ao, cap, e⟩
theorem Pcs.lenI {B E8 Eb : Nat} {bs : List (List UInt8)} {K : Own} (h : Pcs B E8 Eb v bs K) : (bs.length : Int) ≤ 9223372036854775807 := by
  obtain ⟨hb, Kt, _, _, _, hr⟩ := h
  have := hr.lenI; rw [offs_length] at this; simpa [lens] using this
theorem Pcs.weak {B B' E8 Eb : Nat} (hB : B' ≤ B) {bs : List (List UInt8)} {K : Own} (h : Pcs B E8 Eb v bs K) : Pcs B' E8 Eb v bs K := by
  obtain ⟨hb, Kt, e, h1, h2, hr⟩ := h
  exact ⟨hb, Kt, e, Nat.le_trans hB h1, h2, RowOf.weak hB hr⟩
theorem Pcs.base {B B' E8 Eb : Nat} {bs : List (List UInt8)} {K : Own} (h : Pcs B E8 Eb v bs K) (hB : ∀ p ∈ K, B' ≤ p.1) : Pcs B' E8 Eb v bs K := by
  obtain ⟨hb, Kt, rfl, h1, h2, hr⟩ := h
  exact ⟨hb, Kt, rfl, hB (hb, .cells (bvs bs.flatten).toArray E8 (0, 0)) (by simp), h2, hr.base (fun p hp => hB p (by simp [hp]))⟩
theorem Pcs.ge {B E8 Eb : Nat} {bs : List (List UInt8)} {K : Own} (h : Pcs B E8 Eb v bs K) : ∀ p ∈ K, B ≤ p.1 := by
  obtain ⟨hb, Kt, rfl, h1, h2, hr⟩ := h
  intro p hp
  rcases List.mem_append.1 hp with hp | hp
  · exact hr.ge p hp
  · simp at hp; subst hp; exact h1
theorem newP_ids {N E8 Eb : Nat} {bs : List (List UInt8)} {K : Own} {S : List Nat} (h : Pcs N E8 Eb v bs K) (hS : ∀ i ∈ S, i < N) : ∀ p ∈ K, p.1 ∉ S := fun p hp hm => by
  have h1 := h.ge p hp; have h2 := hS _ hm; omega

/-! ### The segment in two -/
theorem JL.part {K1 K2 : Own} {i : Nat} (hi : own[i]? = some (K1 ++ K2)) (h : JL x ops Q rest l (K2 :: own.set i K1) H) : JL x ops Q rest l own H := fun a w hh =>
  h a w ⟨hh.size, hh.ds, hh.slots, hh.mem.perm (by
    simp only [List.flatten_cons]
    refine (flatten_perm hi).trans ?_
    refine List.Perm.trans ?_ ((flatten_set_perm (seg' := K1) hi).symm.append_left K2)
    rw [← List.append_assoc]
    exact (List.perm_append_comm).append_right _)⟩
theorem JN.part {K : Act → World → Prop} {K1 K2 : Own} {i : Nat} (hi : own[i]? = some (K1 ++ K2)) (h : JN x K l (K2 :: own.set i K1) H) : JN x K l own H := fun a w hh =>
  h a w ⟨hh.size, hh.ds, hh.slots, hh.mem.perm (by
    simp only [List.flatten_cons]
    refine (flatten_perm hi).trans ?_
    refine List.Perm.trans ?_ ((flatten_set_perm (seg' := K1) hi).symm.append_left K2)
    rw [← List.append_assoc]
    exact (List.perm_append_comm).append_right _)⟩
/-! ### A row of the table, as a value -/
theorem Pcs.elem {B E8 Eb : Nat} {bs : List (List UInt8)} {K : Own} {b : List UInt8} {n : Int} (h : Pcs B E8 Eb v bs K) (hN : Nth bs n b) :
    ∃ g o cur K', K = [(g, .cells cur Eb (0, 0))] ++ K' ∧ ElemAt v 1 n g o ∧ ∃ hb s, cur.toList[o]? = some (.slice (some ⟨hb, s, none⟩) b.length b.length) ∧ (b.length = 0 ∨ s = (bs.take n.toNat).flatten.length) ∧
      K' = [(hb, .cells (bvs bs.flatten).toArray E8 (0, 0))] := by
  obtain ⟨hb, Kt, rfl, h1, h2, hr⟩ := h
  have hat := offs_at bs 0 n.toNat b hN.2
  obtain ⟨g, o, cs, cur, hK, hE, hR, hl, hc⟩ := hr.elem (i := n) ⟨hN.1, hat⟩
  obtain ⟨s, rfl, hs⟩ := hR
  subst hK
  refine ⟨g, o, cur, _, rfl, hE, hb, s, ?_, by simpa using hs, rfl⟩
  have := hc 0 _ rfl
  simpa using this

theorem R.ldM (i : Nat) {T n b o : Nat} {cur : Array Value} {tt : TypeId} {fr : Nat × Nat} {K : Own} (hs : shapeOf x.P T = some (false, n)) (h1 : evo l p = some (.pointer (some ⟨b, o, none⟩)))
    (hi : own[i]? = some K) (hm : (b, Obj.cells cur tt fr) ∈ K) (hc : cur.toList[o]? = some v) : Runs x (.load T p) ty l own H v :=
  fun ρ w _ _ _ _ hρ hst => by
    simp only [execOp, hρ _ _ h1]
    refine run_v (run_load1 hs ?_)
    rw [cell_of_row w b o cur tt fr (hst.2 (b, .cells cur tt fr) (List.mem_flatten.2 ⟨_, List.mem_of_getElem? hi, hm⟩))]
    simpa using hc
/-- the value of a row of the table -/
def PcAt (K : Own) (E8 : Nat) (bs : List (List UInt8)) (n : Int) (b : List UInt8) (pv : Value) : Prop :=
  ∃ hb s, pv = .slice (some ⟨hb, s, none⟩) b.length b.length ∧ (b.length = 0 ∨ s = (bs.take n.toNat).flatten.length) ∧ ∃ Kt, K = Kt ++ [(hb, Obj.cells (bvs bs.flatten).toArray E8 (0, 0))]
theorem Pcs.at {B E8 Eb : Nat} {bs : List (List UInt8)} {K : Own} {b : List UInt8} {n : Int} (h : Pcs B E8 Eb v bs K) (hN : Nth bs n b) :
    ∃ g o cur pv, ElemAt v 1 n g o ∧ (g, Obj.cells cur Eb (0, 0)) ∈ K ∧ cur.toList[o]? = some pv ∧ PcAt K E8 bs n b pv := by
  obtain ⟨g, o, cur, K', rfl, hE, hb, s, hc, hs, rfl⟩ := h.elem hN
  exact ⟨g, o, cur, _, hE, by simp, hc, hb, s, rfl, hs, _, rfl⟩
theorem PcAt.val {K : Own} {E8 : Nat} {bs : List (List UInt8)} {n : Int} {b : List UInt8} {pv : Value} (h : PcAt K E8 bs n b pv) : ∃ ao, pv = .slice ao b.length b.length := by
  obtain ⟨hb, s, e, _⟩ := h; exact ⟨_, e⟩
theorem Mem.goM {w0 : World} {H0 H H' : Heaplet} {S : List Nat} {own : List Own} {Kt K1 K1' : Own} {i : Nat} {w w' : World} (hm : Mem w0 H0 S own.flatten H w) (hi : own[i]? = some (Kt ++ K1))
    (h : Mem w H (ids K1) K1' H' w') : Mem w0 H0 S (own.set i (Kt ++ K1')).flatten H' w' := by
  have p1 : own.flatten.Perm (K1 ++ (Kt ++ (own.eraseIdx i).flatten)) := by
    refine (flatten_perm hi).trans ?_
    rw [← List.append_assoc]; exact List.perm_append_comm.append_right _
  refine (hm.go p1 h).perm ?_
  refine List.Perm.trans ?_ (flatten_set_perm (seg' := Kt ++ K1') hi).symm
  rw [← List.append_assoc]; exact List.perm_append_comm.append_right _
theorem bvs_append (a b : List UInt8) : bvs (a ++ b) = bvs a ++ bvs b := by simp [bvs]
theorem bvs_one (l : List UInt8) : ∀ u ∈ bvs l, u.oneCell' = true := fun u hu => by
  obtain ⟨_, _, rfl⟩ := List.mem_map.1 hu; rfl
theorem last_eq {Kt Ka : Own} {a b : Nat × Obj} (h : Kt ++ [a] = Ka ++ [b]) : Kt = Ka ∧ a = b := by
  have := List.append_inj' h rfl
  exact ⟨this.1, by simpa using this.2⟩
/-- the block behind one piece is written anew -/
theorem Pcs.turned {B E8 Eb : Nat} {bs : List (List UInt8)} {K : Own} {b c : List UInt8} {n : Int} {pv : Value} (h : Pcs B E8 Eb v bs K) (hN : Nth bs n b) (hA : PcAt K E8 bs n b pv) (hl : c.length = b.length) :
    ∃ Kt hb, K = Kt ++ [(hb, .cells (bvs bs.flatten).toArray E8 (0, 0))] ∧ Pcs B E8 Eb v (bs.set n.toNat c) (Kt ++ [(hb, .cells (bvs (bs.set n.toNat c).flatten).toArray E8 (0, 0))]) ∧
      (b.length = 0 ∨ pv = .slice (some ⟨hb, (bs.take n.toNat).flatten.length, none⟩) b.length b.length) ∧ ∃ s, pv = .slice (some ⟨hb, s, none⟩) b.length b.length := by
  obtain ⟨hb, Kt, rfl, h1, h2, hr⟩ := h
  obtain ⟨hb', s, rfl, hs, Ka, e⟩ := hA
  obtain ⟨rfl, e2⟩ := last_eq e
  simp only [Prod.mk.injEq] at e2
  obtain ⟨rfl, -⟩ := e2
  have hfl : (bs.set n.toNat c).flatten.length = bs.flatten.length := by
    rw [set_split bs n.toNat b c hN.2, flat_at bs n.toNat b hN.2]; simp; omega
  refine ⟨Kt, hb, rfl, ⟨hb, Kt, rfl, h1, by rw [hfl]; exact h2, by rw [lens_set hN.2 hl]; exact hr⟩, ?_, s, rfl⟩
  rcases hs with h0 | rfl
  · exact .inl h0
  · exact .inr rfl
theorem flat_set {bs : List (List UInt8)} {i : Nat} {b c : List UInt8} (h : bs[i]? = some b) (hl : c.length = b.length) :
    bvs (bs.set i c).flatten = (bvs bs.flatten).take (bs.take i).flatten.length ++ bvs c ++ (bvs bs.flatten).drop ((bs.take i).flatten.length + c.length) := by
  rw [set_split bs i b c h, flat_at bs i b h]
  simp only [List.flatten_append, List.flatten_cons, bvs_append]
  have e0 : (bvs (bs.take i).flatten).length = (bs.take i).flatten.length := bvs_length _
  generalize bvs (bs.take i).flatten = A at e0
  generalize (bs.take i).flatten.length = k at e0
  subst e0
  generalize bvs (bs.drop (i + 1)).flatten = C
  rw [List.append_assoc A, List.take_left, List.drop_append, List.drop_eq_nil_of_le (as := A) (by omega), List.nil_append, show A.length + c.length - A.length = (bvs b).length by rw [bvs_length]; omega, List.drop_left]
  simp
theorem JL.copyP (i : Nat) {tx E8 Eb B : Nat} {g : Bool} {K : Own} {bs : List (List UInt8)} {b m : List UInt8} {n : Int} {vp pv y : Value} {H1 : Heaplet} (hu : x.P.underlying t = some (.slice E8)) (hsz : shapeOf x.P E8 = some (g, 1)) (hi : own[i]? = some K) (hP : Pcs B E8 Eb vp bs K) (hN : Nth bs n b) (hA : PcAt K E8 bs n b pv)
    (h1 : evo l p = some pv) (h2 : evo l q = some y) (hle : Hle H1 H) (hs : IsSlice H1 RU8 1 y m) (hl : m.length = b.length) (hd : Nat.blt d x.n = true)
    (h : ∀ K', Pcs B E8 Eb vp (bs.set n.toNat m) K' → JL x ops Q rest ((d, .int .i64 (m.length : Int)) :: l) (own.set i K') H) :
    JL x ops Q (⟨some d, .call ⟨.builtin .copy, #[p, q], #[t, tx]⟩, ty, pos, aft, none⟩ :: rest) l own H := fun a w hh => by
  have e1 := eval_of hh h1
  have e2 := eval_of hh h2
  simp only [wpLs, wanted_none, if_true]
  refine ⟨fun _ _ => trivial, ?_⟩
  have base : ∀ v' w', (Builtin.copy_ #[t, tx] ty #[pv, y]).run x.P w = .ok v' w' →
      (execOp a.eval ⟨some d, .call ⟨.builtin .copy, #[p, q], #[t, tx]⟩, ty, pos, aft, none⟩).run x.P w = .ok (.value v') w' := fun v' w' hr => by
    generalize a.eval = ρ at e1 e2
    have e3 : Array.map ρ #[p, q] = #[pv, y] := by simp [e1, e2]
    simp only [execOp, resolve, e3, Sem.run_bind, Sem.run_pure, Result.andThen, invoke, builtin, hr]
  obtain ⟨Kt, hb, rfl, hP', hcase, s, rfl⟩ := hP.turned hN hA hl
  obtain ⟨cells, hf, ao, cap, rfl, hc⟩ := hs.cells
  have hcb : cells = bvs m := hf.of_u8
  subst hcb
  have hfc : (Builtin.firstCells 1 m.length (.slice ao m.length cap)).run x.P w = .ok (bvs m).toArray w := by
    rcases hc with rfl | ⟨b', o, rfl, hc⟩
    · cases ao with
      | none => simp [Builtin.firstCells, go_sem, bvs]
      | some a => exact run_firstCells_some (P := x.P) w 1 0 a 0 cap [] (by simp) (fun j u h => by simp at h)
    · exact run_firstCells_some (P := x.P) w 1 m.length ⟨b', o, none⟩ m.length cap (bvs m) (by simp [bvs]) (fun j u h => by rw [add_lit]; exact hh.mem.agr _ _ _ (hle _ _ _ (hc j u h)))
  have hin := own_here hh.mem hi
  have hbk := hin.here (hb, .cells (bvs bs.flatten).toArray E8 (0, 0)) (by simp)
  have hap : ∀ o, H hb o = none := fun o => hin.apart (hb, .cells (bvs bs.flatten).toArray E8 (0, 0)) (by simp) o
  have hso : (Go.sizeOf E8).run x.P w = .ok 1 w := run_sizeOf hsz w
  by_cases h0 : m.length = 0
  · have hm0 : m = [] := List.length_eq_zero_iff.1 h0
    subst hm0
    have hb0 : b = [] := List.length_eq_zero_iff.1 (by simpa using hl.symm)
    subst hb0
    have hset : bs.set n.toNat [] = bs := by
      apply List.ext_getElem?
      intro j
      rw [List.getElem?_set]
      split
      · rename_i hj; subst hj; split
        · exact hN.2.symm
        · rename_i hlt; have := (List.getElem?_eq_some_iff.1 hN.2).1; omega
      · rfl
    have hr : (Builtin.copy_ #[t, tx] ty #[.slice (some ⟨hb, s, none⟩) 0 0, .slice ao 0 cap]).run x.P w = .ok (.int .i64 0) w := by
      have hfc' : (Builtin.firstCells 1 0 (.slice ao 0 cap)).run x.P w = .ok #[] w := hfc
      have hst : (storeCells ⟨hb, s, none⟩ []).run x.P w = .ok () w := rfl
      have hmn : Nat.min 0 0 = 0 := rfl
      simp [Builtin.copy_, run_underlying hu, Builtin.lenOf, hso, hfc', hst, hmn, goInt, Sem.run_bind, Sem.run_pure, Result.andThen]
    rw [semAt_of rfl, base _ _ hr]
    have hx := h _ hP'
    rw [hset] at hx
    have e8 : own.set i (Kt ++ [(hb, .cells (bvs bs.flatten).toArray E8 (0, 0))]) = own := by
      apply List.ext_getElem?
      intro j
      rw [List.getElem?_set]
      split
      · rename_i hj; subst hj; rw [hi]; split
        · rfl
        · rename_i hlt; have := (List.getElem?_eq_some_iff.1 hi).1; omega
      · rfl
    rw [e8] at hx
    exact hx _ _ (Holds.put (x := x) (l := l) ⟨hh.size, hh.ds, hh.slots, hh.mem⟩ hd _)
  · have hpv : (⟨hb, s, none⟩ : Addr) = ⟨hb, (bs.take n.toNat).flatten.length, none⟩ := by
      rcases hcase with h' | h'
      · omega
      · simp only [Value.slice.injEq, Option.some.injEq] at h'; exact h'.1
    have hfit : (bs.take n.toNat).flatten.length + 0 + (bvs m).length ≤ (bvs bs.flatten).toArray.size := by
      rw [List.size_toArray, bvs_length, bvs_length, flat_at bs n.toNat b hN.2]; simp; omega
    have hst := run_storeCells_at x.P hb (bs.take n.toNat).flatten.length E8 (bvs m) 0 (bvs bs.flatten).toArray w hbk hfit (bvs_one m)
    simp only [Nat.add_zero] at hst
    have hcur : ((bvs bs.flatten).toArray.toList.take (bs.take n.toNat).flatten.length ++ bvs m ++ (bvs bs.flatten).toArray.toList.drop ((bs.take n.toNat).flatten.length + (bvs m).length)).toArray = (bvs (bs.set n.toNat m).flatten).toArray := by
      rw [flat_set hN.2 hl, bvs_length, List.toList_toArray]
    rw [hcur] at hst
    obtain ⟨W2, hW2⟩ : ∃ W2, W2 = w.setRow hb (bvs (bs.set n.toNat m).flatten).toArray := ⟨_, rfl⟩
    rw [← hW2] at hst
    have hr : (Builtin.copy_ #[t, tx] ty #[.slice (some ⟨hb, s, none⟩) b.length b.length, .slice ao m.length cap]).run x.P w = .ok (.int .i64 (m.length : Int)) W2 := by
      rw [hpv]
      generalize (bs.take n.toNat).flatten.length = k at hst
      have hmin' : Nat.min m.length b.length = m.length := by rw [hl]; exact Nat.min_self _
      generalize m.length = N at hfc hmin' ⊢
      generalize b.length = M at hmin' ⊢
      simp [Builtin.copy_, run_underlying hu, Builtin.lenOf, hso, hfc, hst, goInt, hmin', Sem.run_bind, Sem.run_pure, Result.andThen]
    rw [hW2] at hr
    rw [semAt_of rfl, base _ _ hr]
    refine h _ hP' _ _ (Holds.put (x := x) (l := l) ⟨hh.size, hh.ds, hh.slots, ?_⟩ hd _)
    exact hh.mem.goM hi (by simpa [ids] using Mem.setRow hh.mem.agr hbk hap (bvs (bs.set n.toNat m).flatten).toArray)

/-! ### Bytes of a piece -/
theorem ElemAt.slc {g hb s o len cap : Nat} {k : Int} (h : ElemAt (.slice (some ⟨hb, s, none⟩) len cap) 1 k g o) : g = hb ∧ o = s + k.toNat ∧ k.toNat < len ∧ 0 ≤ k := by
  obtain ⟨h0, o0, len', cap', e, rfl, hlt⟩ := h
  simp only [Value.slice.injEq, Option.some.injEq, Addr.mk.injEq] at e
  obtain ⟨⟨rfl, rfl, -⟩, rfl, rfl⟩ := e
  exact ⟨rfl, by omega, hlt, h0⟩
theorem PcAt.elem {K : Own} {E8 : Nat} {bs : List (List UInt8)} {n k : Int} {b : List UInt8} {pv : Value} (h : PcAt K E8 bs n b pv) (hk : 0 ≤ k ∧ k.toNat < b.length) : ∃ g o, ElemAt pv 1 k g o := by
  obtain ⟨hb, s, rfl, _⟩ := h
  exact ⟨hb, _, hk.1, s, _, _, rfl, rfl, hk.2⟩
theorem PcAt.cell {K : Own} {E8 g o : Nat} {bs : List (List UInt8)} {n k : Int} {b : List UInt8} {y : UInt8} {pv : Value} (h : PcAt K E8 bs n b pv) (hN : Nth bs n b) (hy : Nth b k y) (hE : ElemAt pv 1 k g o) :
    (g, Obj.cells (bvs bs.flatten).toArray E8 (0, 0)) ∈ K ∧ (bvs bs.flatten).toArray.toList[o]? = some (.int .u8 (y.toNat : Int)) := by
  obtain ⟨hb, s, rfl, hs, Kt, rfl⟩ := h
  obtain ⟨rfl, rfl, hlt, h0⟩ := hE.slc
  refine ⟨by simp, ?_⟩
  have hs' : s = (bs.take n.toNat).flatten.length := by rcases hs with h | h <;> omega
  rw [List.toList_toArray, flat_at bs n.toNat b hN.2, bvs_append, bvs_append, List.append_assoc, List.getElem?_append_right (by rw [bvs_length]; omega), bvs_length, hs',
    show (bs.take n.toNat).flatten.length + k.toNat - (bs.take n.toNat).flatten.length = k.toNat by omega, List.getElem?_append_left (by rw [bvs_length]; exact hlt)]
  simp [bvs, hy.2]
/-! ### Publishing -/
theorem Flat.mapM {α β : Type} {R : Rep α} {R' : Rep β} {H1 H2 : Heaplet} (f : α → β) {size : Nat} : ∀ {l : List α} {cells : List Value}, (∀ y ∈ l, ∀ cs, R H1 cs y → R' H2 cs (f y)) → Flat H1 R size cells l → Flat H2 R' size cells (l.map f)
  | [], cells, _, h => h
  | y :: r, cells, hR, h => by
    obtain ⟨cs, more, rfl, h1, h2, h3⟩ := h
    exact ⟨cs, more, rfl, h1, hR y (by simp) _ h2, Flat.mapM f (fun z hz => hR z (by simp [hz])) h3⟩
theorem offs_mem : ∀ (bs : List (List UInt8)) (s : Nat) (y : Nat × Nat), y ∈ offs s (lens bs) → s ≤ y.1 ∧ y.1 + y.2 ≤ s + bs.flatten.length
  | [], s, y, h => by simp [lens, offs] at h
  | b :: r, s, y, h => by
    simp only [lens, List.map_cons, offs, List.mem_cons] at h
    simp only [List.flatten_cons, List.length_append]
    rcases h with rfl | h
    · exact ⟨Nat.le_refl _, by simp only; omega⟩
    · have := offs_mem r (s + b.length) y h; omega
theorem offs_map : ∀ (bs : List (List UInt8)) (pre : List UInt8), (offs pre.length (lens bs)).map (fun y => ((pre ++ bs.flatten).drop y.1).take y.2) = bs
  | [], pre => rfl
  | b :: r, pre => by
    have ih := offs_map r (pre ++ b)
    simp only [lens, List.map_cons, offs, List.flatten_cons]
    rw [List.length_append] at ih
    rw [show pre ++ (b ++ r.flatten) = pre ++ b ++ r.flatten by simp]
    simp only [lens] at ih
    rw [ih]
    congr 1
    rw [List.append_assoc, List.drop_left, List.take_left]
theorem Holds.pubPcs {i E8 Eb B : Nat} {K : Own} {bs : List (List UInt8)} (hi : own[i]? = some K) (hP : Pcs B E8 Eb v bs K) (hB : x.w0.heap.size ≤ B) {a : Act} {w : World} (hh : Holds x l own H a w) :
    ∃ H', Hle H H' ∧ IsSlice (New x.H0 H') (RSl RU8 1) 1 v bs ∧ Holds x l (own.set i []) H' a w := by
  obtain ⟨hb, Kt, rfl, h1, h2, hr⟩ := hP
  -- in two
  have hh1 : Holds x l ([(hb, .cells (bvs bs.flatten).toArray E8 (0, 0))] :: own.set i Kt) H a w := ⟨hh.size, hh.ds, hh.slots, hh.mem.perm (by
    simp only [List.flatten_cons]
    refine (flatten_perm hi).trans ?_
    refine List.Perm.trans ?_ ((flatten_set_perm (seg' := Kt) hi).symm.append_left _)
    rw [← List.append_assoc]
    exact (List.perm_append_comm).append_right _)⟩
  have hm := Mem.pub (i := 0) hh1.mem rfl (Nat.le_trans hB h1)
  obtain ⟨H1, hH1⟩ : ∃ H1 : Heaplet, H1 = (fun b o => if b = hb then (bvs bs.flatten).toArray[o]? else H b o) := ⟨_, rfl⟩
  rw [← hH1] at hm
  have hgn : ∀ o, H hb o = none := fun o => (own_here hh1.mem (i := 0) rfl).apart (hb, .cells (bvs bs.flatten).toArray E8 (0, 0)) (by simp) o
  have hg0 : ∀ o, x.H0 hb o = none := fun o => by
    cases h : x.H0 hb o with
    | none => rfl
    | some v => have := hh.mem.le _ _ _ h; rw [hgn] at this; cases this
  have hle1 : Hle H H1 := fun b o v e => by
    rw [hH1]
    by_cases hb' : b = hb
    · subst hb'; rw [hgn] at e; cases e
    · simp [hb', e]
  have hilt := (List.getElem?_eq_some_iff.1 hi).1
  have hh2 : Holds x l (own.set i Kt) H1 a w := ⟨hh.size, hh.ds, hh.slots, by simpa using hm⟩
  have hi2 : (own.set i Kt)[i]? = some Kt := by simp [hilt]
  have hr2 : RowOf (New x.H0 H1) (RSl RU8 1) B Eb 1 v bs Kt := by
    obtain ⟨cells, g1, g2, g3⟩ := hr
    have hmap := offs_map bs []
    simp only [List.length_nil, List.nil_append] at hmap
    refine ⟨cells, by rw [offs_length] at g1; simpa [lens] using g1, ?_, g3⟩
    have := Flat.mapM (R' := RSl RU8 1) (H2 := New x.H0 H1) (fun y : Nat × Nat => (bs.flatten.drop y.1).take y.2) (fun y hy cs hR => by
      obtain ⟨s, rfl, hs⟩ := hR
      have hy2 := offs_mem bs 0 y hy
      have hl : ((bs.flatten.drop y.1).take y.2).length = y.2 := by rw [List.length_take, List.length_drop]; omega
      refine ⟨_, rfl, ?_⟩
      have hsl := IsSlice.of_cells (H := New x.H0 H1) (R := RU8) (size := 1) (b := hb) (o := s) (cap := y.2) (Flat.bytes ((bs.flatten.drop y.1).take y.2)) (by rw [hl]; exact Nat.le_refl _) (by omega) (fun j u hj => by
        have hj2 : j < y.2 := by have := (List.getElem?_eq_some_iff.1 hj).1; rw [bvs_length, hl] at this; exact this
        have hs' : s = y.1 := by rcases hs with h | h <;> omega
        subst hs'
        unfold New
        rw [hg0, hH1]
        simp only [if_true]
        unfold bvs at hj ⊢
        rw [List.getElem?_map, List.getElem?_take, if_pos hj2, List.getElem?_drop] at hj
        rw [List.getElem?_toArray, List.getElem?_map]
        exact hj)
      rw [hl] at hsl
      exact hsl) g2
    rw [hmap] at this
    exact this
  obtain ⟨H', h3, h4, h5⟩ := hh2.pubN (RSl.mono RU8.mono) hi2 hr2 hB
  refine ⟨H', hle1.trans h3, h4, ?_⟩
  have e : (own.set i Kt).set i [] = own.set i [] := by simp
  rw [e] at h5; exact h5
theorem JN.pubPcs {C : Act → World → Prop} (i : Nat) {E8 Eb B : Nat} {K : Own} {bs : List (List UInt8)} (hi : own[i]? = some K) (hP : Pcs B E8 Eb v bs K) (hB : x.w0.heap.size ≤ B)
    (h : ∀ H', Hle H H' → IsSlice (New x.H0 H') (RSl RU8 1) 1 v bs → JN x C l (own.set i []) H') : JN x C l own H := fun a w hh => by
  obtain ⟨H', h1, h2, h3⟩ := hh.pubPcs hi hP hB; exact h H' h1 h2 a w h3
theorem JL.pubPcs (i : Nat) {E8 Eb B : Nat} {K : Own} {bs : List (List UInt8)} (hi : own[i]? = some K) (hP : Pcs B E8 Eb v bs K) (hB : x.w0.heap.size ≤ B)
    (h : ∀ H', Hle H H' → IsSlice (New x.H0 H') (RSl RU8 1) 1 v bs → JL x ops Q rest l (own.set i []) H') : JL x ops Q rest l own H := JN.pubPcs (C := fun a w => wpLs x.P x.r ops Q rest a w) i hi hP hB h
theorem JC.pubPcs {c : Code} (i : Nat) {E8 Eb B : Nat} {K : Own} {bs : List (List UInt8)} (hi : own[i]? = some K) (hP : Pcs B E8 Eb v bs K) (hB : x.w0.heap.size ≤ B)
    (h : ∀ H', Hle H H' → IsSlice (New x.H0 H') (RSl RU8 1) 1 v bs → JC x c Q l (own.set i []) H') : JC x c Q l own H := JN.pubPcs (C := fun a w => c.wpIn (Fw x.r) 0 x.P Q a w) i hi hP hB h

/-! ### Memory that is made, to be cut -/
theorem flat_ones : ∀ (N : Nat), (List.replicate N (Value.int .u8 0).cells.toList).flatten = List.replicate N (Value.int .u8 ((0 : UInt8).toNat : Int))
  | 0 => rfl
  | k + 1 => by rw [List.replicate_succ, List.replicate_succ, List.flatten_cons, flat_ones k]; rfl
theorem JL.mkB {E : TypeId} {bytes N : Nat} {kl kc : IntKind} (hu : x.P.underlying t = some (.slice E)) (he : eInfo x.P E = some (.int .u8 0, 1, bytes)) (h1 : evo l p = some (.int kl (N : Int))) (h2 : evo l q = some (.int kc (N : Int))) (hN : N ≤ LIM) (hb : Nat.ble bytes 128 = true) (hd : Nat.blt d x.n = true)
    (h : ∀ g, x.w0.heap.size ≤ g → JL x ops Q rest ((d, .slice (some ⟨g, 0, none⟩) N N) :: l) ([(g, .cells (bvs (List.replicate N 0)).toArray E (0, 0))] :: own) H) : JL x ops Q (⟨some d, .makeSlice t p q, ty, pos, aft, none⟩ :: rest) l own H := fun a w hh => by
  simp only [wpLs, wanted_none, if_true]
  refine ⟨fun _ _ => trivial, ?_⟩
  obtain ⟨i, hi, hz, hsz, hby, hzs, hpos⟩ := eInfo_parts he
  subst hby
  have hlb := lim_bytes hN hb
  have hb' : (i.bytes : Int) * (N : Int) ≤ 281474976710656 := by
    have h : ((i.bytes * N : Nat) : Int) ≤ 281474976710656 := by rw [Nat.mul_comm]; omega
    rwa [Int.natCast_mul] at h
  have hrun := run_make (P := x.P) w t E i (.int .u8 0) hu hi hz kl kc N N (by omega) (Int.le_refl _) hb' (by have := lim_max hN; simp only [maxLen] at this; omega)
  simp only [Int.toNat_natCast, hsz, Nat.mul_one] at hrun
  have e1 := eval_of hh h1
  have e2 := eval_of hh h2
  generalize a.eval = ρ at e1 e2
  have hmc : madeCells (Value.int .u8 0).cells N = (bvs (List.replicate N 0)).toArray := by
    apply Array.toList_inj.1
    have := madeCells_flat (Value.int .u8 0).cells N (by decide)
    have e : (Value.int .u8 0).cells.size = 1 := rfl
    rw [e, Nat.mul_one] at this
    rw [this]
    simp only [bvs, List.map_replicate, List.toList_toArray]
    exact flat_ones N
  have hrun' : (execOp ρ ⟨some d, .makeSlice t p q, ty, pos, aft, none⟩).run x.P w = .ok (.value (.slice (some ⟨w.heap.size, 0, none⟩) N N)) (w.alloc (.cells (bvs (List.replicate N 0)).toArray E)) := by
    simp only [execOp, e1, e2]; rw [← hmc]; exact run_v hrun
  rw [semAt_of rfl, hrun']
  refine h w.heap.size hh.mem.kept.size _ _ (Holds.put (x := x) (l := l) ?_ hd _)
  exact ⟨hh.size, hh.ds, hh.slots, by simpa using hh.mem.go0 (K' := [[(w.heap.size, .cells (bvs (List.replicate N 0)).toArray E (0, 0))]]) (by simpa using Mem.alloc hh.mem.agr (.cells (bvs (List.replicate N 0)).toArray E (0, 0)))⟩

/-! ### copy into an own row -/
theorem Flat.td {α : Type} {R : Rep α} {HF : Heaplet} {size : Nat} : ∀ (k : Nat) {m : List α} {cells : List Value}, Flat HF R size cells m → Flat HF R size (cells.take (k * size)) (m.take k) ∧ Flat HF R size (cells.drop (k * size)) (m.drop k)
  | 0, m, cells, h => by simp only [Nat.zero_mul, List.take_zero, List.drop_zero]; exact ⟨rfl, h⟩
  | k + 1, [], cells, h => by
    simp only [Flat] at h; subst h; simp only [List.take_nil, List.drop_nil]; exact ⟨rfl, rfl⟩
  | k + 1, y :: r, cells, h => by
    obtain ⟨cs, more, rfl, h1, h2, h3⟩ := h
    have ih := Flat.td k h3
    have e1 : (cs ++ more).take ((k + 1) * size) = cs ++ more.take (k * size) := by
      rw [List.take_append, List.take_of_length_le (by rw [h1, Nat.add_mul]; omega), h1]; congr 2; rw [Nat.add_mul]; omega
    have e2 : (cs ++ more).drop ((k + 1) * size) = more.drop (k * size) := by
      rw [List.drop_append, List.drop_eq_nil_of_le (by rw [h1, Nat.add_mul]; omega), List.nil_append, h1]; congr 1; rw [Nat.add_mul]; omega
    rw [e1, e2]
    exact ⟨⟨cs, _, rfl, h1, h2, ih.1⟩, ih.2⟩
theorem RowOf.whole {α : Type} {R : Rep α} {B size : Nat} {E : TypeId} {v : Value} {ls : List α} {K : Own} (h : RowOf HF R B E size v ls K) : SubV size v v (0 : Int).toNat ((ls.length : Int).toNat - (0 : Int).toNat) := by
  obtain ⟨cells, ⟨h0, h1⟩, hf, ho⟩ := h
  rcases h1 with ⟨rfl, h3, rfl⟩ | ⟨g, cap, cur, rfl, rfl, e3, e4, e5, e6, e7⟩
  · refine ⟨⟨none, 0, ?_⟩, .inl ?_⟩ <;> simp [h3]
  · exact ⟨⟨some ⟨g, 0, none⟩, cap, by simp⟩, .inr ⟨g, 0, _, cap, cap, rfl, by simp, by simp⟩⟩
/-- where from -/
def CSrc {α : Type} (x : Cx) (H HF : Heaplet) (own : List Own) (R : Rep α) (size : Nat) (y : Value) (ns : List α) : Prop :=
  ∃ ao cap, y = .slice ao ns.length cap ∧ ∃ cells, Flat HF R size cells ns ∧ oneCells cells ∧ ∀ w, Mem x.w0 x.H0 x.S own.flatten H w → ∀ n, n ≤ ns.length → (Builtin.firstCells size n y).run x.P w = .ok (cells.take (n * size)).toArray w
theorem run_first {P : Program} {w : World} {size n len cap : Nat} {ao : Option Addr} {cells : List Value} (hl : cells.length = len * size) (hn : n ≤ len) (hc : len = 0 ∨ ∃ a : Addr, ao = some a ∧ ∀ j u, cells[j]? = some u → w.cell? (a.add j) = some u) :
    (Builtin.firstCells size n (.slice ao len cap)).run P w = .ok (cells.take (n * size)).toArray w := by
  rcases hc with h0 | ⟨a, rfl, hc⟩
  · have hn0 : n = 0 := by omega
    subst hn0
    cases ao with
    | none => simp [Builtin.firstCells, go_sem]
    | some a =>
      have := run_firstCells_some (P := P) w size 0 a len cap [] (by simp) (fun j u h => by simp at h)
      simpa using this
  · exact run_firstCells_some (P := P) w size n a len cap (cells.take (n * size)) (by rw [List.length_take, hl]; exact Nat.min_eq_left (Nat.mul_le_mul_right _ hn)) (fun j u h => by
      rw [List.getElem?_take] at h
      split at h
      · exact hc j u h
      · cases h)
theorem CSrc.slice {α : Type} {R : Rep α} (hR : R.One) {size : Nat} {y : Value} {ns : List α} {H1 : Heaplet} (hle : Hle H1 H) (hs : IsSlice H1 R size y ns) (hF : ∀ cs z, R H1 cs z → R HF cs z) : CSrc x H HF own R size y ns := by
  obtain ⟨cells, hf, ao, cap, rfl, hc⟩ := hs.cells
  refine ⟨ao, cap, rfl, cells, hf.conv hF, hf.one' hR, fun w hm n hn => run_first hf.length hn ?_⟩
  rcases hc with rfl | ⟨b, o, rfl, hc⟩
  · exact .inl rfl
  · exact .inr ⟨_, rfl, fun j u h => by rw [add_lit]; exact hm.agr _ _ _ (hle _ _ _ (hc j u h))⟩
theorem CSrc.part {α : Type} {R : Rep α} {size B : Nat} {E : TypeId} {v y : Value} {ls ns : List α} {K : Own} {lo hi : Int} (i : Nat) (hi' : own[i]? = some K) (hr : RowOf HF R B E size v ls K) (hs : SubV size v y lo.toNat (hi.toNat - lo.toNat)) (hb : 0 ≤ lo ∧ lo ≤ hi ∧ hi ≤ ls.length) (hn : ns = cut ls lo hi) : CSrc x H HF own R size y ns := by
  subst hn
  have hcl : (cut ls lo hi).length = hi.toNat - lo.toNat := by have := cut_length (l := ls) hb.1 hb.2.1 hb.2.2; omega
  obtain ⟨⟨ao, cap, rfl⟩, hs⟩ := hs
  obtain ⟨cells, ⟨h0, h1⟩, hf, ho⟩ := hr
  have hfc := (Flat.td (hi.toNat - lo.toNat) (Flat.td lo.toNat hf).2).1
  refine ⟨ao, cap, by rw [hcl], (cells.drop (lo.toNat * size)).take ((hi.toNat - lo.toNat) * size), hfc, fun u hu => ho u (List.mem_of_mem_drop (List.mem_of_mem_take hu)), fun w hm n hn' => ?_⟩
  have hlen := hfc.length
  rw [show ((ls.drop lo.toNat).take (hi.toNat - lo.toNat)).length = hi.toNat - lo.toNat from hcl] at hlen
  rw [hcl] at hn'
  refine run_first hlen hn' ?_
  rcases hs with h | ⟨b, o, n', cap2, cap', e1, e2, hle⟩
  · exact .inl h
  · right
    simp only [Value.slice.injEq] at e2
    obtain ⟨rfl, -, rfl⟩ := e2
    refine ⟨_, rfl, fun j u hj => ?_⟩
    rcases h1 with ⟨e, h3, rfl⟩ | ⟨g, capg, cur, e, rfl, e3, e4, e5, e6, e7⟩
    · rw [e] at e1; simp at e1
    · rw [e] at e1
      simp only [Value.slice.injEq, Option.some.injEq, Addr.mk.injEq] at e1
      obtain ⟨⟨rfl, rfl, -⟩, rfl, rfl⟩ := e1
      have hg := (own_here hm hi').here (g, .cells cur E (0, 0)) (by simp)
      rw [add_lit, cell_of_row w g _ cur E (0, 0) hg, Nat.zero_add]
      rw [List.getElem?_take] at hj
      split at hj
      · rw [List.getElem?_drop, ← e7, List.getElem?_take] at hj
        split at hj
        · simpa using hj
        · cases hj
      · cases hj
theorem take_mid {β : Type} {cur D : List β} {a d T : Nat} (hD : D.length = d) (h1 : a + d ≤ T) (h2 : T ≤ cur.length) : (cur.take a ++ D ++ cur.drop (a + d)).take T = (cur.take T).take a ++ D ++ (cur.take T).drop (a + d) := by
  have k1 : (cur.take a).length = a := by rw [List.length_take]; omega
  rw [List.take_append, List.take_append, List.take_take, List.take_take, Nat.min_eq_right (by omega), Nat.min_eq_left (by omega), List.take_of_length_le (l := D) (by rw [k1, hD]; omega), List.drop_take]
  congr 2
  rw [List.length_append, k1, hD]
theorem JL.copyR {α : Type} {R : Rep α} (i : Nat) {tx E B e : Nat} {g : Bool} {size : Nat} {K : Own} {ls ns ms : List α} {lo hi : Int} {v v' y : Value} (hu : x.P.underlying t = some (.slice e)) (hsz : shapeOf x.P e = some (g, size)) (hi' : own[i]? = some K) (hr : RowOf HF R B E size v ls K)
    (h1 : evo l p = some v') (hs : SubV size v v' lo.toNat (hi.toNat - lo.toNat)) (h2 : evo l q = some y) (hc : CSrc x H HF own R size y ns) (hb : 0 ≤ lo ∧ lo ≤ hi ∧ hi ≤ ls.length) (hm : ms = cpy ls lo.toNat (ns.take (hi.toNat - lo.toNat))) (hd : Nat.blt d x.n = true)
    (h : ∀ K', RowOf HF R B E size v ms K' → JL x ops Q rest ((d, .int .i64 (min (ns.length : Int) (hi - lo))) :: l) (own.set i K') H) :
    JL x ops Q (⟨some d, .call ⟨.builtin .copy, #[p, q], #[t, tx]⟩, ty, pos, aft, none⟩ :: rest) l own H := fun a w hh => by
  have e1 := eval_of hh h1
  have e2 := eval_of hh h2
  simp only [wpLs, wanted_none, if_true]
  refine ⟨fun _ _ => trivial, ?_⟩
  obtain ⟨⟨ao1, cap1, rfl⟩, hs⟩ := hs
  obtain ⟨ao, cap, rfl, cells, hf, hone, hrun⟩ := hc
  have base : ∀ u w', (Builtin.copy_ #[t, tx] ty #[.slice ao1 (hi.toNat - lo.toNat) cap1, .slice ao ns.length cap]).run x.P w = .ok u w' →
      (execOp a.eval ⟨some d, .call ⟨.builtin .copy, #[p, q], #[t, tx]⟩, ty, pos, aft, none⟩).run x.P w = .ok (.value u) w' := fun u w' hr => by
    generalize a.eval = ρ at e1 e2
    have e3 : Array.map ρ #[p, q] = #[.slice ao1 (hi.toNat - lo.toNat) cap1, .slice ao ns.length cap] := by simp [e1, e2]
    simp only [execOp, resolve, e3, Sem.run_bind, Sem.run_pure, Result.andThen, invoke, builtin, hr]
  obtain ⟨N, hN⟩ : ∃ N, N = Nat.min ns.length (hi.toNat - lo.toNat) := ⟨_, rfl⟩
  have hN1 : N ≤ ns.length := by rw [hN]; exact Nat.min_le_left _ _
  have hN2 : N ≤ hi.toNat - lo.toNat := by rw [hN]; exact Nat.min_le_right _ _
  have hN3 : (N : Int) = min (ns.length : Int) (hi - lo) := by rw [hN]; show ((min ns.length (hi.toNat - lo.toNat) : Nat) : Int) = _; omega
  have hNt : ns.take (hi.toNat - lo.toNat) = ns.take N := by
    by_cases h' : ns.length ≤ hi.toNat - lo.toNat
    · have : N = ns.length := by rw [hN]; exact Nat.min_eq_left h'
      rw [this, List.take_length, List.take_of_length_le h']
    · have : N = hi.toNat - lo.toNat := by rw [hN]; exact Nat.min_eq_right (by omega)
      rw [this]
  have hfc := hrun w hh.mem N hN1
  have hso : (Go.sizeOf e).run x.P w = .ok size w := run_sizeOf hsz w
  have hfn := (Flat.td N hf).1
  have hln2 : (ns.take N).length = N := by rw [List.length_take, Nat.min_eq_left hN1]
  have hln : (cells.take (N * size)).length = N * size := by have := hfn.length; rw [hln2] at this; exact this
  subst hm
  rw [hNt] at h
  have hin := own_here hh.mem hi'
  rw [← hN3] at h
  -- nothing to copy
  by_cases h0 : N = 0
  · have hst : ∀ ad : Addr, (storeCells ad []).run x.P w = .ok () w := fun _ => rfl
    have hr' : (Builtin.copy_ #[t, tx] ty #[.slice ao1 (hi.toNat - lo.toNat) cap1, .slice ao ns.length cap]).run x.P w = .ok (.int .i64 (N : Int)) w := by
      rw [h0] at hfc hN ⊢
      have hfc' : (Builtin.firstCells size 0 (.slice ao ns.length cap)).run x.P w = .ok #[] w := by simpa using hfc
      generalize hi.toNat - lo.toNat = M at hN ⊢
      generalize ns.length = L at hN hfc' ⊢
      cases ao1 with
      | none => simp [Builtin.copy_, run_underlying hu, Builtin.lenOf, hso, ← hN, hfc', goInt, Sem.run_bind, Sem.run_pure, Result.andThen]
      | some ad => simp [Builtin.copy_, run_underlying hu, Builtin.lenOf, hso, ← hN, hfc', hst, goInt, Sem.run_bind, Sem.run_pure, Result.andThen]
    rw [semAt_of rfl, base _ _ hr']
    have hx := h K (by rw [h0]; simpa [cpy] using hr)
    have e8 : own.set i K = own := by
      apply List.ext_getElem?
      intro j
      rw [List.getElem?_set]
      split
      · rename_i hj; subst hj; rw [hi']; split
        · rfl
        · rename_i hlt; have := (List.getElem?_eq_some_iff.1 hi').1; omega
      · rfl
    rw [e8] at hx
    exact hx _ _ (Holds.put (x := x) (l := l) ⟨hh.size, hh.ds, hh.slots, hh.mem⟩ hd _)
  · rcases hs with h' | ⟨b, o, n', cap2, cap', ev, e2', hle⟩
    · omega
    simp only [Value.slice.injEq] at e2'
    obtain ⟨rfl, -, rfl⟩ := e2'
    obtain ⟨cs, ⟨g0, g1⟩, gf, go⟩ := hr
    rcases g1 with ⟨e', h3, rfl⟩ | ⟨gg, capg, cur, e', rfl, e3, e4, e5, e6, e7⟩
    · rw [e'] at ev; simp at ev
    rw [e'] at ev
    simp only [Value.slice.injEq, Option.some.injEq, Addr.mk.injEq] at ev
    obtain ⟨⟨rfl, rfl, -⟩, rfl, rfl⟩ := ev
    have hbk := hin.here (gg, .cells cur E (0, 0)) (by simp)
    have hap : ∀ o, H gg o = none := fun o => hin.apart (gg, .cells cur E (0, 0)) (by simp) o
    have hcl : capg * size ≤ cur.toList.length := by simpa using e6
    have hrows : (lo.toNat + N) * size ≤ ls.length * size := Nat.mul_le_mul_right _ (by omega)
    have hrows2 : ls.length * size ≤ capg * size := Nat.mul_le_mul_right _ e4
    have hfit : lo.toNat * size + 0 + (cells.take (N * size)).length ≤ cur.size := by rw [hln, Nat.add_zero, ← Nat.add_mul]; omega
    have hst := run_storeCells_at x.P gg (lo.toNat * size) E (cells.take (N * size)) 0 cur w hbk hfit (fun u hu => hone u (List.mem_of_mem_take hu))
    simp only [Nat.add_zero] at hst
    obtain ⟨C, hC⟩ : ∃ C, C = (cur.toList.take (lo.toNat * size) ++ cells.take (N * size) ++ cur.toList.drop (lo.toNat * size + (cells.take (N * size)).length)).toArray := ⟨_, rfl⟩
    rw [← hC] at hst
    have hr' : (Builtin.copy_ #[t, tx] ty #[.slice (some ⟨gg, 0 + lo.toNat * size, none⟩) (hi.toNat - lo.toNat) cap1, .slice ao ns.length cap]).run x.P w = .ok (.int .i64 (N : Int)) (w.setRow gg C) := by
      rw [Nat.zero_add]
      generalize hi.toNat - lo.toNat = M at hN ⊢
      generalize ns.length = L at hN hfc ⊢
      generalize cells.take (N * size) = D at hfc hst
      generalize lo.toNat * size = o at hst ⊢
      simp [Builtin.copy_, run_underlying hu, Builtin.lenOf, hso, ← hN, hfc, hst, goInt, Sem.run_bind, Sem.run_pure, Result.andThen]
    rw [semAt_of rfl, base _ _ hr']
    have hm2 := hh.mem.go1 hi' (by simpa [ids] using Mem.setRow hh.mem.agr hbk hap C)
    refine h [(gg, .cells C E (0, 0))] ?_ _ _ (Holds.put (x := x) (l := l) ⟨hh.size, hh.ds, hh.slots, hm2⟩ hd _)
    have hfl : Flat HF R size (cs.take (lo.toNat * size) ++ cells.take (N * size) ++ cs.drop ((lo.toNat + N) * size)) (cpy ls lo.toNat (ns.take N)) := by
      unfold cpy
      rw [hln2]
      exact Flat.append (Flat.td (lo.toNat + N) gf).2 (Flat.append hfn (Flat.td lo.toNat gf).1)
    have hcpl : (cpy ls lo.toNat (ns.take N)).length = ls.length := by
      unfold cpy; rw [List.length_append, List.length_append, hln2, List.length_take, List.length_drop]; omega
    refine ⟨_, ⟨hfl.length, .inr ⟨gg, capg, C, by rw [hcpl]; exact e', rfl, e3, by rw [hcpl]; exact e4, e5, ?_, ?_⟩⟩, hfl, ?_⟩
    · have hs1 : lo.toNat * size + N * size ≤ capg * size := by rw [← Nat.add_mul]; omega
      rw [hC, List.size_toArray, List.length_append, List.length_append, List.length_take, List.length_drop, hln]; omega
    · rw [hC, hcpl, ← e7, List.toList_toArray, hln, Nat.add_mul]
      exact take_mid hln (by rw [Nat.add_mul] at hrows; exact hrows) (Nat.le_trans hrows2 hcl)
    · intro u hu
      rcases List.mem_append.1 hu with hu | hu
      · rcases List.mem_append.1 hu with hu | hu
        · exact go u (List.mem_of_mem_take hu)
        · exact hone u (List.mem_of_mem_take hu)
      · exact go u (List.mem_of_mem_drop hu)
end Go.Ow
