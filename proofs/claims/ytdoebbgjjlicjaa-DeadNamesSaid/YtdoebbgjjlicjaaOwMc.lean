import Derived.Test.YtdoebbgjjlicjaaOwMb
/-
  What is proved here: cells that are made, at any time, in a region whose order Go leaves open: told apart from its other operations; over OwZG.
-/
namespace Go.Ow
open Go.RowKit
set_option linter.unusedVariables false
set_option linter.unusedSimpArgs false

variable {x : Cx} {ops : Array Oper} {Q : Exit → Act → World → Prop} {l : Slots} {own : List Own} {H : Heaplet} {so : List Own} {sH : Heaplet}

/-- an operation that makes a cell: its place, its slot -/
structure ASpec where
  i : Nat
  d : Nat
  T : TypeId
  z : Value
abbrev AM := List (ASpec × Option Nat)
def AM.sl : AM → Slots
  | [] => []
  | (s, some b) :: r => (s.d, .pointer (some ⟨b, 0, none⟩)) :: AM.sl r
  | (s, none) :: r => AM.sl r
def AM.ow : AM → List Own
  | [] => []
  | (s, some b) :: r => [(b, .cells s.z.cells s.T (0, 0))] :: AM.ow r
  | (s, none) :: r => AM.ow r
def AM.lst : AM → Array Bool → Array Bool
  | [], a => a
  | (s, some _) :: r, a => AM.lst r (a.setIfInBounds s.i true)
  | (s, none) :: r, a => AM.lst r a
def AM.left : AM → Nat
  | [] => 0
  | (_, some _) :: r => AM.left r
  | (_, none) :: r => AM.left r + 1
def AM.bs (m : AM) : List Bool := m.map (·.2.isSome)
def lstB : List ASpec → List Bool → Array Bool → Array Bool
  | s :: r, true :: bs, a => lstB r bs (a.setIfInBounds s.i true)
  | _ :: r, false :: bs, a => lstB r bs a
  | _, _, a => a
def undone : List ASpec → List Bool → List Nat
  | _ :: r, true :: bs => undone r bs
  | s :: r, false :: bs => s.i :: undone r bs
  | _, _ => []
def allB : Nat → List (List Bool)
  | 0 => [[]]
  | n + 1 => (allB n).flatMap fun bs => [true :: bs, false :: bs]
theorem allB_mem : ∀ (bs : List Bool), bs ∈ allB bs.length
  | [] => by simp [allB]
  | b :: bs => by
    simp only [List.length_cons, allB, List.mem_flatMap]
    exact ⟨bs, allB_mem bs, by cases b <;> simp⟩
theorem AM.lst_eq : ∀ (m : AM) (a : Array Bool), m.lst a = lstB (m.map (·.1)) m.bs a
  | [], _ => rfl
  | (s, some b) :: r, a => AM.lst_eq r _
  | (s, none) :: r, a => AM.lst_eq r _
theorem set_true_comm (a : Array Bool) (i j : Nat) : (a.setIfInBounds i true).setIfInBounds j true = (a.setIfInBounds j true).setIfInBounds i true := by
  by_cases h : i = j
  · subst h; rfl
  · exact Array.setIfInBounds_comm _ _ h
theorem AM.lst_set : ∀ (m : AM) (a : Array Bool) (k : Nat), (m.lst a).setIfInBounds k true = m.lst (a.setIfInBounds k true)
  | [], _, _ => rfl
  | (s, some b) :: r, a, k => by show (AM.lst r _).setIfInBounds k true = AM.lst r _; rw [AM.lst_set r, set_true_comm]
  | (s, none) :: r, a, k => AM.lst_set r a k
theorem AM.lst_none : ∀ (A : List ASpec) (a : Array Bool), AM.lst (A.map fun s => (s, none)) a = a
  | [], _ => rfl
  | s :: r, a => AM.lst_none r a
theorem AM.sl_none : ∀ (A : List ASpec), AM.sl (A.map fun s => (s, none)) = []
  | [] => rfl
  | s :: r => AM.sl_none r
theorem AM.ow_none : ∀ (A : List ASpec), AM.ow (A.map fun s => (s, none)) = []
  | [] => rfl
  | s :: r => AM.ow_none r
theorem AM.left_none : ∀ (A : List ASpec), AM.left (A.map fun s => (s, none)) = A.length
  | [] => rfl
  | s :: r => by show AM.left (r.map fun s => (s, none)) + 1 = _; rw [AM.left_none r]; rfl
/-- one that is not made yet is made -/
theorem AM.split : ∀ (m : AM) (k : Nat), k ∈ undone (m.map (·.1)) m.bs → ∃ m1 m2 s, m = m1 ++ (s, none) :: m2 ∧ s.i = k
  | (s, some b) :: r, k, h => by
    obtain ⟨m1, m2, s', rfl, e⟩ := AM.split r k h
    exact ⟨(s, some b) :: m1, m2, s', rfl, e⟩
  | (s, none) :: r, k, h => by
    have h' : k ∈ s.i :: undone (r.map (·.1)) (AM.bs r) := h
    rcases List.mem_cons.1 h' with e | e
    · exact ⟨[], r, s, rfl, e.symm⟩
    · obtain ⟨m1, m2, s', rfl, e2⟩ := AM.split r k e
      exact ⟨(s, none) :: m1, m2, s', rfl, e2⟩
theorem AM.made_left : ∀ (m1 m2 : AM) (s : ASpec) (b : Nat), (m1 ++ (s, none) :: m2).left = (m1 ++ (s, some b) :: m2).left + 1
  | [], _, _, _ => rfl
  | (_, some _) :: r, m2, s, b => AM.made_left r m2 s b
  | (_, none) :: r, m2, s, b => by show AM.left (r ++ _) + 1 = AM.left (r ++ _) + 1 + 1; rw [AM.made_left r m2 s b]
theorem AM.made_lst : ∀ (m1 m2 : AM) (s : ASpec) (b : Nat) (a : Array Bool), (m1 ++ (s, some b) :: m2).lst a = (m1 ++ (s, none) :: m2).lst (a.setIfInBounds s.i true)
  | [], _, _, _, _ => rfl
  | (t, some _) :: r, m2, s, b, a => by show AM.lst (r ++ _) _ = AM.lst (r ++ _) _; rw [AM.made_lst r m2 s b, set_true_comm]
  | (t, none) :: r, m2, s, b, a => AM.made_lst r m2 s b a
theorem AM.made_map : ∀ (m1 m2 : AM) (s : ASpec) (b : Nat), (m1 ++ (s, some b) :: m2).map (·.1) = (m1 ++ (s, none) :: m2).map (·.1) := fun m1 m2 s b => by simp
theorem AM.made_ow : ∀ (m1 m2 : AM) (s : ASpec) (b : Nat), (AM.ow (m1 ++ (s, some b) :: m2)).Perm ([(b, .cells s.z.cells s.T (0, 0))] :: AM.ow (m1 ++ (s, none) :: m2))
  | [], _, _, _ => List.Perm.refl _
  | (t, some c) :: r, m2, s, b => ((AM.made_ow r m2 s b).cons _).trans (List.Perm.swap _ _ _)
  | (t, none) :: r, m2, s, b => AM.made_ow r m2 s b
theorem lk_app : ∀ (l t : Slots) (i : Nat), lk (l ++ t) i = match lk l i with | some v => some v | none => lk t i
  | [], _, _ => rfl
  | (k, v) :: r, t, i => by
    simp only [List.cons_append, lk]
    cases h : Nat.beq k i with
    | true => rfl
    | false => exact lk_app r t i
theorem lk_appL {l t : Slots} {i : Nat} {v : Value} (h : lk l i = some v) : lk (l ++ t) i = some v := by rw [lk_app, h]
theorem evo_app {l t : Slots} {o : Operand} {v : Value} (h : evo l o = some v) : evo (l ++ t) o = some v := by
  cases o with
  | tmp k => exact lk_appL h
  | const u => exact h
  | global g => exact h
  | func f => exact h
theorem AM.made_lk : ∀ (m1 m2 : AM) (s : ASpec) (b : Nat) (i : Nat) (v : Value), ((m1 ++ (s, none) :: m2).map (fun p => p.1.d)).Nodup → lk (AM.sl (m1 ++ (s, some b) :: m2)) i = some v →
    (i = s.d ∧ v = .pointer (some ⟨b, 0, none⟩)) ∨ (i ≠ s.d ∧ lk (AM.sl (m1 ++ (s, none) :: m2)) i = some v)
  | [], m2, s, b, i, v, hn, h => by
    have h' : lk ((s.d, .pointer (some ⟨b, 0, none⟩)) :: AM.sl m2) i = some v := h
    simp only [lk] at h'
    cases hb : Nat.beq s.d i with
    | true => rw [hb] at h'; simp at h'; exact .inl ⟨(Nat.eq_of_beq_eq_true hb).symm, h'.symm⟩
    | false =>
      rw [hb] at h'
      exact .inr ⟨fun e => by subst e; simp at hb, h'⟩
  | (t, some c) :: r, m2, s, b, i, v, hn, h => by
    have h' : lk ((t.d, .pointer (some ⟨c, 0, none⟩)) :: AM.sl (r ++ (s, some b) :: m2)) i = some v := h
    have hn' : t.d ∉ (r ++ (s, none) :: m2).map (fun p => p.1.d) ∧ ((r ++ (s, none) :: m2).map (fun p => p.1.d)).Nodup := by
      rw [List.cons_append, List.map_cons, List.nodup_cons] at hn; exact hn
    have hts : t.d ≠ s.d := fun e => hn'.1 (by rw [e]; simp)
    show _ ∨ (_ ∧ lk ((t.d, .pointer (some ⟨c, 0, none⟩)) :: AM.sl (r ++ (s, none) :: m2)) i = some v)
    simp only [lk] at h' ⊢
    cases hb : Nat.beq t.d i with
    | true =>
      rw [hb] at h'
      have e : t.d = i := Nat.eq_of_beq_eq_true hb
      exact .inr ⟨by rw [← e]; exact hts, h'⟩
    | false => rw [hb] at h'; exact AM.made_lk r m2 s b i v hn'.2 h'
  | (t, none) :: r, m2, s, b, i, v, hn, h => by
    have hn' : ((r ++ (s, none) :: m2).map (fun p => p.1.d)).Nodup := by
      rw [List.cons_append, List.map_cons, List.nodup_cons] at hn; exact hn.2
    exact AM.made_lk r m2 s b i v hn' h

/-- what is asked of the list -/
def AOk (x : Cx) (ops : Array Oper) : List ASpec → Prop
  | [] => True
  | s :: r => (∃ ty pos aft, ops[s.i]? = some ⟨some s.d, .alloc s.T, ty, pos, aft, none⟩ ∧ zeroOf x.P s.T = some s.z ∧ Nat.blt s.d x.n = true) ∧ AOk x ops r
theorem AOk.at {A : List ASpec} (h : AOk x ops A) {s : ASpec} (hs : s ∈ A) : ∃ ty pos aft, ops[s.i]? = some ⟨some s.d, .alloc s.T, ty, pos, aft, none⟩ ∧ zeroOf x.P s.T = some s.z ∧ Nat.blt s.d x.n = true := by
  induction A with
  | nil => cases hs
  | cons t r ih =>
    rcases List.mem_cons.1 hs with rfl | h'
    · exact h.1
    · exact ih h.2 h'
def freeIn (l : Slots) : List ASpec → Bool
  | [] => true
  | s :: r => (lk l s.d).isNone && r.all (fun t => !Nat.beq t.d s.d) && freeIn l r
theorem freeIn.lk {A : List ASpec} (h : freeIn l A = true) {s : ASpec} (hs : s ∈ A) : lk l s.d = none := by
  induction A with
  | nil => cases hs
  | cons t r ih =>
    simp only [freeIn, Bool.and_eq_true] at h
    rcases List.mem_cons.1 hs with rfl | h'
    · simpa using h.1.1
    · exact ih h.2 h'
theorem freeIn.nodup {A : List ASpec} (h : freeIn l A = true) : (A.map (·.d)).Nodup := by
  induction A with
  | nil => exact List.nodup_nil
  | cons t r ih =>
    simp only [freeIn, Bool.and_eq_true] at h
    rw [List.map_cons, List.nodup_cons]
    refine ⟨fun hm => ?_, ih h.2⟩
    obtain ⟨s, hs, e⟩ := List.mem_map.1 hm
    have := List.all_eq_true.1 h.1.2 s hs
    simp [e] at this

def JAA (x : Cx) (ops : Array Oper) (Q : Exit → Act → World → Prop) (so : List Own) (sH : Heaplet) (A : List ASpec) (fuel : Nat) (listed : Array Bool) (l : Slots) (own : List Own) (H : Heaplet) : Prop :=
  ∀ m : AM, m.map (·.1) = A → (∀ p ∈ m, ∀ b, p.2 = some b → x.w0.heap.size ≤ b) → JA x ops Q so sH (fuel + m.left) (m.lst listed) (l ++ m.sl) (own ++ m.ow) H
def JOA (x : Cx) (ops : Array Oper) (Q : Exit → Act → World → Prop) (so : List Own) (sH : Heaplet) (A : List ASpec) (fuel : Nat) (listed : Array Bool) (i : Nat) (l : Slots) (own : List Own) (H : Heaplet) : Prop :=
  ∀ m : AM, m.map (·.1) = A → (∀ p ∈ m, ∀ b, p.2 = some b → x.w0.heap.size ≤ b) → JO x ops Q so sH (fuel + m.left) (m.lst listed) i (l ++ m.sl) (own ++ m.ow) H

theorem JAA.start (A : List ASpec) {fuel N : Nat} {listed : Array Bool} (hN : fuel + A.length = N) (h : JAA x ops Q so sH A fuel listed l own H) : JA x ops Q so sH N listed l own H := by
  have := h (A.map fun s => (s, none)) (by simp [Function.comp_def]) (fun p hp b e => by obtain ⟨s, -, rfl⟩ := List.mem_map.1 hp; cases e)
  rw [AM.lst_none, AM.sl_none, AM.ow_none, AM.left_none, hN] at this
  simpa using this
theorem SubO.app : ∀ {so own : List Own} (t : List Own), SubO so own → SubO so (own ++ t)
  | [], _, _, _ => trivial
  | s :: r, own, t, h => by
    obtain ⟨⟨i, hi⟩, h2⟩ := h
    refine ⟨⟨i, ?_⟩, SubO.app t h2⟩
    rw [List.getElem?_append_left (List.getElem?_eq_some_iff.1 hi).1]; exact hi
theorem JN.slots {K : Act → World → Prop} {l' : Slots} (h : ∀ i v, lk l' i = some v → lk l i = some v) (hk : JN x K l' own H) : JN x K l own H := fun a w hh =>
  hk a w ⟨hh.size, hh.ds, fun i v e => hh.slots i v (h i v e), hh.mem⟩
/-- a cell is made -/
theorem JOA.make {A : List ASpec} {F : Nat} {listed : Array Bool} (hA : AOk x ops A) (hle : Hle sH H) (hso : SubO so own) (hf : freeIn l A = true) {m : AM} (hm : m.map (·.1) = A) (hb : ∀ p ∈ m, ∀ b, p.2 = some b → x.w0.heap.size ≤ b)
    {k : Nat} (hk : k ∈ undone A m.bs) (ih : ∀ m' : AM, m'.left < m.left → m'.map (·.1) = A → (∀ p ∈ m', ∀ b, p.2 = some b → x.w0.heap.size ≤ b) → JA x ops Q so sH (F + m'.left) (m'.lst listed) (l ++ m'.sl) (own ++ m'.ow) H) :
    ∃ f, F + m.left = f + 1 ∧ JO x ops Q so sH f (m.lst listed) k (l ++ m.sl) (own ++ m.ow) H := by
  rw [← hm] at hk
  obtain ⟨m1, m2, s, rfl, rfl⟩ := AM.split m k hk
  have hsA : s ∈ A := by rw [← hm]; simp
  obtain ⟨ty, pos, aft, ho, hz, hd⟩ := hA.at hsA
  have hl := AM.made_left m1 m2 s 0
  refine ⟨F + AM.left (m1 ++ (s, some 0) :: m2), by omega, ?_⟩
  refine ZZ ho trivial rfl (fun K hK => ?_)
  refine JL.alloc hz hd (fun b hbb => ?_)
  refine ZD ?_
  have hleft : AM.left (m1 ++ (s, some b) :: m2) = AM.left (m1 ++ (s, some 0) :: m2) := by
    have := AM.made_left m1 m2 s b; omega
  have hmm : (m1 ++ (s, some b) :: m2).map (·.1) = A := by rw [AM.made_map]; exact hm
  have hJ := ih (m1 ++ (s, some b) :: m2) (by omega) hmm (fun p hp b' e => by
    rcases List.mem_append.1 hp with h | h
    · exact hb p (by simp [h]) b' e
    · rcases List.mem_cons.1 h with rfl | h
      · simp at e; subst e; exact hbb
      · exact hb p (by simp [h]) b' e)
  rw [hleft, AM.made_lst, ← AM.lst_set] at hJ
  have hnd : ((m1 ++ (s, none) :: m2).map (fun p => p.1.d)).Nodup := by
    have := freeIn.nodup hf; rw [← hm, List.map_map] at this; exact this
  have hln := freeIn.lk hf hsA
  have hsub : ∀ i v, lk (l ++ AM.sl (m1 ++ (s, some b) :: m2)) i = some v → lk ((s.d, .pointer (some ⟨b, 0, none⟩)) :: (l ++ AM.sl (m1 ++ (s, none) :: m2))) i = some v := fun i v e => by
    rw [lk_app] at e
    simp only [lk]
    cases hli : lk l i with
    | some u =>
      rw [hli] at e; simp at e; subst e
      have : Nat.beq s.d i = false := by
        cases hbq : Nat.beq s.d i with
        | false => rfl
        | true => have := Nat.eq_of_beq_eq_true hbq; rw [← this, hln] at hli; cases hli
      rw [this]; exact lk_appL hli
    | none =>
      rw [hli] at e
      rcases AM.made_lk m1 m2 s b i v hnd e with ⟨rfl, rfl⟩ | ⟨hne, h⟩
      · simp
      · have : Nat.beq s.d i = false := by
          cases hbq : Nat.beq s.d i with
          | false => rfl
          | true => exact absurd (Nat.eq_of_beq_eq_true hbq).symm hne
        rw [this, lk_app, hli]; exact h
  have hperm : ([(b, Obj.cells s.z.cells s.T (0, 0))] :: (own ++ AM.ow (m1 ++ (s, none) :: m2))).flatten.Perm (own ++ AM.ow (m1 ++ (s, some b) :: m2)).flatten := by
    refine List.Perm.flatten ?_
    refine List.Perm.trans ?_ ((AM.made_ow m1 m2 s b).symm.append_left own)
    exact List.perm_middle.symm
  refine JN.slots hsub (JN.perm hperm (hK _ _ _ ?_ hJ))
  exact ZI hle (hso.app _)

/-- some of the others may come up, too -/
theorem JAA.many {A : List ASpec} (R : List Nat) {fuel : Nat} {listed : Array Bool} (hA : AOk x ops A) (hle : Hle sH H) (hso : SubO so own) (hf : freeIn l A = true)
    (hr : (allB A.length).all (fun bs => !(Region.ready .any ops (lstB A bs listed)).isEmpty && (Region.ready .any ops (lstB A bs listed)).all (fun k => R.contains k || (undone A bs).contains k)) = true)
    (h : ∀ i ∈ R, JOA x ops Q so sH A fuel listed i l own H) : JAA x ops Q so sH A (fuel + 1) listed l own H := by
  intro m
  obtain ⟨n, hn⟩ : ∃ n, n = m.left := ⟨_, rfl⟩
  induction n using Nat.strongRecOn generalizing m with
  | _ n ih =>
    intro hm hb a w hh
    have hmem : m.bs ∈ allB A.length := by have := allB_mem m.bs; rwa [show m.bs.length = A.length by rw [← hm]; simp [AM.bs]] at this
    have h1 := List.all_eq_true.1 hr _ hmem
    simp only [Bool.and_eq_true] at h1
    have hlst : m.lst listed = lstB A m.bs listed := by rw [AM.lst_eq, hm]
    rw [← hlst] at h1
    rw [show fuel + 1 + m.left = (fuel + m.left) + 1 by omega]
    refine ⟨fun h0 => ?_, fun k hk => ?_⟩
    · rw [h0] at h1; simp at h1
    · have hk2 := List.all_eq_true.1 h1.2 k hk
      simp only [Bool.or_eq_true, List.contains_iff_mem] at hk2
      rcases hk2 with hk2 | hk2
      · exact h k hk2 m hm hb a w hh
      · obtain ⟨f, hf1, hJ⟩ := JOA.make (F := fuel + 1) (listed := listed) (Q := Q) hA hle hso hf hm hb hk2 (fun m' hlt hm' hb' => ih m'.left (by omega) m' rfl hm' hb')
        rw [show fuel + m.left = f by omega]
        exact hJ a w hh
/-- nothing else may come up, as long as one of them is not made -/
def AllA : List ASpec → Nat → (AM → Prop) → Prop
  | [], _, P => P []
  | s :: r, N, P => ∀ b, N ≤ b → AllA r N (fun m => P ((s, some b) :: m))
theorem AllA.at : ∀ {A : List ASpec} {N : Nat} {P : AM → Prop}, AllA A N P → ∀ m : AM, m.map (·.1) = A → m.left = 0 → (∀ p ∈ m, ∀ b, p.2 = some b → N ≤ b) → P m
  | [], _, _, h, [], _, _, _ => h
  | s :: r, N, P, h, (t, some b) :: m, hm, h0, hb => by
    simp only [List.map_cons, List.cons.injEq] at hm
    obtain ⟨rfl, hm⟩ := hm
    exact AllA.at (h b (hb (t, some b) (by simp) b rfl)) m hm h0 (fun p hp => hb p (by simp [hp]))
  | s :: r, N, P, h, (t, none) :: m, hm, h0, hb => by cases h0
theorem left_undone : ∀ (m : AM), m.left ≠ 0 → m.bs.all id = false
  | [], h => absurd rfl h
  | (_, some _) :: r, h => by have := left_undone r h; simpa [AM.bs] using this
  | (_, none) :: r, h => rfl
theorem JAA.all {A : List ASpec} {fuel : Nat} {listed : Array Bool} (hA : AOk x ops A) (hle : Hle sH H) (hso : SubO so own) (hf : freeIn l A = true)
    (hr : (allB A.length).all (fun bs => bs.all id || (!(Region.ready .any ops (lstB A bs listed)).isEmpty && (Region.ready .any ops (lstB A bs listed)).all (fun k => (undone A bs).contains k))) = true)
    (h : AllA A x.w0.heap.size (fun m => JA x ops Q so sH fuel (m.lst listed) (l ++ m.sl) (own ++ m.ow) H)) : JAA x ops Q so sH A fuel listed l own H := by
  intro m
  obtain ⟨n, hn⟩ : ∃ n, n = m.left := ⟨_, rfl⟩
  induction n using Nat.strongRecOn generalizing m with
  | _ n ih =>
    intro hm hb
    by_cases h0 : m.left = 0
    · rw [h0]; exact h.at m hm h0 hb
    intro a w hh
    have hmem : m.bs ∈ allB A.length := by have := allB_mem m.bs; rwa [show m.bs.length = A.length by rw [← hm]; simp [AM.bs]] at this
    have h1 := List.all_eq_true.1 hr _ hmem
    rw [left_undone m h0] at h1
    simp only [Bool.false_or, Bool.and_eq_true] at h1
    have hlst : m.lst listed = lstB A m.bs listed := by rw [AM.lst_eq, hm]
    rw [← hlst] at h1
    obtain ⟨f, hf0⟩ : ∃ f, fuel + m.left = f + 1 := ⟨fuel + m.left - 1, by omega⟩
    rw [hf0]
    refine ⟨fun h0 => ?_, fun k hk => ?_⟩
    · rw [h0] at h1; simp at h1
    · have hk2 := List.all_eq_true.1 h1.2 k hk
      simp only [List.contains_iff_mem] at hk2
      obtain ⟨f', hf1, hJ⟩ := JOA.make (F := fuel) (listed := listed) (Q := Q) hA hle hso hf hm hb hk2 (fun m' hlt hm' hb' => ih m'.left (by omega) m' rfl hm' hb')
      rw [show f = f' by omega]
      exact hJ a w hh

/-- 'l2' is 'l1', and the tail behind it -/
inductive AppL {α : Type} (t : List α) : List α → List α → Prop
  | nil : AppL t [] t
  | cons {a : α} {l1 l2 : List α} (h : AppL t l1 l2) : AppL t (a :: l1) (a :: l2)
theorem AppL.eq {α : Type} {t l1 l2 : List α} (h : AppL t l1 l2) : l2 = l1 ++ t := by
  induction h with
  | nil => rfl
  | cons _ ih => rw [ih]; rfl
theorem guard_app {t : Slots} {g : Option (Nat × Bool)} (h : guardYes ops l g) : guardYes ops (l ++ t) g := by
  cases g with
  | none => trivial
  | some jb => obtain ⟨j, b⟩ := jb; obtain ⟨k, oj, h1, h2, h3⟩ := h; exact ⟨k, oj, h1, h2, lk_appL h3⟩
theorem JOA.step {A : List ASpec} {fuel i : Nat} {listed listed' : Array Bool} {dst : Option Tmp} {op : Op} {ty : TypeId} {pos : String} {aft : Array Edge} {g : Option (Nat × Bool)}
    (ho : ops[i]? = some ⟨dst, op, ty, pos, aft, g⟩) (hg : guardYes ops l g) (hl : listed.setIfInBounds i true = listed')
    (h : ∀ (tl : Slots) (to : List Own) (K : Act → World → Prop), (∀ {l' own' H' l2 own2}, AppL tl l' l2 → AppL to own' own2 → (∀ a w, Holds x l2 own2 H' a w → Stab so sH w) → JAA x ops Q so sH A fuel listed' l' own' H' → JN x K l2 own2 H') →
      JL x ops (fun e a w => match e with | .normal => K a w | e => Q e a w) [⟨dst, op, ty, pos, aft, none⟩] (l ++ tl) (own ++ to) H) :
    JOA x ops Q so sH A fuel listed i l own H := fun m hm hb => by
  refine ZZ ho (guard_app hg) rfl (fun K hK => h m.sl m.ow K (fun {l' own' H' l2 own2} e1 e2 hst hJ => ?_))
  have e1 := e1.eq
  have e2 := e2.eq
  subst e1; subst e2
  refine hK _ _ _ hst ?_
  have := hJ m hm hb
  rw [← hl, ← AM.lst_set] at this
  exact this
theorem Runs.app {op : Op} {ty : TypeId} {v : Value} {t : Slots} (h : Runs x op ty l own H v) : Runs x op ty (l ++ t) own H v := fun ρ w d pos aft g hρ hs => h ρ w d pos aft g (fun o u e => hρ o u (evo_app e)) hs
/-- it may be taken now, whatever was made -/
def TakeA (ops : Array Oper) (A : List ASpec) (listed : Array Bool) (i : Nat) : Bool := (allB A.length).all fun bs => (Region.ready .any ops (lstB A bs listed)).contains i && Region.free .any ops (lstB A bs listed) i
theorem TakeA.take {A : List ASpec} {listed : Array Bool} {i : Nat} (h : TakeA ops A listed i = true) {m : AM} (hm : m.map (·.1) = A) : Take ops (m.lst listed) i (m.lst (listed.setIfInBounds i true)) := by
  have hmem : m.bs ∈ allB A.length := by have := allB_mem m.bs; rwa [show m.bs.length = A.length by rw [← hm]; simp [AM.bs]] at this
  have h1 := List.all_eq_true.1 h _ hmem
  have hlst : m.lst listed = lstB A m.bs listed := by rw [AM.lst_eq, hm]
  rw [← hlst] at h1
  simp only [Bool.and_eq_true] at h1
  exact ⟨h1.1, h1.2, AM.lst_set _ _ _⟩
theorem JAA.val {A : List ASpec} {fuel i d : Nat} {listed listed' : Array Bool} {op : Op} {ty : TypeId} {pos : String} {aft : Array Edge} {g : Option (Nat × Bool)} {v : Value} (hreg : Reg ops) (hc : Calm Q)
    (ho : ops[i]? = some ⟨some d, op, ty, pos, aft, g⟩) (ht : TakeA ops A listed i = true) (hl : listed.setIfInBounds i true = listed') (hg : guardYes ops l g) (hle : Hle sH H) (hso : SubO so own) (hr : Runs x op ty l so sH v) (hd : Nat.blt d x.n = true)
    (h : JAA x ops Q so sH A fuel listed' ((d, v) :: l) own H) : JAA x ops Q so sH A (fuel + 1) listed l own H := fun m hm hb => by
  rw [show fuel + 1 + m.left = (fuel + m.left) + 1 by omega]
  subst hl
  exact JA.val hreg hc ho (TakeA.take ht hm) (guard_app hg) (ZI hle (hso.app _)) hr.app hd (h m hm hb)
theorem JAA.no {A : List ASpec} {fuel i d j t : Nat} {b b' : Bool} {listed listed' : Array Bool} {op : Op} {ty : TypeId} {pos : String} {aft : Array Edge} {oj : Oper} (hreg : Reg ops) (hc : Calm Q)
    (ho : ops[i]? = some ⟨some d, op, ty, pos, aft, some (j, b)⟩) (ht : TakeA ops A listed i = true) (hl : listed.setIfInBounds i true = listed') (hj : ops[j]? = some oj) (htj : oj.dst = some t) (hb : lk l t = some (.bool b')) (hne : (b' == b) = false)
    (hle : Hle sH H) (hso : SubO so own) (hd : Nat.blt d x.n = true)
    (h : JAA x ops Q so sH A fuel listed' ((d, undef) :: l) own H) : JAA x ops Q so sH A (fuel + 1) listed l own H := fun m hm hb' => by
  rw [show fuel + 1 + m.left = (fuel + m.left) + 1 by omega]
  subst hl
  exact JA.no hreg hc ho (TakeA.take ht hm) hj htj (lk_appL hb) hne (ZI hle (hso.app _)) hd (h m hm hb')
theorem JAA.noU {A : List ASpec} {fuel i d j t : Nat} {b : Bool} {listed listed' : Array Bool} {op : Op} {ty : TypeId} {pos : String} {aft : Array Edge} {oj : Oper} (hreg : Reg ops) (hc : Calm Q)
    (ho : ops[i]? = some ⟨some d, op, ty, pos, aft, some (j, b)⟩) (ht : TakeA ops A listed i = true) (hl : listed.setIfInBounds i true = listed') (hj : ops[j]? = some oj) (htj : oj.dst = some t) (hb : lk l t = some undef)
    (hle : Hle sH H) (hso : SubO so own) (hd : Nat.blt d x.n = true)
    (h : JAA x ops Q so sH A fuel listed' ((d, undef) :: l) own H) : JAA x ops Q so sH A (fuel + 1) listed l own H := fun m hm hb' => by
  rw [show fuel + 1 + m.left = (fuel + m.left) + 1 by omega]
  subst hl
  exact JA.noU hreg hc ho (TakeA.take ht hm) hj htj (lk_appL hb) (ZI hle (hso.app _)) hd (h m hm hb')
theorem JAA.gSplit {A : List ASpec} {fuel : Nat} {listed : Array Bool} {t : Nat} {b : Bool} (hb : lk l t = some (.bool b)) (ht : b = true → JAA x ops Q so sH A fuel listed ((t, .bool true) :: l) own H)
    (hf : b = false → JAA x ops Q so sH A fuel listed ((t, .bool false) :: l) own H) : JAA x ops Q so sH A fuel listed l own H := fun m hm hb' =>
  JA.gSplit (lk_appL hb) (fun e => ht e m hm hb') (fun e => hf e m hm hb')
theorem JAA.one {A : List ASpec} {fuel i : Nat} {listed : Array Bool} (hA : AOk x ops A) (hle : Hle sH H) (hso : SubO so own) (hf : freeIn l A = true)
    (hr : (allB A.length).all (fun bs => !(Region.ready .any ops (lstB A bs listed)).isEmpty && (Region.ready .any ops (lstB A bs listed)).all (fun k => [i].contains k || (undone A bs).contains k)) = true)
    (h : JOA x ops Q so sH A fuel listed i l own H) : JAA x ops Q so sH A (fuel + 1) listed l own H := JAA.many [i] hA hle hso hf hr (fun k hk => by simp at hk; subst hk; exact h)
theorem JAA.two {A : List ASpec} {fuel i j : Nat} {listed : Array Bool} (hA : AOk x ops A) (hle : Hle sH H) (hso : SubO so own) (hf : freeIn l A = true)
    (hr : (allB A.length).all (fun bs => !(Region.ready .any ops (lstB A bs listed)).isEmpty && (Region.ready .any ops (lstB A bs listed)).all (fun k => [i, j].contains k || (undone A bs).contains k)) = true)
    (h : JOA x ops Q so sH A fuel listed i l own H) (h' : JOA x ops Q so sH A fuel listed j l own H) : JAA x ops Q so sH A (fuel + 1) listed l own H := JAA.many [i, j] hA hle hso hf hr (fun k hk => by
  simp only [List.mem_cons, List.not_mem_nil, or_false] at hk
  rcases hk with rfl | rfl
  · exact h
  · exact h')
end Go.Ow

/-
  What is proved here: a range over a function whose assignments make cells; over OwZH.
-/
namespace Go.Ow
open Go.RowKit
set_option linter.unusedVariables false
set_option linter.unusedSimpArgs false
variable {x : Cx} {ops : Array Oper} {Q : Exit → Act → World → Prop} {rest : List Oper} {l : Slots} {own : List Own} {H HF : Heaplet}
variable {ty : TypeId} {d : Nat} {pos : String} {aft : Array Edge}

end Go.Ow

/-
  What is proved here: a region whose order Go leaves open, again: what is known of it is said once; a segment that is turned later may be read by what comes ahead of that.
-/
namespace Go.Ow
open Go.RowKit
set_option linter.unusedVariables false
set_option linter.unusedSimpArgs false

section orders
variable {F : Fence} {n : Nat} {P : Program} {md : Region.Mode} {ops : Array Oper} {Q : Exit → Act → World → Prop} {S : Array Bool → World → Prop}
/-- whatever order: behind each operation S holds, of what is done so far -/
def wpAT (F : Fence) (n : Nat) (P : Program) (md : Region.Mode) (ops : Array Oper) (Q : Exit → Act → World → Prop) (S : Array Bool → World → Prop) : Nat → Array Bool → Act → World → Prop
  | 0, listed, a, w => Region.ready md ops listed = [] ∧ Q .normal a w
  | fuel + 1, listed, a, w => (Region.ready md ops listed = [] → Q .normal a w) ∧
    ∀ i ∈ Region.ready md ops listed, wpOpIn F n P ops Q i (fun a' w' => S (listed.setIfInBounds i true) w' ∧ wpAT F n P md ops Q S fuel (listed.setIfInBounds i true) a' w') a w
theorem wpAT_sound : ∀ (fuel : Nat) (listed : Array Bool) (a : Act) (w : World), wpAT F n P md ops Q S fuel listed a w → wpAnyIn F n P md ops Q fuel listed a w
  | 0, _, _, _, h => h
  | fuel + 1, listed, a, w, h => ⟨h.1, fun i hi => wpOpIn_mono (fun a' w' h' => wpAT_sound fuel _ a' w' h'.2) (h.2 i hi)⟩
/-- D hangs on i: none of it comes up while i is not done -/
def hangs (md : Region.Mode) (ops : Array Oper) (i : Nat) (D : List Nat) (listed : Array Bool) : Bool :=
  D.all fun d => !listed.getD d true && (match ops[d]? with | none => false | some o => o.after.any fun e => Region.binds md e && (e.on == i || D.contains e.on))
theorem wpAT_first (hF : ∀ f, F.fn f) {i : Nat} {oi : Oper} {v : Value} (hi : ops[i]? = some oi) (hsel : ∀ (j : Nat) (o : Oper) cs b, ops[j]? = some o → o.op ≠ .select cs b)
    (hdef : ∀ (j : Nat) (o : Oper), ops[j]? = some o → noDefer o.op = true) (hQ : ∀ c a w, Q (.panic c) (a.put oi.dst v) w → Q (.panic c) a w) (hmono : ∀ L j w, S L w → S (L.setIfInBounds j true) w)
    (hskip : ∀ L w, S (L.setIfInBounds i true) w → S L w) {D : List Nat} {T : World → Prop} (hT : ∀ L w, (∀ d ∈ D, L.getD d true = false) → S L w → T w) :
    ∀ (fuel : Nat) (listed : Array Bool) (a : Act) (w : World),
      (∀ j oj, ops[j]? = some oj → j ≠ i → listed.getD j true = false → (∀ e ∈ oj.after, Region.binds md e = true → e.on ≠ i) → oi.apart ops oj = true) →
      hangs md ops i D listed = true →
      i ∈ Region.ready md ops listed → YieldsS P ops T oi v a → S listed w →
      wpAT F n P md ops Q S fuel (listed.setIfInBounds i true) (a.put oi.dst v) w → wpAT F n P md ops Q S (fuel + 1) listed a w := by
  have hDs : ∀ {listed : Array Bool}, hangs md ops i D listed = true → ∀ d ∈ D, listed.getD d true = false := fun h d hd => by
    have := List.all_eq_true.1 h d hd
    rw [Bool.and_eq_true] at this
    simpa using this.1
  intro fuel
  induction fuel with
  | zero =>
    intro listed a w _ hD hr hy hS H
    refine ⟨fun h => (by rw [h] at hr; cases hr), fun j hj => ?_⟩
    by_cases hji : j = i
    · subst hji; exact hy.op hF hi (hdef _ _ hi) (hT _ _ (hDs hD) hS) ⟨hmono _ _ _ hS, H⟩
    · have := ready_mono hj hji
      rw [H.1] at this
      cases this
  | succ fuel ih =>
    intro listed a w hfree hD hr hy hS H
    refine ⟨fun h => (by rw [h] at hr; cases hr), fun j hj => ?_⟩
    by_cases hji : j = i
    · subst hji; exact hy.op hF hi (hdef _ _ hi) (hT _ _ (hDs hD) hS) ⟨hmono _ _ _ hS, H⟩
    · have h1 := H.2 j (ready_mono hj hji)
      obtain ⟨hjun, oj, hoj, hall⟩ := mem_ready.1 hj
      have h0 := (mem_ready.1 hr).1
      have hnot : ∀ e ∈ oj.after, Region.binds md e = true → e.on ≠ i := fun e he hb heq => by
        have h1 := hall e he hb
        rw [heq] at h1
        rcases Nat.lt_or_ge i listed.size with h' | h'
        · simp [h'] at h0 h1; rw [h0] at h1; cases h1
        · simp [Array.getElem?_eq_none h'] at h1
      have hjD : j ∉ D := fun hjD => by
        have := List.all_eq_true.1 hD j hjD
        rw [Bool.and_eq_true, hoj] at this
        obtain ⟨e, he, hb⟩ := Array.any_eq_true'.1 this.2
        rw [Bool.and_eq_true, Bool.or_eq_true] at hb
        rcases hb.2 with h | h
        · exact hnot e he hb.1 (by simpa using h)
        · have h2 := hDs hD e.on (by simpa using h)
          have h3 := hall e he hb.1
          rcases Nat.lt_or_ge e.on listed.size with h' | h'
          · simp [h'] at h2 h3; rw [h2] at h3; cases h3
          · simp [Array.getElem?_eq_none h'] at h3
      have hD' : hangs md ops i D (listed.setIfInBounds j true) = true := List.all_eq_true.2 fun d hd => by
        have := List.all_eq_true.1 hD d hd
        rw [getD_set_ne true (fun e => hjD (by rw [e]; exact hd))]; exact this
      have h2 := wpOpIn_putS (S := T) hF hoj (hfree j oj hoj hji hjun hnot) (fun cs b => hsel i oi cs b hi) (fun cs b => hsel j oj cs b hoj) (hdef j oj hoj) hQ hy h1
      have hfree' : ∀ k ok, ops[k]? = some ok → k ≠ i → (listed.setIfInBounds j true).getD k true = false →
          (∀ e ∈ ok.after, Region.binds md e = true → e.on ≠ i) → oi.apart ops ok = true := fun k ok hk hki hun hno => by
        refine hfree k ok hk hki ?_ hno
        by_cases hjk : j = k
        · subst hjk; exact hjun
        · rw [getD_set_ne true hjk] at hun; exact hun
      refine wpOpIn_mono (fun a' w' h3 => ?_) h2
      have hS' : S (listed.setIfInBounds j true) w' := hskip _ _ (by rw [Array.setIfInBounds_comm _ _ hji]; exact h3.2.1)
      refine ⟨hS', ih (listed.setIfInBounds j true) a' w' hfree' hD' (ready_mono hr (Ne.symm hji)) h3.1 hS' ?_⟩
      rw [Array.setIfInBounds_comm _ _ hji]
      exact h3.2.2
end orders

/-! ### The same from a state -/
variable {x : Cx} {ops : Array Oper} {K : Act → World → Prop} {l : Slots} {own : List Own} {H : Heaplet}

/-- the segments, each with what turns it -/
abbrev Segs := List (Own × List Nat)
def SB (so : Segs) (sH : Heaplet) (L : Array Bool) (w : World) : Prop := Agrees sH w ∧ ∀ x ∈ so, (∃ t ∈ x.2, L.getD t true = true) ∨ ∀ p ∈ x.1, w.heap[p.1]? = some p.2
theorem SB.mono {so : Segs} {sH : Heaplet} {L : Array Bool} {w : World} (j : Nat) (h : SB so sH L w) : SB so sH (L.setIfInBounds j true) w := by
  refine ⟨h.1, fun x hx => (h.2 x hx).imp (fun ⟨t, ht, e⟩ => ⟨t, ht, ?_⟩) id⟩
  by_cases c : j = t
  · subst c
    rcases Nat.lt_or_ge j L.size with h' | h'
    · simp [h']
    · simp [Array.getElem?_eq_none h']
  · rw [getD_set_ne true c]; exact e
def noTurn (so : Segs) (i : Nat) : Bool := so.all fun x => !x.2.contains i
theorem SB.skip {so : Segs} {sH : Heaplet} {i : Nat} (hn : noTurn so i = true) {L : Array Bool} {w : World} (h : SB so sH (L.setIfInBounds i true) w) : SB so sH L w := by
  refine ⟨h.1, fun x hx => (h.2 x hx).imp (fun ⟨t, ht, e⟩ => ⟨t, ht, ?_⟩) id⟩
  have := List.all_eq_true.1 hn x hx
  have hne : i ≠ t := fun c => by subst c; simp at this; exact this ht
  rw [getD_set_ne true hne] at e; exact e
/-- the segments that stand as long as none of D is done -/
def segsOf (D : List Nat) : Segs → List Own
  | [] => []
  | x :: q => cond (x.2.all fun t => D.contains t) (x.1 :: segsOf D q) (segsOf D q)
theorem SB.stab {so : Segs} {sH : Heaplet} {D : List Nat} {L : Array Bool} {w : World} (hD : ∀ d ∈ D, L.getD d true = false) (h : SB so sH L w) : Stab (segsOf D so) sH w := by
  refine ⟨h.1, ?_⟩
  have h2 := h.2
  clear h
  induction so with
  | nil => intro p hp; simp [segsOf] at hp
  | cons y q ih =>
    have ihq := ih (fun x hx => h2 x (List.mem_cons_of_mem _ hx))
    intro p hp
    unfold segsOf at hp
    cases e : (y.2.all fun t => D.contains t) with
    | false => rw [e, cond_false] at hp; exact ihq p hp
    | true =>
      rw [e, cond_true, List.flatten_cons, List.mem_append] at hp
      rcases hp with hp | hp
      · rcases h2 y (List.mem_cons_self ..) with ⟨t, ht, e2⟩ | h3
        · have := List.all_eq_true.1 e t ht
          rw [hD t (by simpa using this)] at e2; cases e2
        · exact h3 p hp
      · exact ihq p hp
/-- what is kept now -/
def Kept' : Segs → Array Bool → List Own → Prop
  | [], _, _ => True
  | x :: q, L, own => ((x.2.any fun t => L.getD t true) = true ∨ ∃ i : Nat, own[i]? = some x.1) ∧ Kept' q L own
theorem Kept'.sb {so : Segs} {sH : Heaplet} {L : Array Bool} (hle : Hle sH H) (hk : Kept' so L own) {a : Act} {w : World} (hh : Holds x l own H a w) : SB so sH L w := by
  refine ⟨hh.mem.agr.le hle, ?_⟩
  induction so with
  | nil => intro y hy; cases hy
  | cons z q ih =>
    intro y hy
    rcases List.mem_cons.1 hy with rfl | hy
    · rcases hk.1 with h | ⟨i, hi⟩
      · obtain ⟨t, ht, e⟩ := List.any_eq_true.1 h; exact .inl ⟨t, ht, e⟩
      · exact .inr fun p hp => hh.mem.ok.here p (List.mem_flatten.2 ⟨_, List.mem_of_getElem? hi, hp⟩)
    · exact ih hk.2 y hy
theorem Kept'.mono {so : Segs} {L : Array Bool} (j : Nat) (hk : Kept' so L own) : Kept' so (L.setIfInBounds j true) own := by
  induction so with
  | nil => trivial
  | cons z q ih =>
    refine ⟨hk.1.imp (fun h => ?_) id, ih hk.2⟩
    obtain ⟨t, ht, e⟩ := List.any_eq_true.1 h
    refine List.any_eq_true.2 ⟨t, ht, ?_⟩
    by_cases c : j = t
    · subst c
      rcases Nat.lt_or_ge j L.size with h' | h'
      · simp [h']
      · simp [Array.getElem?_eq_none h']
    · rw [getD_set_ne true c]; exact e

theorem kept0 {so : Segs} {L : Array Bool} (ps : List Nat) (h : ps.map (fun i => own[i]?) = so.map fun x => some x.1) : Kept' so L own := by
  induction so generalizing ps with
  | nil => trivial
  | cons z q ih =>
    cases ps with
    | nil => cases h
    | cons p ps =>
      simp only [List.map_cons, List.cons.injEq] at h
      exact ⟨.inr ⟨p, h.1⟩, ih ps h.2⟩
def picked (own : List Own) : List Bool → List Nat → List (Option Own)
  | b :: bs, p :: ps => cond b none own[p]? :: picked own bs ps
  | _, _ => []
def wanted' : List Bool → Segs → List (Option Own)
  | b :: bs, x :: q => cond b none (some x.1) :: wanted' bs q
  | _, _ => []
theorem kept1 {so : Segs} {L : Array Bool} (bs : List Bool) (ps : List Nat) (h1 : so.map (fun x => x.2.any fun t => L.getD t true) = bs) (h : picked own bs ps = wanted' bs so) : Kept' so L own := by
  induction so generalizing ps bs with
  | nil => trivial
  | cons z q ih =>
    subst h1
    cases ps with
    | nil => cases h
    | cons p ps =>
      simp only [List.map_cons, picked, wanted', List.cons.injEq] at h
      refine ⟨?_, ih _ ps rfl h.2⟩
      cases e : (z.2.any fun t => L.getD t true) with
      | true => exact .inl rfl
      | false =>
        have h2 := h.1
        rw [e] at h2
        exact .inr ⟨p, h2⟩
def JB (x : Cx) (ops : Array Oper) (K : Act → World → Prop) (so : Segs) (sH : Heaplet) (fuel : Nat) (listed : Array Bool) (l : Slots) (own : List Own) (H : Heaplet) : Prop :=
  Reg ops → Hle sH H → Kept' so listed own → ∀ a w, Holds x l own H a w → wpAT (Fw x.r) 0 x.P .any ops (onlyN K) (SB so sH) fuel listed a w
def JOB (x : Cx) (ops : Array Oper) (K : Act → World → Prop) (so : Segs) (sH : Heaplet) (fuel : Nat) (listed : Array Bool) (i : Nat) (l : Slots) (own : List Own) (H : Heaplet) : Prop :=
  Reg ops → Hle sH H → Kept' so listed own → ∀ a w, Holds x l own H a w →
    wpOpIn (Fw x.r) 0 x.P ops (onlyN K) i (fun a' w' => SB so sH (listed.setIfInBounds i true) w' ∧ wpAT (Fw x.r) 0 x.P .any ops (onlyN K) (SB so sH) fuel (listed.setIfInBounds i true) a' w') a w
theorem JC.drawB {Q : Exit → Act → World → Prop} {so : Segs} (N : Nat) {id : Nat} (hN : ops.size = N) (hm : x.P.follows .mixedOrders = true) (hreg : Reg ops) (hk : Kept' so (Array.replicate N false) own)
    (h : JB x ops (Q .normal) so H N (Array.replicate N false) l own H) : JC x (.region id ops true) Q l own H := fun a w hh => by
  subst hN
  refine wpIn_mono (Q := onlyN (Q .normal)) (wpIn_region_any hm (wpAT_sound _ _ _ _ (h hreg (Hle.refl _) hk a w.drew ⟨hh.size, hh.ds, hh.slots, hh.mem.drew⟩))) ?_
  intro e a w hq
  cases e with
  | normal => exact hq
  | exit id => exact hq.elim
  | goto t => exact hq.elim
  | ret => exact hq.elim
  | panic c => exact hq.elim
  | outgrown => exact hq.elim
section
variable {so : Segs} {sH : Heaplet} {fuel i d : Nat} {listed listed' : Array Bool} {op : Op} {ty : TypeId} {pos : String} {aft : Array Edge} {g : Option (Nat × Bool)} {v : Value}
theorem JB.val (D : List Nat) (ho : ops[i]? = some ⟨some d, op, ty, pos, aft, g⟩) (hr : Runs x op ty l (segsOf D so) sH v)
    (h : JB x ops K so sH fuel listed' ((d, v) :: l) own H)
    (ht : Take ops listed i listed' := by exact ⟨by kernel_rfl, by kernel_rfl, rfl⟩) (hg : guardYes ops l g := by first | exact trivial | exact ⟨_, _, rfl, rfl, rfl⟩)
    (hD : hangs .any ops i D listed = true := by kernel_rfl) (hn : noTurn so i = true := by rfl) (hd : Nat.blt d x.n = true := by rfl) :
    JB x ops K so sH (fuel + 1) listed l own H := fun hreg hle hk a w hh => by
  have hl := ht.nxt
  subst hl
  exact wpAT_first (fun _ => trivial) ho (Region.noSelect_spec hreg.sel) hreg.noDefer (fun c a' w' h' => h') (fun _ j _ h => h.mono j) (fun _ _ h => h.skip hn) (D := D) (T := Stab (segsOf D so) sH) (fun _ _ hD h => h.stab hD)
    fuel listed a w (Region.free_spec ho ht.free) hD (by simpa using ht.rdy)
    (.inl ⟨wanted_yes hh hg, fun w' hw' => hr a.eval w' (some d) pos aft g (fun o u e => Zp hh e) hw'⟩) (hk.sb hle hh) (h hreg hle (hk.mono i) _ _ (hh.put hd v))
theorem JB.no {j t : Nat} {b b' : Bool} {oj : Oper} (ho : ops[i]? = some ⟨some d, op, ty, pos, aft, some (j, b)⟩) (hj : ops[j]? = some oj) (htj : oj.dst = some t) (hb : lk l t = some (.bool b')) (hne : (b' == b) = false)
    (h : JB x ops K so sH fuel listed' ((d, undef) :: l) own H)
    (ht : Take ops listed i listed' := by exact ⟨by kernel_rfl, by kernel_rfl, rfl⟩) (hn : noTurn so i = true := by rfl) (hd : Nat.blt d x.n = true := by rfl) :
    JB x ops K so sH (fuel + 1) listed l own H := fun hreg hle hk a w hh => by
  have hl := ht.nxt
  subst hl
  have hw : Region.wanted ⟨some d, op, ty, pos, aft, some (j, b)⟩ (yielded ops a.tmps) = false := by
    simp only [Region.wanted, yielded, hj, Option.bind_some, htj]
    have := hh.slots t _ hb
    cases hs : a.tmps[t]? with
    | none => simp [hs, undef] at this
    | some u => simp [hs] at this; subst this; simpa using hne
  exact wpAT_first (fun _ => trivial) ho (Region.noSelect_spec hreg.sel) hreg.noDefer (fun c a' w' h' => h') (fun _ j _ h => h.mono j) (fun _ _ h => h.skip hn) (D := []) (T := fun _ => True) (fun _ _ _ _ => trivial)
    fuel listed a w (Region.free_spec ho ht.free) rfl (by simpa using ht.rdy) (.inr ⟨hw, rfl⟩) (hk.sb hle hh) (h hreg hle (hk.mono i) _ _ (hh.put hd undef))
theorem JB.noU {j t : Nat} {b : Bool} {oj : Oper} (ho : ops[i]? = some ⟨some d, op, ty, pos, aft, some (j, b)⟩) (hj : ops[j]? = some oj) (htj : oj.dst = some t) (hb : lk l t = some undef)
    (h : JB x ops K so sH fuel listed' ((d, undef) :: l) own H)
    (ht : Take ops listed i listed' := by exact ⟨by kernel_rfl, by kernel_rfl, rfl⟩) (hn : noTurn so i = true := by rfl) (hd : Nat.blt d x.n = true := by rfl) :
    JB x ops K so sH (fuel + 1) listed l own H := fun hreg hle hk a w hh => by
  have hl := ht.nxt
  subst hl
  have hw : Region.wanted ⟨some d, op, ty, pos, aft, some (j, b)⟩ (yielded ops a.tmps) = false := by
    simp only [Region.wanted, yielded, hj, Option.bind_some, htj]
    have := hh.slots t _ hb
    cases hs : a.tmps[t]? with
    | none => simp
    | some u => simp [hs] at this; subst this; simp [undef]
  exact wpAT_first (fun _ => trivial) ho (Region.noSelect_spec hreg.sel) hreg.noDefer (fun c a' w' h' => h') (fun _ j _ h => h.mono j) (fun _ _ h => h.skip hn) (D := []) (T := fun _ => True) (fun _ _ _ _ => trivial)
    fuel listed a w (Region.free_spec ho ht.free) rfl (by simpa using ht.rdy) (.inr ⟨hw, rfl⟩) (hk.sb hle hh) (h hreg hle (hk.mono i) _ _ (hh.put hd undef))
theorem JB.doneN (hr : Region.ready .any ops listed = []) (h : JN x K l own H) : JB x ops K so sH fuel listed l own H := fun _ _ _ a w hh => by
  cases fuel with
  | zero => exact ⟨hr, h a w hh⟩
  | succ fuel => exact ⟨fun _ => h a w hh, by rw [hr]; simp⟩
theorem JB.one (hr : Region.ready .any ops listed = [i]) (h1 : JOB x ops K so sH fuel listed i l own H) : JB x ops K so sH (fuel + 1) listed l own H := fun hreg hle hk a w hh => by
  refine ⟨fun h0 => (by rw [hr] at h0; cases h0), fun k hk' => ?_⟩
  rw [hr] at hk'; simp at hk'; subst hk'; exact h1 hreg hle hk a w hh
theorem JB.two {j : Nat} (hr : Region.ready .any ops listed = [i, j]) (h1 : JOB x ops K so sH fuel listed i l own H) (h2 : JOB x ops K so sH fuel listed j l own H) :
    JB x ops K so sH (fuel + 1) listed l own H := fun hreg hle hk a w hh => by
  refine ⟨fun h0 => (by rw [hr] at h0; cases h0), fun k hk' => ?_⟩
  rw [hr] at hk'; simp at hk'; rcases hk' with rfl | rfl
  · exact h1 hreg hle hk a w hh
  · exact h2 hreg hle hk a w hh
theorem JOB.step {dst : Option Tmp} (ho : ops[i]? = some ⟨dst, op, ty, pos, aft, g⟩) (hg : guardYes ops l g) (hl : listed.setIfInBounds i true = listed')
    (h : ∀ K' : Act → World → Prop, (∀ l' own' H', Hle sH H' → Kept' so listed' own' → JB x ops K so sH fuel listed' l' own' H' → JN x K' l' own' H') →
      JL x ops (fun e a w => match e with | .normal => K' a w | e => onlyN K e a w) [⟨dst, op, ty, pos, aft, none⟩] l own H) :
    JOB x ops K so sH fuel listed i l own H := fun hreg hle hk a w hh => by
  subst hl
  have := h (fun a' w' => SB so sH (listed.setIfInBounds i true) w' ∧ wpAT (Fw x.r) 0 x.P .any ops (onlyN K) (SB so sH) fuel (listed.setIfInBounds i true) a' w')
    (fun l' own' H' hle' hk' hJ a' w' hh' => ⟨hk'.sb hle' hh', hJ hreg hle' hk' a' w' hh'⟩) a w hh
  simp only [wpLs, Zq, if_true] at this
  unfold wpOpIn
  simp only [ho]
  rw [if_pos (wanted_yes hh hg)]
  refine ⟨fun _ _ => trivial, ?_⟩
  have h2 := this.2
  have es : ∀ (ρ : Operand → Value), Oper.semAt (Fw x.r).round ρ ⟨dst, op, ty, pos, aft, g⟩ = Oper.semAt (Fw x.r).round ρ ⟨dst, op, ty, pos, aft, none⟩ := fun ρ => by
    unfold Oper.semAt; cases (Fw x.r).round <;> cases op <;> rfl
  rw [es]
  generalize (Oper.semAt (Fw x.r).round a.eval ⟨dst, op, ty, pos, aft, none⟩).run x.P w = r at *
  cases r with
  | ok y w' =>
    cases y <;> simp only [Oper.uponIn] at h2 ⊢ <;> first | exact h2 | exact ⟨h2.1, CallsIn.mono h2.2 (fun e w'' he => by cases e <;> exact he)⟩ | exact ⟨h2.1, RoundIn.mono h2.2 (fun e w'' he => by cases e <;> exact he)⟩
  | halt y w' => cases y <;> simp only [Oper.uponIn] at h2 ⊢ <;> exact h2
theorem JB.gSplit {t : Nat} {b : Bool} (hb : lk l t = some (.bool b)) (ht : b = true → JB x ops K so sH fuel listed ((t, .bool true) :: l) own H)
    (hf : b = false → JB x ops K so sH fuel listed ((t, .bool false) :: l) own H) : JB x ops K so sH fuel listed l own H := fun hreg hle hk a w hh => by
  cases b with
  | true => exact ht rfl hreg hle hk a w (hh.set hb rfl)
  | false => exact hf rfl hreg hle hk a w (hh.set hb rfl)
end
end Go.Ow
