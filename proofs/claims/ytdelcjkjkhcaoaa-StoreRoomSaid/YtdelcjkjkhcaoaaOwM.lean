/-
  What is proved here: building a struct; a result that lies in a cell; the order of own segments; over OwL.
-/
import Derived.Test.YtdelcjkjkhcaoaaOwL
namespace Go.Ow
open Go.RowKit
set_option linter.unusedVariables false
set_option linter.unusedSimpArgs false

def placesOf (P : Program) (T : TypeId) : Option (List (Nat × Nat)) := match P.underlying T with
  | some (.struct fs) => fs.toList.mapM (fun f => (shapeOf P f.type).map (fun s => (f.offset, s.2)))
  | _ => none
theorem run_mapM {α β : Type} {P : Program} {w : World} {f : α → Sem β} {g : α → Option β} (h : ∀ a b, g a = some b → (f a).run P w = .ok b w) : ∀ (l : List α) (bs : List β), l.mapM g = some bs → (l.mapM f).run P w = .ok bs w
  | [], bs, e => by simp at e; subst e; simp [go_sem]
  | a :: l, bs, e => by
    simp only [List.mapM_cons, Option.bind_eq_bind, Option.bind_eq_some_iff] at e
    obtain ⟨b, hb, cs, hcs, e⟩ := e
    simp at e; subst e
    rw [List.mapM_cons]
    simp only [Sem.run_bind, h a b hb, Result.andThen, run_mapM h l cs hcs, Sem.run_pure]
theorem run_build {P : Program} {T : TypeId} {w : World} {z : Value} {places : List (Nat × Nat)} {vs : List (Nat × Value)} {cells : Array Value} (hz : zeroOf P T = some z) (hp : placesOf P T = some places)
    (hf : Instr.fill (places.toArray[·]?) z.cells vs = some cells) : (Instr.build T vs.toArray).run P w = .ok (.agg cells) w := by
  unfold placesOf at hp
  split at hp
  · rename_i fs hu
    unfold Instr.build
    simp only [Sem.run_bind, run_zeroValue hz, Result.andThen, run_underlying hu]
    have hm : (fs.mapM fun f => do pure (f.offset, ← Go.sizeOf f.type) : Sem (Array (Nat × Nat))).run P w = .ok places.toArray w := by
      rw [Array.mapM_eq_mapM_toList]
      have := run_mapM (P := P) (w := w) (f := fun (f : Field) => (do pure (f.offset, ← Go.sizeOf f.type) : Sem (Nat × Nat))) (fun a b hb => by
        cases hs : shapeOf P a.type with
        | none => simp [hs] at hb
        | some s =>
          simp [hs] at hb; subst hb
          simp only [Sem.run_bind, run_sizeOf (n := s.2) (g := s.1) hs, Result.andThen, Sem.run_pure]) fs.toList places hp
      rw [map_eq_pure_bind, Sem.run_bind, this]; rfl
    rw [hm]
    simp only [hf]; rfl
  · cases hp

def notAgg : Value → Bool
  | .agg _ => false
  | _ => true
theorem notAgg_cells {v : Value} (h : notAgg v = true) : v.cells = #[v] := by cases v <;> first | rfl | cases h
def setAll (places : List (Nat × Nat)) : List Value → List (Nat × Value) → List Value
  | l, [] => l
  | l, (i, v) :: r => setAll places (match places[i]? with | some p => l.set p.1 v | none => l) r
def fits (places : List (Nat × Nat)) (n : Nat) (p : Nat × Value) : Bool := notAgg p.2 && match places[p.1]? with | some q => Nat.beq q.2 1 && Nat.blt q.1 n | none => false
theorem fill_one (places : List (Nat × Nat)) : ∀ (vs : List (Nat × Value)) (cells : Array Value), vs.all (fits places cells.size) = true → Instr.fill (places.toArray[·]?) cells vs = some (setAll places cells.toList vs).toArray
  | [], cells, _ => by simp [Instr.fill, setAll]
  | (i, v) :: r, cells, h => by
    simp only [List.all_cons, Bool.and_eq_true, fits] at h
    obtain ⟨⟨h1, h2⟩, h3⟩ := h
    cases hp : places[i]? with
    | none => simp [hp] at h2
    | some q =>
      obtain ⟨off, size⟩ := q
      simp only [hp, Bool.and_eq_true] at h2
      have e1 : size = 1 := Nat.eq_of_beq_eq_true h2.1
      have e2 : off < cells.size := by simpa [Nat.blt_eq] using h2.2
      subst e1
      have hc := notAgg_cells h1
      have hpl : places.toArray[i]? = some (off, 1) := by simpa using hp
      have hr := fill_one places r (cells.setIfInBounds off v) (by simpa using h3)
      simp only [Instr.fill, hpl, hc]
      rw [if_neg (by simp; omega)]
      simp only [setAll, hp]
      simpa using hr
section ops
variable {x : Cx} {ops : Array Oper} {Q : Exit → Act → World → Prop} {l : Slots} {own : List Own} {H : Heaplet} {rest : List Oper} {d : Nat} {ty : TypeId} {pos : String} {aft : Array Edge}
theorem JL.build {T : TypeId} {parts : Array (Nat × Operand)} {vs : List (Nat × Value)} {z : Value} {places : List (Nat × Nat)} {cells : Array Value} (hz : zeroOf x.P T = some z) (hp : placesOf x.P T = some places)
    (hv : parts.toList.mapM (fun p => (evo l p.2).map (fun u => (p.1, u))) = some vs) (hf : Instr.fill (places.toArray[·]?) z.cells vs = some cells) (hd : Nat.blt d x.n = true)
    (h : JL x ops Q rest ((d, .agg cells) :: l) own H) : JL x ops Q (⟨some d, .build T parts, ty, pos, aft, none⟩ :: rest) l own H :=
  JL.val hd rfl (fun ρ w _ _ _ _ hρ hm => by
    simp only [execOp]
    have key : ∀ (ps : List (Nat × Operand)) (us : List (Nat × Value)), ps.mapM (fun p => (evo l p.2).map (fun u => (p.1, u))) = some us → ps.map (fun p => (p.1, ρ p.2)) = us := by
      intro ps
      induction ps with
      | nil => intro us e; simp at e; simp [e]
      | cons p ps ih =>
        intro us e
        simp only [List.mapM_cons, Option.bind_eq_bind, Option.bind_eq_some_iff, Option.map_eq_some_iff] at e
        obtain ⟨b, ⟨u, hu, rfl⟩, cs, hcs, e⟩ := e
        simp at e; subst e
        simp [ih cs hcs, hρ _ _ hu]
    have e : parts.map (fun p => (p.1, ρ p.2)) = vs.toArray := by
      rw [← key _ _ hv]; apply Array.ext'; simp
    have := run_build (P := x.P) (w := w) hz hp hf
    rw [← e] at this
    exact run_v this) h
theorem JL.bld {T : TypeId} {parts : Array (Nat × Operand)} {vs : List (Nat × Value)} {z : Value} {places : List (Nat × Nat)} (hz : zeroOf x.P T = some z) (hp : placesOf x.P T = some places)
    (hv : parts.toList.mapM (fun p => (evo l p.2).map (fun u => (p.1, u))) = some vs) (hf : vs.all (fits places z.cells.size) = true) (hd : Nat.blt d x.n = true)
    (h : JL x ops Q rest ((d, .agg (setAll places z.cells.toList vs).toArray) :: l) own H) : JL x ops Q (⟨some d, .build T parts, ty, pos, aft, none⟩ :: rest) l own H :=
  JL.build hz hp hv (fill_one _ _ _ hf) hd h
theorem JN.perm {K : Act → World → Prop} {own' : List Own} (hp : own.flatten.Perm own'.flatten) (h : JN x K l own' H) : JN x K l own H := fun a w hh =>
  h a w ⟨hh.size, hh.ds, hh.slots, hh.mem.agr, hh.mem.ok.perm hp, hh.mem.kept, fun p hp' => hh.mem.fresh p (hp.mem_iff.2 hp'), hh.mem.le, hh.mem.grow, hh.mem.soft⟩
theorem perm_front {α : Type} {own : List (List α)} {i : Nat} {seg : List α} (h : own[i]? = some seg) : own.flatten.Perm (seg :: own.eraseIdx i).flatten := by simpa using flatten_perm h
theorem JN.front (i : Nat) {K : Act → World → Prop} {seg : Own} (hi : own[i]? = some seg) (h : JN x K l (seg :: own.eraseIdx i) H) : JN x K l own H := JN.perm (perm_front hi) h
theorem JC.front (i : Nat) {c : Code} {seg : Own} (hi : own[i]? = some seg) (h : JC x c Q l (seg :: own.eraseIdx i) H) : JC x c Q l own H := fun a w hh =>
  h a w ⟨hh.size, hh.ds, hh.slots, hh.mem.agr, hh.mem.ok.perm (perm_front hi), hh.mem.kept, fun p hp' => hh.mem.fresh p ((perm_front hi).mem_iff.2 hp'), hh.mem.le, hh.mem.grow, hh.mem.soft⟩
end ops
/-! ### One state where branches meet -/
section mid
variable {x : Cx} {Q : Exit → Act → World → Prop} {l : Slots} {own : List Own} {H : Heaplet}
theorem JC.mid {ι : Type} {c d : Code} (L : ι → Slots) (O : ι → List Own) (G : ι → Heaplet) (I : ι → Prop)
    (h1 : JC x c (Exit.then (fun a w => ∃ j, I j ∧ Holds x (L j) (O j) (G j) a w) Q) l own H) (h2 : ∀ i, I i → JC x d Q (L i) (O i) (G i)) : JC x (.seq c d) Q l own H := fun a w hh => by
  refine wpIn_seq (wpIn_mono (h1 a w hh) ?_)
  intro e a w hq
  cases e with
  | normal => obtain ⟨i, hI, hh⟩ := hq; exact h2 i hI _ _ hh
  | exit id => exact hq
  | goto t => exact hq
  | ret => exact hq
  | panic c => exact hq
  | outgrown => exact hq
theorem JN.mid {ι : Type} {L : ι → Slots} {O : ι → List Own} {G : ι → Heaplet} {I : ι → Prop} (j : ι) (hj : I j) (hl : Sub (L j) l) (ho : O j = own) (hg : G j = H) :
    JN x (Exit.then (fun a w => ∃ j, I j ∧ Holds x (L j) (O j) (G j) a w) Q .normal) l own H := fun a w hh => ⟨j, hj, by rw [ho, hg]; exact hh.sub hl⟩
end mid
end Go.Ow
