/-
  What is proved here: a law's arguments, as data that lie in the memory; from the walk of a law that is true to its contract.
-/
import Derived.Test.YtdelcjkjkhcaoaaOwRT
namespace Go.Ow
open Go.ChangeShapes Go.WideShapes Go.ChangeAt Go.RowKit
set_option linter.unusedVariables false
set_option linter.unusedSimpArgs false
section
variable {H : Type} {enc : TypeId × Value → H} {P : Program} {W : World} {B : Bulk H} {r : Reach} {b0 : Nat} {t : TypeId} {v : Value} {d : DataW H} {ps : List MemPlace}

theorem arg_slice {α : Type} {e : TypeId} {R : Rep α} {size : Nat} {big : α → Nat} {I : α → Prop} (ht : P.underlying t = some (.slice e)) (hc : P.cellsOf e = size) (hpos : 0 < size) (he : Reads enc P W B e R size big I)
    (hval : Value.okWide P W r b0 t v) (hd : DataW.Trod enc P W 0 (fun _ => true) true t v d ps) :
    ∃ ao n cap, v = .slice ao n cap ∧ ∃ l, IsSlice (HW W) R size (.slice ao n cap) l ∧ bigs big l ≤ B.one d ∧ ∀ x ∈ l, I x := by
  obtain ⟨a, n, cap, rfl⟩ := okWide_slice ht hval
  obtain ⟨fuel, hf⟩ := hd
  obtain ⟨ao, n', cap', e1, l, h1, h2, h3⟩ := reads_slice (B := B) ht hc hpos he fuel _ d ps hf
  have e2 : Value.slice a n cap = .slice ao n' cap' := by simpa [Value.cells] using e1
  exact ⟨a, n, cap, rfl, l, by rw [e2]; exact h1, h2, h3⟩
theorem arg_struct {α : Type} {fs : Array Field} {R : Rep α} {size : Nat} {big : α → Nat} {I : α → Prop} (ht : P.underlying t = some (.struct fs)) (he : Reads enc P W B t R size big I)
    (hval : Value.okWide P W r b0 t v) (hd : DataW.Trod enc P W 0 (fun _ => true) true t v d ps) :
    ∃ cs : Array Value, v = .agg cs ∧ ∃ x, R (HW W) cs.toList x ∧ big x ≤ B.one d ∧ I x := by
  obtain ⟨cs, rfl, _⟩ := okWide_struct ht hval
  obtain ⟨fuel, hf⟩ := hd
  obtain ⟨x, h1, h2, h3, h4⟩ := he fuel _ d ps hf
  exact ⟨cs, rfl, x, by simpa [Value.cells] using h1, h3, h4⟩
theorem arg_one {α : Type} {R : Rep α} {size : Nat} {big : α → Nat} {I : α → Prop} (he : Reads enc P W B t R size big I) (hc : v.cells = #[v])
    (hd : DataW.Trod enc P W 0 (fun _ => true) true t v d ps) : ∃ x, R (HW W) [v] x ∧ big x ≤ B.one d ∧ I x := by
  obtain ⟨fuel, hf⟩ := hd
  rw [hc] at hf
  obtain ⟨x, h1, _, h3, h4⟩ := he fuel _ d ps hf
  exact ⟨x, h1, h3, h4⟩
theorem arg_u32 (B : Bulk H) (ht : P.underlying t = some (.int .u32)) (hval : Value.okWide P W r b0 t v) (hd : DataW.Trod enc P W 0 (fun _ => true) true t v d ps) : ∃ n : UInt32, v = .int .u32 (n.toNat : Int) := by
  obtain ⟨n, rfl, _, _, hw⟩ := open_int ht hval hd
  obtain ⟨x, h1, _⟩ := arg_one (B := B) (reads_u32 ht) rfl hd
  exact ⟨x, by simpa [RU32] using h1⟩
/-- the arguments read the same where nothing below has turned -/
theorem trodAll_below (hl : laidOutB P = true) {W' : World} {sp : Nat → Bool} (hb : Below W.heap.size W W') : ∀ {ts : List TypeId} {vs : List Value} {ds : List (DataW H)} {ps : List MemPlace},
    ts.all (fun t => P.readableRec t && decide (t < P.types.size)) = true → DataW.TrodAll enc P W 0 (fun _ => true) true ts vs ds ps → (∀ p ∈ ps, p.block < W.heap.size) → (∀ p ∈ ps, sp p.block = true) →
    DataW.TrodAll enc P W' 0 sp true ts vs ds ps
  | [], _, _, _, _, h, _, _ => by
    obtain ⟨rfl, rfl, rfl⟩ := trodAll_nil h
    exact trodAll_mk0
  | t :: ts, _, _, _, hr, h, hlt, hs => by
    obtain ⟨v, vs, d, ds, p, q, rfl, rfl, rfl, h1, h2⟩ := trodAll_cons h
    simp only [List.all_cons, Bool.and_eq_true, decide_eq_true_eq] at hr
    refine trodAll_cons_mk (WideElems.Trod_stays hl hr.1.1 hr.1.2 h1 (fun x hx => hb.same (hlt x (by simp [hx]))) (fun x hx => hs x (by simp [hx]))) ?_
    exact trodAll_below hl hb (by simpa using hr.2) h2 (fun x hx => hlt x (by simp [hx])) (fun x hx => hs x (by simp [hx]))

/-- FROM THE WALK TO THE CONTRACT of a law that is true -/
theorem lift_true {fid : FuncId} {fn : Func} {s : ChangeSpec} {args : Array Value} {ds gs : List (DataW H)} {before : List MemPlace} {tb : TypeId} {R : Value → List Own → Heaplet → Prop} (hl : laidOutB P = true)
    (hrec : fn.params.toList.all (fun t => P.readableRec t && decide (t < P.types.size)) = true) (hres : fn.resultTypes = #[tb]) (htb : P.underlying tb = some .bool) (hv : s.vars = [])
    (hW : DataW.Whole enc P fn.params.toList s.vars false W args.toList ds gs before) (hs : s.fn H (ds ++ gs) = { results := [.lit (.bool true)], args := ds })
    (hd : Does P fid args [] (HW W) R) (hR : ∀ u K H', R u K H' → u = .bool true) :
    Calls P fid args W fun e W' => ∃ v, e = .returned v ∧ s.post enc P fn false true false false W args v W' := by
  have h1 := callsIn_wide.1 (hd W (agrees_HW W) ⟨by simp, by simp [ids], by simp⟩)
  refine h1.mono fun e W' ⟨v, K', H', he, hr, hm⟩ => ?_
  obtain rfl := hR _ _ _ hr
  refine ⟨_, he, ?_⟩
  have hb : Below W.heap.size W W' := (show Kept [] W W' from hm.kept).below
  have hlt := hW.lt
  have hW' := hW
  obtain ⟨p, q, hA, hV, rfl, hfz, hnd⟩ := hW'
  rw [hv] at hV
  obtain ⟨rfl, rfl⟩ := trodVars_none hV
  refine ⟨ds, [], _, [], p, [], hW, ?_, ?_, ?_, hb.frame _, fun h => by cases h⟩
  · rw [hs, hres]
    exact trodAll_cons_mk (shut_bool htb _) trodAll_mk0
  · rw [hs]
    exact trodAll_below hl hb hrec hA (fun x hx => hlt x (by simpa using hx)) (fun x hx => by simpa using hlt x (by simpa using hx))
  · rw [hs, hv]; exact rfl
end
end Go.Ow
