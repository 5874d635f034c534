/-
  What is proved here: slice expressions, texts out of bytes, make, elements of own rows, struct values; over OwE.
-/
import Derived.Test.YtdelcjkjkhcaoaaOwE
namespace Go.Ow
open Go.RowKit
set_option linter.unusedVariables false
set_option linter.unusedSimpArgs false

variable {x : Cx} {ops : Array Oper} {Q : Exit → Act → World → Prop} {rest : List Oper} {l : Slots} {own : List Own} {H : Heaplet}

theorem IsSlice.val {α : Type} {R : Rep α} {size : Nat} {v : Value} {m : List α} (h : IsSlice H R size v m) : ∃ ao cap, v = .slice ao m.length cap := by
  obtain ⟨ao, cap, e, _⟩ := h; exact ⟨ao, cap, e⟩
theorem RowOf.val {α : Type} {R : Rep α} {B : Nat} {E : TypeId} {size : Nat} {v : Value} {ls : List α} {K : Own} (h : RowOf H R B E size v ls K) : ∃ ao cap, v = .slice ao ls.length cap := by
  obtain ⟨ao, cap, e, _⟩ := h.len; exact ⟨ao, cap, e⟩

/-- a part of a slice -/
theorem IsSlice.sub {α : Type} {R : Rep α} {size : Nat} {ao : Option Addr} {n cap : Nat} {m : List α} (h : IsSlice H R size (.slice ao n cap) m) (lo hi mx : Nat) (h1 : lo ≤ hi) (h2 : hi ≤ m.length) (h3 : hi ≤ mx) (h4 : mx ≤ cap) :
    IsSlice H R size (sliced ao lo hi mx size) ((m.drop lo).take (hi - lo)) := by
  obtain ⟨ao', cap', e, e1, e2, e3, e4, e5⟩ := h
  simp only [Value.slice.injEq] at e
  obtain ⟨rfl, rfl, rfl⟩ := e
  have hlen : ((m.drop lo).take (hi - lo)).length = hi - lo := by simp; omega
  unfold sliced
  refine ⟨if mx = lo then ao else ao.map (·.add (lo * size)), mx - lo, by rw [hlen], by rw [hlen]; omega, by omega, ?_, ?_, ?_⟩
  · intro a ha
    split at ha
    · rename_i hc; exact .inl (by omega)
    · rename_i hc
      cases ao with
      | none => simp at ha
      | some b =>
        simp at ha; subst ha
        have h9 := (e3 b rfl).resolve_left (by omega)
        right
        unfold Addr.add; split
        · exact h9
        · rfl
  · intro ha
    split at ha
    · rename_i hc; omega
    · cases ao with
      | none => have := e4 rfl; omega
      | some b => simp at ha
  · intro i y hy
    have hi' : i < hi - lo := by have := (List.getElem?_eq_some_iff.1 hy).1; omega
    rw [List.getElem?_take] at hy
    simp [hi', List.getElem?_drop] at hy
    obtain ⟨b, o, cs, rfl, f1, f2, f3⟩ := e5 (lo + i) y hy
    have hne : ¬ mx = lo := by omega
    refine ⟨b, o + lo * size, cs, by simp [hne], f1, f2, fun j u hj => ?_⟩
    have := f3 j u hj
    rw [Nat.add_mul] at this
    rw [show o + lo * size + i * size + j = o + (lo * size + i * size) + j by omega]; exact this

theorem elem_of {P : Program} {t e : TypeId} (h : P.underlying t = some (.slice e)) : P.underlying t = some (.slice (P.elem t)) ∧ P.elem t = e := by
  have : P.elem t = e := by simp [Program.elem, h]
  exact ⟨by rw [this]; exact h, this⟩

section ops
variable {ty : TypeId} {d : Nat} {pos : String} {aft : Array Edge} {v : Value} {α : Type} {R : Rep α} {size : Nat} {g : Bool} {t e : TypeId} {ao : Option Addr} {n cap : Nat} {m : List α} {p : Operand}

/-- an operand that may lack, as a number -/
def bnd (l : Slots) (o : Option Operand) (dflt : Nat) (k : Nat) : Prop :=
  match o with
  | none => k = dflt
  | some q => ∃ kk i, evo l q = some (.int kk i) ∧ i = (k : Int)
theorem run_slc {P : Program} (hu : P.underlying t = some (.slice e)) (hs : shapeOf P e = some (g, size)) (ρ : Operand → Value) {l : Slots} (hρ : ∀ o u, evo l o = some u → ρ o = u) (lo hi mx : Option Operand) (a b c : Nat)
    (h1 : bnd l lo 0 a) (h2 : bnd l hi n b) (h3 : bnd l mx cap c) (hab : a ≤ b) (hbc : b ≤ c) (hc : c ≤ cap) (hmx : mx = none ∨ hi ≠ none) (w : World) :
    (Instr.sliceAt t (.slice ao n cap) (lo.map ρ) (hi.map ρ) (mx.map ρ)).run P w = .ok (sliced ao a b c size) w := by
  obtain ⟨hu', he⟩ := elem_of hu
  have hsz := run_sizeOf hs w
  rw [run_sliceAt_slice _ _ _ _ _ _ hu']
  rcases lo with _ | lo <;> rcases hi with _ | hi <;> rcases mx with _ | mx <;> simp only [bnd] at h1 h2 h3
  · subst h1 h2 h3; simp only [Option.map_none]; rw [run_slice_all (ht := hu'), he, hsz]; rfl
  · rcases hmx with h | h <;> simp at h
  · obtain ⟨k2, i2, f2, rfl⟩ := h2; subst h1 h3
    simp only [Option.map_none, Option.map_some, hρ _ _ f2]; rw [run_slice_h (ht := hu') (h0 := by omega) (h2 := by omega), he, hsz]; rfl
  · obtain ⟨k2, i2, f2, rfl⟩ := h2; obtain ⟨k3, i3, f3, rfl⟩ := h3; subst h1
    simp only [Option.map_none, Option.map_some, hρ _ _ f2, hρ _ _ f3]; rw [run_slice_hm (ht := hu') (h0 := by omega) (h2 := by omega) (h3 := by omega), he, hsz]; rfl
  · obtain ⟨k1, i1, f1, rfl⟩ := h1; subst h2 h3
    simp only [Option.map_none, Option.map_some, hρ _ _ f1]; rw [run_slice_l (ht := hu') (h0 := by omega) (h1 := by omega), he, hsz]; rfl
  · rcases hmx with h | h <;> simp at h
  · obtain ⟨k1, i1, f1, rfl⟩ := h1; obtain ⟨k2, i2, f2, rfl⟩ := h2; subst h3
    simp only [Option.map_none, Option.map_some, hρ _ _ f1, hρ _ _ f2]; rw [run_slice_lh (ht := hu') (h0 := by omega) (h1 := by omega) (h2 := by omega), he, hsz]; rfl
  · obtain ⟨k1, i1, f1, rfl⟩ := h1; obtain ⟨k2, i2, f2, rfl⟩ := h2; obtain ⟨k3, i3, f3, rfl⟩ := h3
    simp only [Option.map_some, hρ _ _ f1, hρ _ _ f2, hρ _ _ f3]; rw [run_slice_lhm (ht := hu') (h0 := by omega) (h1 := by omega) (h2 := by omega) (h3 := by omega), he, hsz]; rfl
/-- x[lo:hi:mx] of a slice that stays as it is -/
theorem JL.slc (a b c : Nat) {lo hi mx : Option Operand} (hu : x.P.underlying t = some (.slice e)) (hs : shapeOf x.P e = some (g, size)) (h0 : evo l p = some (.slice ao n cap)) (hS : IsSlice H R size (.slice ao n cap) m)
    (h1 : bnd l lo 0 a) (h2 : bnd l hi m.length b) (h3 : bnd l mx cap c) (hab : a ≤ b) (hbm : b ≤ m.length) (hbc : b ≤ c) (hc : c ≤ cap) (hmx : mx = none ∨ hi ≠ none) (hd : Nat.blt d x.n = true)
    (h : ∀ ao' cap', IsSlice H R size (.slice ao' (b - a) cap') ((m.drop a).take (b - a)) → JL x ops Q rest ((d, .slice ao' (b - a) cap') :: l) own H) :
    JL x ops Q (⟨some d, .slice t p lo hi mx, ty, pos, aft, none⟩ :: rest) l own H := by
  have hn : n = m.length := by obtain ⟨_, _, e, _⟩ := hS; simp only [Value.slice.injEq] at e; exact e.2.1
  have hsub := hS.sub a b c hab hbm hbc hc
  unfold sliced at hsub
  refine JL.val hd rfl (fun ρ w _ _ _ _ hρ hm => ?_) (h _ _ hsub)
  simp only [execOp, hρ _ _ h0]
  exact run_v (run_slc hu hs ρ hρ lo hi mx a b c h1 (by subst hn; exact h2) h3 hab hbc hc hmx w)

/-! ### Texts -/
def bs (l : List UInt8) : ByteArray := ⟨l.toArray⟩
theorem foldl_push (ls : List UInt8) : ∀ acc : ByteArray, (ls.map (fun b => (b.toNat : Int))).foldl (fun r n => r.push (UInt8.ofNat n.toNat)) acc = ⟨acc.data ++ ls.toArray⟩ := by
  induction ls with
  | nil => intro acc; simp
  | cons b ls ih =>
    intro acc
    simp only [List.map_cons, List.foldl_cons]
    rw [ih]
    simp [ByteArray.push, Array.push_append]
theorem run_toStr {P : Program} {w : World} {s t e : TypeId} (hs : P.underlying s = some (.slice e)) (he : P.underlying e = some (.int .u8)) (ht : P.underlying t = some .string) {v : Value} {lb : List UInt8}
    (hv : ∃ ao cap, v = .slice ao lb.length cap ∧ (lb = [] ∨ ∃ b o, ao = some ⟨b, o, none⟩ ∧ ∀ j u, (bvs lb)[j]? = some u → w.cell? ⟨b, o + j, none⟩ = some u)) :
    (convert s t v).run P w = .ok (.string (bs lb)) w := by
  obtain ⟨ao, cap, rfl, hc⟩ := hv
  rw [run_convert_bytes_string w s t e ao lb.length cap hs he ht]
  have hload : ∀ a, (∀ j u, (bvs lb)[j]? = some u → w.cell? (a.add j) = some u) → (Conv.bytesToString (.slice (some a) lb.length cap)).run P w = .ok (.string (bs lb)) w := fun a ha => by
    have h := run_loadCells_list (P := P) (w := w) a (bvs lb) ha
    rw [show (bvs lb).length = lb.length by simp [bvs]] at h
    rw [run_bytesToString w a lb.length cap (lb.map fun b => (b.toNat : Int)) (by rw [h]; simp [bvs])]
    rw [foldl_push]; simp [bs]
  rcases hc with rfl | ⟨b, o, rfl, hc⟩
  · cases ao with
    | none => simp [Conv.bytesToString, bs, go_sem]; rfl
    | some a => exact hload a (fun j u h => by simp [bvs] at h)
  · exact hload ⟨b, o, none⟩ (fun j u h => by rw [add_lit]; exact hc j u h)
theorem JL.toStr {s t e : TypeId} {lb : List UInt8} (hs : x.P.underlying s = some (.slice e)) (he : x.P.underlying e = some (.int .u8)) (ht : x.P.underlying t = some .string) (h1 : evo l p = some v) (hB : IsB H v lb) (hd : Nat.blt d x.n = true)
    (h : JL x ops Q rest ((d, .string (bs lb)) :: l) own H) : JL x ops Q (⟨some d, .convert s t p, ty, pos, aft, none⟩ :: rest) l own H := by
  obtain ⟨cells, hf, ao, cap, rfl, hcc⟩ := hB.cells
  rw [hf.of_u8] at hcc
  exact JL.val hd rfl (fun ρ w _ _ _ _ hρ hm => by
    simp only [execOp, hρ _ _ h1]
    exact run_v (run_toStr hs he ht ⟨ao, cap, rfl, hcc.imp id (fun ⟨b, o, e1, e2⟩ => ⟨b, o, e1, fun j u hj => hm.1 _ _ _ (e2 j u hj)⟩)⟩)) h
theorem bs_eq (a b : List UInt8) : ((bs a).toList == (bs b).toList) = decide (a = b) := by
  simp only [bs, ByteArray.toList_mk]; rw [Bool.eq_iff_iff]; simp
theorem JL.eqlStr {q : Operand} {a b : List UInt8} {t u : TypeId} (h1 : evo l p = some (.string (bs a))) (h2 : evo l q = some (.string (bs b))) (hd : Nat.blt d x.n = true)
    (h : JL x ops Q rest ((d, .bool (decide (a = b))) :: l) own H) : JL x ops Q (⟨some d, .binOp .eql t p q u, ty, pos, aft, none⟩ :: rest) l own H :=
  JL.val hd rfl (fun ρ w _ _ _ _ hρ hm => by simp [execOp, hρ _ _ h1, hρ _ _ h2, eqGuard, binOp, Op.stringOp, bs_eq, go_sem]) h
theorem JL.neqStr {q : Operand} {a b : List UInt8} {t u : TypeId} (h1 : evo l p = some (.string (bs a))) (h2 : evo l q = some (.string (bs b))) (hd : Nat.blt d x.n = true)
    (h : JL x ops Q rest ((d, .bool (decide (a ≠ b))) :: l) own H) : JL x ops Q (⟨some d, .binOp .neq t p q u, ty, pos, aft, none⟩ :: rest) l own H :=
  JL.val hd rfl (fun ρ w _ _ _ _ hρ hm => by simp [execOp, hρ _ _ h1, hρ _ _ h2, eqGuard, binOp, Op.stringOp, bs_eq, go_sem]) h

/-! ### make -/
theorem flat_replicate {α : Type} {R : Rep α} {size : Nat} {z : List Value} {y : α} (hz : R H z y) (hl : z.length = size) : ∀ n, Flat H R size (List.replicate n z).flatten (List.replicate n y)
  | 0 => rfl
  | n + 1 => ⟨z, (List.replicate n z).flatten, rfl, hl, hz, flat_replicate hz hl n⟩
theorem madeCells_flat (z : Array Value) (n : Nat) (hz : 0 < z.size) : (madeCells z (n * z.size)).toList = (List.replicate n z.toList).flatten := by
  unfold madeCells
  induction n with
  | zero => simp
  | succ n ih =>
    rw [List.replicate_succ', List.flatten_append, ← ih]
    simp only [List.flatten_cons, List.flatten_nil, List.append_nil]
    rw [show (n + 1) * z.size = n * z.size + z.size by rw [Nat.add_mul]; omega]
    apply List.ext_getElem?
    intro j
    simp only [Array.toList_map, Array.toList_range, List.getElem?_map, List.getElem?_append, List.length_map, List.length_range]
    by_cases h1 : j < n * z.size
    · have h2 : j < n * z.size + z.size := by omega
      simp [h1, h2, List.getElem?_range]
    · by_cases h2 : j < n * z.size + z.size
      · have e : j % z.size = j - n * z.size := by
          have : j = (j - n * z.size) + n * z.size := by omega
          rw [this, Nat.add_mul_mod_self_right, Nat.mod_eq_of_lt (by omega)]; omega
        have h3 : j - n * z.size < z.size := by omega
        simp [h1, h2, List.getElem?_range, e, h3]
      · have h3 : ¬ j - n * z.size < z.size := by omega
        simp [h1, h2, List.getElem?_range, h3]
/-- make([]T, n) -/
theorem JL.mk {E : TypeId} {z : Value} {bytes N : Nat} {q : Operand} {kl kc : IntKind} {y : α} (hu : x.P.underlying t = some (.slice E)) (he : eInfo x.P E = some (z, size, bytes)) (h1 : evo l p = some (.int kl N)) (h2 : evo l q = some (.int kc N))
    (hR : R H z.cells.toList y) (hR1 : R.One) (hb : bytes * N ≤ 281474976710656) (hm : N ≤ maxLen) (hd : Nat.blt d x.n = true)
    (h : ∀ ao cap K', RowOf H R x.w0.heap.size E size (.slice ao N cap) (List.replicate N y) K' → JL x ops Q rest ((d, .slice ao N cap) :: l) (K' :: own) H) : JL x ops Q (⟨some d, .makeSlice t p q, ty, pos, aft, none⟩ :: rest) l own H := fun a w hh => by
  simp only [wpLs, wanted_none, if_true]
  refine ⟨fun _ _ => trivial, ?_⟩
  obtain ⟨i, hi, hz, hsz, hby, hzs, hpos⟩ := eInfo_parts he
  subst hsz; subst hby
  have hb' : (i.bytes : Int) * (N : Int) ≤ 281474976710656 := by
    have h : ((i.bytes * N : Nat) : Int) ≤ 281474976710656 := by omega
    rwa [Int.natCast_mul] at h
  have hrun := run_make (P := x.P) w t E i z hu hi hz kl kc N N (by omega) (Int.le_refl _) hb' (by simp only [maxLen] at hm; omega)
  simp only [Int.toNat_natCast] at hrun
  have e1 := eval_of hh h1
  have e2 := eval_of hh h2
  generalize a.eval = ρ at e1 e2
  have hrun' : (execOp ρ ⟨some d, .makeSlice t p q, ty, pos, aft, none⟩).run x.P w = .ok (.value (.slice (some ⟨w.heap.size, 0, none⟩) N N)) (w.alloc (.cells (madeCells z.cells (N * i.size)) E)) := by
    simp only [execOp, e1, e2]; exact run_v hrun
  rw [semAt_of rfl, hrun']
  have hmc : (madeCells z.cells (N * i.size)).toList = (List.replicate N z.cells.toList).flatten := by rw [← hzs]; exact madeCells_flat z.cells N (by omega)
  have hfl := flat_replicate (R := R) (H := H) (size := i.size) hR (by simpa using hzs) N
  refine h _ _ [(w.heap.size, .cells (madeCells z.cells (N * i.size)) E (0, 0))] ⟨(List.replicate N z.cells.toList).flatten, ⟨by rw [hfl.length], .inr ⟨w.heap.size, N, _, by simp, rfl, hh.mem.kept.size, by simp, hm, ?_, ?_⟩⟩, hfl, hfl.one' hR1⟩ _ _ (Holds.put (x := x) (l := l) ?_ hd _)
  · rw [← Array.length_toList, hmc, hfl.length]; simp
  · rw [hmc]; simp only [List.length_replicate]; rw [List.take_of_length_le (by rw [hfl.length]; simp)]
  · exact ⟨hh.size, hh.ds, hh.slots, by simpa using hh.mem.go0 (K' := [[(w.heap.size, .cells (madeCells z.cells (N * i.size)) E (0, 0))]]) (by simpa using Mem.alloc hh.mem.agr (.cells (madeCells z.cells (N * i.size)) E (0, 0)))⟩
end ops
end Go.Ow
