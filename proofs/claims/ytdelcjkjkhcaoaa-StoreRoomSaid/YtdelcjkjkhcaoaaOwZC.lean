/-
  What is proved here: new memory whose bytes are not told (bytealg.MakeNoZero); over OwZB.
-/
import Derived.Test.YtdelcjkjkhcaoaaOwZB
import Derived.Room.MakeNoZero
namespace Go.Ow
open Go.RowKit
set_option linter.unusedVariables false
set_option linter.unusedSimpArgs false
open Go.Lib

theorem digits_bytes : ∀ (n t : Nat) (acc : Array Value) (la : List UInt8), acc.toList = bvs la → ∃ L : List UInt8, (Extern.BytealgMakeNoZero.digits n t acc).toList = bvs L ∧ L.length = la.length + n
  | 0, t, acc, la, h => ⟨la, h, rfl⟩
  | n + 1, t, acc, la, h => by
    obtain ⟨L, h1, h2⟩ := digits_bytes n (t / 256) (acc.push (.int .u8 (Int.ofNat (t % 256)))) (la ++ [UInt8.ofNat t]) (by
      rw [Array.toList_push, h]
      simp [bvs, UInt8.toNat_ofNat'])
    exact ⟨L, h1, by rw [h2]; simp; omega⟩
theorem run_mnz {P : Program} (w : World) (ps : Array TypeId) (t e : TypeId) (ht : P.underlying t = some (.slice e)) (n : Nat) (hn : n ≤ 281474976710656) :
    ∃ (cs : Array Value) (L : List UInt8), (Extern.BytealgMakeNoZero.makeNoZero ps #[t] #[.int .i64 n]).run P w = .ok (.slice (some ⟨w.heap.size, 0, none⟩) n cs.size) (w.drew.drew.alloc (.cells cs e)) ∧ n ≤ cs.size ∧ cs.size ≤ maxLen ∧ cs.toList = bvs L ∧ L.length = cs.size := by
  have h1 : ¬ (n : Int) < 0 := by omega
  have h2 : ¬ (281474976710656 : Int) < (n : Int) := by omega
  obtain ⟨B, hB⟩ : ∃ B : Nat, (Extern.BytealgMakeNoZero.makeNoZero ps #[t] #[.int .i64 n]).run P w = .ok (.slice (some ⟨w.heap.size, 0, none⟩) n (grownCap w n 0 e)) (w.drew.drew.alloc (.cells (Extern.BytealgMakeNoZero.digits (grownCap w n 0 e) B #[]) e)) := by
    obtain ⟨q, hf, hdef⟩ : ∃ q : Question, q.forced = false ∧ Extern.BytealgMakeNoZero.makeNoZero ps #[t] #[.int .i64 n] =
      (do
        let .slice elem ← underlying t | stuck "bytealg.MakeNoZero: slice type expected"
        if (n : Int) < 0 || (n : Int) > 2 ^ 48 then runtimePanic (.error "makeslice: len out of range")
        let cap ← choose (.appendCap (n : Int).toNat 0 elem)
        askRoom cap
        let bytes ← choose q
        let a ← newRow elem (Extern.BytealgMakeNoZero.digits cap bytes #[])
        pure (.slice (some a) (n : Int).toNat cap)) := ⟨_, rfl, rfl⟩
    refine ⟨q.cut (w.tape (w.drawn + 1) q), ?_⟩
    rw [hdef]
    have ha : ∀ a b c, (Question.appendCap a b c).forced = false := fun _ _ _ => rfl
    simp [run_underlying ht, h1, h2, ha, hf, newRow, size_digits, grownCap]
  obtain ⟨L, g1, g2⟩ := digits_bytes (grownCap w n 0 e) B #[] [] rfl
  have hs : (Extern.BytealgMakeNoZero.digits (grownCap w n 0 e) B #[]).size = grownCap w n 0 e := by rw [size_digits]; simp
  refine ⟨Extern.BytealgMakeNoZero.digits (grownCap w n 0 e) B #[], L, by rw [hs]; exact hB, ?_, ?_, g1, ?_⟩
  · rw [hs]; exact grownCap_ge w n 0 e
  · rw [hs]; exact grownCap_le_maxLen w n 0 e (by unfold maxLen; omega)
  · rw [g2, hs]; simp

variable {x : Cx} {ops : Array Oper} {Q : Exit → Act → World → Prop} {rest : List Oper} {l : Slots} {own : List Own} {H HF : Heaplet}
variable {ty : TypeId} {d : Nat} {pos : String} {aft : Array Edge}
theorem JL.mkNZ {p : Operand} {f : FuncId} {fn : Func} {t E : TypeId} {N : Nat} {ts : Array TypeId} (hf : x.P.funcs[f]? = some fn) (hname : (fn.name == "runtime.NumGoroutine") = false) (hb : fn.body.isNone = true)
    (hn : Extern.findNext fn = none) (hu : x.P.underlying t = some (.slice E)) (he : Extern.find fn = some (Extern.BytealgMakeNoZero.makeNoZero fn.params #[t])) (h1 : evo l p = some (.int .i64 (N : Int))) (hN : N ≤ LIM) (hd : Nat.blt d x.n = true)
    (h : ∀ ao cap L K', L.length = N → RowOf HF RU8 x.w0.heap.size E 1 (.slice ao N cap) L K' → JL x ops Q rest ((d, .slice ao N cap) :: l) (K' :: own) H) :
    JL x ops Q (⟨some d, .call ⟨.value (.func f), #[p], ts⟩, ty, pos, aft, none⟩ :: rest) l own H := fun a w hh => by
  simp only [wpLs, wanted_none, if_true]
  refine ⟨fun _ _ => trivial, ?_⟩
  obtain ⟨cs, L, g1, g2, g3, g4, g5⟩ := run_mnz (P := x.P) w fn.params t E hu N (by simp only [LIM] at hN; omega)
  have hrun : (execOp a.eval ⟨some d, .call ⟨.value (.func f), #[p], ts⟩, ty, pos, aft, none⟩).run x.P w = .ok (.value (.slice (some ⟨w.heap.size, 0, none⟩) N cs.size)) (w.drew.drew.alloc (.cells cs E)) := by
    have e3 : Array.map a.eval #[p] = #[.int .i64 (N : Int)] := by simp [eval_of hh h1]
    have e1 : a.eval (.func f) = .func (.func f) #[] #[] := eval_of hh (o := .func f) rfl
    simp only [execOp, resolve, e1, e3, Deferred.ofValue, Sem.run_bind, Sem.run_pure, Result.andThen, invoke]
    have := run_callFunc_extern hf hname hb hn he #[.int .i64 (N : Int)] w
    rw [g1] at this
    simpa [Result.andThen] using this
  rw [semAt_of rfl, hrun]
  have hm2 : Mem x.w0 x.H0 x.S own.flatten H w.drew.drew := hh.mem.drew.drew
  refine h (some ⟨w.heap.size, 0, none⟩) cs.size (L.take N) [(w.heap.size, .cells cs E (0, 0))] (by rw [List.length_take]; omega)
    ⟨bvs (L.take N), ⟨by simp [bvs], .inr ⟨w.heap.size, cs.size, cs, by rw [List.length_take, Nat.min_eq_left (by omega)], rfl, hh.mem.kept.size, by rw [List.length_take]; omega, g3, by simp, ?_⟩⟩, Flat.bytes _, (Flat.bytes (H := H) _).one' RU8.one⟩ _ _ (Holds.put (x := x) (l := l) ?_ hd _)
  · rw [g4]; simp [bvs, List.map_take]
  · exact ⟨hh.size, hh.ds, hh.slots, by simpa using hm2.go0 (K' := [[(w.heap.size, .cells cs E (0, 0))]]) (by simpa using Mem.alloc hm2.agr (.cells cs E (0, 0)))⟩
/-! ### The first elements of an own row, with no room behind them -/
theorem RowOf.cutc {α : Type} {R : Rep α} {B size : Nat} {E : TypeId} {v : Value} {m m' : List α} {K : Own} {b : Int} (h : RowOf HF R B E size v m K) (hm : m' = cut m 0 b) (hab : (0 : Int) ≤ 0 ∧ 0 ≤ b ∧ b ≤ m.length) :
    ∃ v' cap ao', (∃ ao, v = .slice ao m.length cap ∧ b ≤ cap ∧ v' = sliced ao (0 : Int).toNat b.toNat b.toNat size) ∧ v' = .slice ao' m'.length m'.length ∧ RowOf HF R B E size v' m' K := by
  have hp := RowOf.pre h hm hab
  have hl : m'.length = b.toNat := by subst hm; simp only [cut, List.length_take, List.length_drop]; omega
  obtain ⟨cl, ⟨-, q⟩, -, -⟩ := h
  rcases q with ⟨q1, q2, rfl⟩ | ⟨g, c, cur, q1, rfl, q3, q4, q5, q6, q7⟩
  · have hb : b = 0 := by have := hab.2.2; omega
    have hm0 : m' = [] := List.length_eq_zero_iff.1 (by rw [hl, hb]; rfl)
    subst hb hm0
    exact ⟨_, 0, none, ⟨none, by rw [q1, q2], Int.le_refl _, rfl⟩, by simp [sliced], by
      have : sliced (none : Option Addr) (0 : Int).toNat (0 : Int).toNat (0 : Int).toNat size = .slice none 0 0 := by simp [sliced]
      rw [this]; exact RowOf.nil _ _ _ _ _⟩
  · have e3 : ∀ c : Nat, sliced (some (⟨g, 0, none⟩ : Addr)) (0 : Int).toNat b.toNat c size = .slice (some ⟨g, 0, none⟩) b.toNat c := fun c => by simp [sliced]
    obtain ⟨v1, cap, -, -, ⟨ao, e1, -, e2⟩, cells, ⟨h0, h1⟩, hf, ho⟩ := hp
    rw [q1] at e1; simp only [Value.slice.injEq] at e1
    obtain ⟨rfl, -, rfl⟩ := e1
    refine ⟨_, c, some ⟨g, 0, none⟩, ⟨_, q1, by have := hab.2.2; omega, rfl⟩, by rw [e3, hl], cells, ⟨h0, .inr ⟨g, b.toNat, cur, by rw [e3, hl], rfl, q3, by omega, by have := hab.2.2; omega, Nat.le_trans (Nat.mul_le_mul_right _ (by have := hab.2.2; omega)) q6, ?_⟩⟩, hf, ho⟩
    rcases h1 with ⟨h1, -⟩ | ⟨g', c', cur', h1, h2, -, -, -, -, h7⟩
    · rw [e2, e3] at h1; cases h1
    · simp only [List.cons.injEq, Prod.mk.injEq, Obj.cells.injEq] at h2
      obtain ⟨⟨-, rfl, -⟩, -⟩ := h2
      exact h7
end Go.Ow
