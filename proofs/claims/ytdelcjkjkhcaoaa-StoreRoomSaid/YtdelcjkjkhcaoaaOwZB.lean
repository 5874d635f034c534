/-
  What is proved here: bytes of a text are counted by the library's own entry; over OwZ.
-/
import Derived.Test.YtdelcjkjkhcaoaaOwZ
import Derived.Laws.Externs
import Derived.Lib.BytesEntry
import Derived.Lib.Bytealg
namespace Go.Ow
open Go.RowKit
set_option linter.unusedVariables false
set_option linter.unusedSimpArgs false
variable {x : Cx} {l : Slots} {own : List Own} {H : Heaplet} {ty : TypeId}

theorem bytesOf_toNat (m : List UInt8) : Lib.bytesOf (m.map fun b => (b.toNat : Int)) = m := by
  unfold Lib.bytesOf
  rw [List.map_map]
  conv => rhs; rw [← List.map_id m]
  refine List.map_congr_left (fun b _ => ?_)
  simp
theorem run_count {P : Program} {w : World} {v : Value} {m : List UInt8} {c : UInt8} (hw : Agrees H w) (hs : IsSlice H RU8 1 v m) :
    (Extern.BytealgCount.count #[v, .int .u8 (c.toNat : Int)]).run P w = .ok (.int .i64 ((cntB m c : Nat) : Int)) w := by
  obtain ⟨ao, cap, rfl, h1, h2, h3, h4, h5⟩ := hs
  have hb : (Extern.Bytes.bytesOf (.slice ao m.length cap)).run P w = .ok ⟨m.toArray⟩ w := by
    cases ao with
    | none =>
      have : m = [] := List.length_eq_zero_iff.1 (by have := h4 rfl; omega)
      subst this; rfl
    | some a =>
      have hl := Lib.run_loadBytesX (P := P) w (m.map fun b => (b.toNat : Int)) a .empty (fun j y hy => by
        rw [List.getElem?_map] at hy
        cases hj : m[j]? with
        | none => rw [hj] at hy; cases hy
        | some b =>
          rw [hj] at hy
          obtain rfl := Option.some.inj hy
          obtain ⟨bb, o, cs, e1, -, e3, e4⟩ := h5 j b hj
          obtain rfl := Option.some.inj e1
          obtain rfl : cs = [.int .u8 (b.toNat : Int)] := e3
          have := hw _ _ _ (e4 0 _ rfl)
          rw [add_lit]
          simpa using this)
      rw [List.length_map, bytesOf_toNat] at hl
      show (Extern.Bytes.loadBytes a m.length .empty).run P w = _
      rw [hl]
      simp
  change Sem.run P (do
    let b ← Extern.Bytes.bytesOf (.slice ao m.length cap)
    let c' ← Extern.Bytes.asByte (.int .u8 (c.toNat : Int))
    pure (goInt (b.foldl (fun n x => if x == c' then n + 1 else n) (0 : Nat)))) w = _
  simp only [Sem.run_bind, hb, Extern.Bytes.asByte, Sem.run_pure, Result.andThen]
  have : (c.toNat : Int).toNat.toUInt8 = c := by simp
  rw [this]
  congr 1
  unfold goInt cntB
  congr 1
  rw [Lib.foldl_data]
  suffices H : ∀ (l : List UInt8) (k : Nat), l.foldl (fun (n : Int) x => if x == c then n + 1 else n) (k : Int) = ((l.foldl (fun n x => if x == c then n + 1 else n) k : Nat) : Int) from H m 0
  intro l
  induction l with
  | nil => intro k; rfl
  | cons b l ih =>
    intro k
    simp only [List.foldl_cons]
    split
    · exact ih (k + 1)
    · exact ih k
theorem R.countB {p q : Operand} {f : FuncId} {fn : Func} {m : List UInt8} {c : UInt8} {v : Value} {ts : Array TypeId} (hf : x.P.funcs[f]? = some fn) (hname : (fn.name == "runtime.NumGoroutine") = false) (hb : fn.body.isNone = true)
    (hn : Extern.findNext fn = none) (he : Extern.find fn = some Extern.BytealgCount.count) (h1 : evo l p = some v) (hs : IsSlice H RU8 1 v m) (h2 : evo l q = some (.int .u8 (c.toNat : Int))) :
    Runs x (.call ⟨.value (.func f), #[p, q], ts⟩) ty l own H (.int .i64 ((cntB m c : Nat) : Int)) := fun ρ w _ _ _ _ hρ hm => by
  have e3 : Array.map ρ #[p, q] = #[v, .int .u8 (c.toNat : Int)] := by simp [hρ _ _ h1, hρ _ _ h2]
  have e1 : ρ (.func f) = .func (.func f) #[] #[] := hρ _ _ rfl
  simp only [execOp, resolve, e1, e3, Deferred.ofValue, Sem.run_bind, Sem.run_pure, Result.andThen, invoke]
  have := run_callFunc_extern hf hname hb hn he #[v, .int .u8 (c.toNat : Int)] w
  rw [run_count hm.1 hs] at this
  simpa [Result.andThen] using this
end Go.Ow
