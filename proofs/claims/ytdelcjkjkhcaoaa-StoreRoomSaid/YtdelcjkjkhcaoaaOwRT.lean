/-
  What is proved here: what a reading of the program's structures says. Printed by mkrt.py.
-/
import Derived.Test.YtdelcjkjkhcaoaaOwR
namespace Go.Ow
open Go.ChangeShapes Go.WideShapes Go.ChangeAt Go.RowKit
set_option linter.unusedVariables false
set_option linter.unusedSimpArgs false

section
variable {H : Type} {enc : TypeId × Value → H} {P : Program} {W : World} {B : Bulk H}

def big_Write (x : Write) : Nat := 1 + bigs (fun _ => 1) x.Data + 1
def ok_Write (x : Write) : Prop := InI64 x.At ∧ (∀ y ∈ x.Data, (fun _ => True) y)
theorem reads_Write {t : TypeId} {fs : Array Field} {f0 f1 : Field} (ht : P.underlying t = some (.struct fs)) (hN : P.cellsOf t = 2) (hk : fs.size = 2)
    (g0 : fs[0]? = some f0 ∧ f0.offset = 0 ∧ P.cellsOf f0.type = 1) (r0 : Reads enc P W B f0.type RInt 1 (fun _ => 1) InI64)
    (g1 : fs[1]? = some f1 ∧ f1.offset = 1 ∧ P.cellsOf f1.type = 1) (r1 : Reads enc P W B f1.type (RSl RU8 1) 1 (bigs (fun _ => 1)) (fun l => ∀ x ∈ l, (fun _ => True) x)) :
    Reads enc P W B t R_Write 2 big_Write ok_Write := fun fuel cs d ps h => by
  obtain ⟨xs, n, _, hx, hlen, hxl, hf⟩ := DataW.trod_struct ht h
  rw [hN] at hlen
  rw [hk] at hxl
  match xs, hxl with
  | [x0, x1], _ =>
  match cs, hlen with
  | [c0, c1], _ =>
  obtain ⟨y0, a0, _, b0, i0⟩ := r0 n [c0] x0.1 x0.2 (by have e := hf 0 _ g0.1; rw [g0.2.1, g0.2.2] at e; exact e)
  have b0 : 1 ≤ B.one x0.1 := b0
  obtain rfl : c0 = .int .i64 y0 := by have e : [c0] = [.int .i64 y0] := a0; simpa using e
  obtain ⟨y1, a1, _, b1, i1⟩ := r1 n [c1] x1.1 x1.2 (by have e := hf 1 _ g1.1; rw [g1.2.1, g1.2.2] at e; exact e)
  have b1 : bigs (fun _ => 1) y1 ≤ B.one x1.1 := b1
  obtain ⟨u1, e, a1⟩ := a1
  obtain rfl : c1 = u1 := by simpa using e
  refine ⟨⟨y0, y1⟩, ⟨_, rfl, a1⟩, rfl, ?_, ⟨i0, i1⟩⟩
  simp only [Prod.mk.injEq] at hx
  rw [hx.1, B.hagg]
  simp only [List.map_cons, List.map_nil, B.hcons, B.hnil, big_Write]
  omega

def big_Disk (x : Disk) : Nat := bigs (bigs (fun _ => 1)) x.Blocks + bigs big_Write x.Waits + 1
def ok_Disk (x : Disk) : Prop := (∀ y ∈ x.Blocks, (fun l => ∀ x ∈ l, (fun _ => True) x) y) ∧ (∀ y ∈ x.Waits, ok_Write y)
theorem reads_Disk {t : TypeId} {fs : Array Field} {f0 f1 : Field} (ht : P.underlying t = some (.struct fs)) (hN : P.cellsOf t = 2) (hk : fs.size = 2)
    (g0 : fs[0]? = some f0 ∧ f0.offset = 0 ∧ P.cellsOf f0.type = 1) (r0 : Reads enc P W B f0.type (RSl (RSl RU8 1) 1) 1 (bigs (bigs (fun _ => 1))) (fun l => ∀ x ∈ l, (fun l => ∀ x ∈ l, (fun _ => True) x) x))
    (g1 : fs[1]? = some f1 ∧ f1.offset = 1 ∧ P.cellsOf f1.type = 1) (r1 : Reads enc P W B f1.type (RSl R_Write 2) 1 (bigs big_Write) (fun l => ∀ x ∈ l, ok_Write x)) :
    Reads enc P W B t R_Disk 2 big_Disk ok_Disk := fun fuel cs d ps h => by
  obtain ⟨xs, n, _, hx, hlen, hxl, hf⟩ := DataW.trod_struct ht h
  rw [hN] at hlen
  rw [hk] at hxl
  match xs, hxl with
  | [x0, x1], _ =>
  match cs, hlen with
  | [c0, c1], _ =>
  obtain ⟨y0, a0, _, b0, i0⟩ := r0 n [c0] x0.1 x0.2 (by have e := hf 0 _ g0.1; rw [g0.2.1, g0.2.2] at e; exact e)
  have b0 : bigs (bigs (fun _ => 1)) y0 ≤ B.one x0.1 := b0
  obtain ⟨u0, e, a0⟩ := a0
  obtain rfl : c0 = u0 := by simpa using e
  obtain ⟨y1, a1, _, b1, i1⟩ := r1 n [c1] x1.1 x1.2 (by have e := hf 1 _ g1.1; rw [g1.2.1, g1.2.2] at e; exact e)
  have b1 : bigs big_Write y1 ≤ B.one x1.1 := b1
  obtain ⟨u1, e, a1⟩ := a1
  obtain rfl : c1 = u1 := by simpa using e
  refine ⟨⟨y0, y1⟩, ⟨_, _, rfl, a0, a1⟩, rfl, ?_, ⟨i0, i1⟩⟩
  simp only [Prod.mk.injEq] at hx
  rw [hx.1, B.hagg]
  simp only [List.map_cons, List.map_nil, B.hcons, B.hnil, big_Disk]
  omega

def big_Store (x : Store) : Nat := big_Disk x.Disk + bigs (fun _ => 1) x.Space + 1 + 1 + 1
def ok_Store (x : Store) : Prop := ok_Disk x.Disk ∧ (∀ y ∈ x.Space, (fun _ => True) y) ∧ True ∧ True
theorem reads_Store {t : TypeId} {fs : Array Field} {f0 f1 f2 f3 : Field} (ht : P.underlying t = some (.struct fs)) (hN : P.cellsOf t = 5) (hk : fs.size = 4)
    (g0 : fs[0]? = some f0 ∧ f0.offset = 0 ∧ P.cellsOf f0.type = 2) (r0 : Reads enc P W B f0.type R_Disk 2 big_Disk ok_Disk)
    (g1 : fs[1]? = some f1 ∧ f1.offset = 2 ∧ P.cellsOf f1.type = 1) (r1 : Reads enc P W B f1.type (RSl RU8 1) 1 (bigs (fun _ => 1)) (fun l => ∀ x ∈ l, (fun _ => True) x))
    (g2 : fs[2]? = some f2 ∧ f2.offset = 3 ∧ P.cellsOf f2.type = 1) (r2 : Reads enc P W B f2.type RU32 1 (fun _ => 1) (fun _ => True))
    (g3 : fs[3]? = some f3 ∧ f3.offset = 4 ∧ P.cellsOf f3.type = 1) (r3 : Reads enc P W B f3.type RU32 1 (fun _ => 1) (fun _ => True)) :
    Reads enc P W B t R_Store 5 big_Store ok_Store := fun fuel cs d ps h => by
  obtain ⟨xs, n, _, hx, hlen, hxl, hf⟩ := DataW.trod_struct ht h
  rw [hN] at hlen
  rw [hk] at hxl
  match xs, hxl with
  | [x0, x1, x2, x3], _ =>
  match cs, hlen with
  | [c0, c1, c2, c3, c4], _ =>
  obtain ⟨y0, a0, _, b0, i0⟩ := r0 n [c0, c1] x0.1 x0.2 (by have e := hf 0 _ g0.1; rw [g0.2.1, g0.2.2] at e; exact e)
  have b0 : big_Disk y0 ≤ B.one x0.1 := b0
  obtain ⟨w0_0, w0_1, e, h0_0, h0_1⟩ := a0
  simp only [List.cons.injEq, and_true] at e
  obtain ⟨rfl, rfl⟩ := e
  obtain ⟨y1, a1, _, b1, i1⟩ := r1 n [c2] x1.1 x1.2 (by have e := hf 1 _ g1.1; rw [g1.2.1, g1.2.2] at e; exact e)
  have b1 : bigs (fun _ => 1) y1 ≤ B.one x1.1 := b1
  obtain ⟨u1, e, a1⟩ := a1
  obtain rfl : c2 = u1 := by simpa using e
  obtain ⟨y2, a2, _, b2, i2⟩ := r2 n [c3] x2.1 x2.2 (by have e := hf 2 _ g2.1; rw [g2.2.1, g2.2.2] at e; exact e)
  have b2 : 1 ≤ B.one x2.1 := b2
  obtain rfl : c3 = .int .u32 (y2.toNat : Int) := by have e : [c3] = [.int .u32 (y2.toNat : Int)] := a2; simpa using e
  obtain ⟨y3, a3, _, b3, i3⟩ := r3 n [c4] x3.1 x3.2 (by have e := hf 3 _ g3.1; rw [g3.2.1, g3.2.2] at e; exact e)
  have b3 : 1 ≤ B.one x3.1 := b3
  obtain rfl : c4 = .int .u32 (y3.toNat : Int) := by have e : [c4] = [.int .u32 (y3.toNat : Int)] := a3; simpa using e
  refine ⟨⟨y0, y1, y2, y3⟩, ⟨_, _, _, rfl, h0_0, h0_1, a1⟩, rfl, ?_, ⟨i0, i1, i2, i3⟩⟩
  simp only [Prod.mk.injEq] at hx
  rw [hx.1, B.hagg]
  simp only [List.map_cons, List.map_nil, B.hcons, B.hnil, big_Store]
  omega

end
end Go.Ow
