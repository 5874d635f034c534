/-
  What is proved here: what a reading of the program's structures says. Printed by mkrt.py.
-/
import Derived.Test.YtdelcjkjkhcaoaaOwR
namespace Go.Ow
open Go.ChangeShapes Go.WideShapes Go.ChangeAt Go.RowKit
set_option linter.unusedVariables false
set_option linter.unusedSimpArgs false

section
variable {H : Type} {enc : TypeId × Value → H} {P : Program} {W : World} {B : Bulk H}

def big_Write (x : Write) : Nat := 1 + bigs (fun _ => 1) x.Data + 1
def ok_Write (x : Write) : Prop := InI64 x.At ∧ (∀ y ∈ x.Data, (fun _ => True) y)
theorem reads_Write {t : TypeId} {fs : Array Field} {f0 f1 : Field} (ht : P.underlying t = some (.struct fs)) (hN : P.cellsOf t = 2) (hk : fs.size = 2)
    (g0 : fs[0]? = some f0 ∧ f0.offset = 0 ∧ P.cellsOf f0.type = 1) (r0 : Reads enc P W B f0.type RInt 1 (fun _ => 1) InI64)
    (g1 : fs[1]? = some f1 ∧ f1.offset = 1 ∧ P.cellsOf f1.type = 1) (r1 : Reads enc P W B f1.type (RSl RU8 1) 1 (bigs (fun _ => 1)) (fun l => ∀ x ∈ l, (fun _ => True) x)) :
    Reads enc P W B t R_Write 2 big_Write ok_Write := fun fuel cs d ps h => by
  obtain ⟨xs, n, _, hx, hlen, hxl, hf⟩ := DataW.trod_struct ht h
  rw [hN] at hlen
  rw [hk] at hxl
  match xs, hxl with
  | [x0, x1], _ =>
  match cs, hlen with
  | [c0, c1], _ =>
  obtain ⟨y0, a0, _, b0, i0⟩ := r0 n [c0] x0.1 x0.2 (by have e := hf 0 _ g0.1; rw [g0.2.1, g0.2.2] at e; exact e)
  have b0 : 1 ≤ B.one x0.1 := b0
  obtain rfl : c0 = .int .i64 y0 := by have e : [c0] = [.int .i64 y0] := a0; simpa using e
  obtain ⟨y1, a1, _, b1, i1⟩ := r1 n [c1] x1.1 x1.2 (by have e := hf 1 _ g1.1; rw [g1.2.1, g1.2.2] at e; exact e)
  have b1 : bigs (fun _ => 1) y1 ≤ B.one x1.1 := b1
  obtain ⟨u1, e, a1⟩ := a1
  obtain rfl : c1 = u1 := by simpa using e
  refine ⟨⟨y0, y1⟩, ⟨_, rfl, a1⟩, rfl, ?_, ⟨i0, i1⟩⟩
  simp only [Prod.mk.injEq] at hx
  rw [hx.1, B.hagg]
  simp only [List.map_cons, List.map_nil, B.hcons, B.hnil, big_Write]
  omega

def big_Disk (x : Disk) : Nat := bigs (bigs (fun _ => 1)) x.Blocks + bigs big_Write x.Waits + 1
def ok_Disk (x : Disk) : Prop := (∀ y ∈ x.Blocks, (fun l => ∀ x ∈ l, (fun _ => True) x) y) ∧ (∀ y ∈ x.Waits, ok_Write y)
theorem reads_Disk {t : TypeId} {fs : Array Field} {f0 f1 : Field} (ht : P.underlying t = some (.struct fs)) (hN : P.cellsOf t = 2) (hk : fs.size = 2)
    (g0 : fs[0]? = some f0 ∧ f0.offset = 0 ∧ P.cellsOf f0.type = 1) (r0 : Reads enc P W B f0.type (RSl (RSl RU8 1) 1) 1 (bigs (bigs (fun _ => 1))) (fun l => ∀ x ∈ l, (fun l => ∀ x ∈ l, (fun _ => True) x) x))
    (g1 : fs[1]? = some f1 ∧ f1.offset = 1 ∧ P.cellsOf f1.type = 1) (r1 : Reads enc P W B f1.type (RSl R_Write 2) 1 (bigs big_Write) (fun l => ∀ x ∈ l, ok_Write x)) :
    Reads enc P W B t R_Disk 2 big_Disk ok_Disk := fun fuel cs d ps h => by
  obtain ⟨xs, n, _, hx, hlen, hxl, hf⟩ := DataW.trod_struct ht h
  rw [hN] at hlen
  rw [hk] at hxl
  match xs, hxl with
  | [x0, x1], _ =>
  match cs, hlen with
  | [c0, c1], _ =>
  obtain ⟨y0, a0, _, b0, i0⟩ := r0 n [c0] x0.1 x0.2 (by have e := hf 0 _ g0.1; rw [g0.2.1, g0.2.2] at e; exact e)
  have b0 : bigs (bigs (fun _ => 1)) y0 ≤ B.one x0.1 := b0
  obtain ⟨u0, e, a0⟩ := a0
  obtain rfl : c0 = u0 := by simpa using e
  obtain ⟨y1, a1, _, b1, i1⟩ := r1 n [c1] x1.1 x1.2 (by have e := hf 1 _ g1.1; rw [g1.2.1, g1.2.2] at e; exact e)
  have b1 : bigs big_Write y1 ≤ B.one x1.1 := b1
  obtain ⟨u1, e, a1⟩ := a1
  obtain rfl : c1 = u1 := by simpa using e
  refine ⟨⟨y0, y1⟩, ⟨_, _, rfl, a0, a1⟩, rfl, ?_, ⟨i0, i1⟩⟩
  simp only [Prod.mk.injEq] at hx
  rw [hx.1, B.hagg]
  simp only [List.map_cons, List.map_nil, B.hcons, B.hnil, big_Disk]
  omega

def big_Ptr (x : Ptr) : Nat := 1 + 1 + 1 + 1 + 1 + 1
def ok_Ptr (x : Ptr) : Prop := InI64 x.At ∧ True ∧ True ∧ True ∧ True
theorem reads_Ptr {t : TypeId} {fs : Array Field} {f0 f1 f2 f3 f4 : Field} (ht : P.underlying t = some (.struct fs)) (hN : P.cellsOf t = 5) (hk : fs.size = 5)
    (g0 : fs[0]? = some f0 ∧ f0.offset = 0 ∧ P.cellsOf f0.type = 1) (r0 : Reads enc P W B f0.type RInt 1 (fun _ => 1) InI64)
    (g1 : fs[1]? = some f1 ∧ f1.offset = 1 ∧ P.cellsOf f1.type = 1) (r1 : Reads enc P W B f1.type RU32 1 (fun _ => 1) (fun _ => True))
    (g2 : fs[2]? = some f2 ∧ f2.offset = 2 ∧ P.cellsOf f2.type = 1) (r2 : Reads enc P W B f2.type RU32 1 (fun _ => 1) (fun _ => True))
    (g3 : fs[3]? = some f3 ∧ f3.offset = 3 ∧ P.cellsOf f3.type = 1) (r3 : Reads enc P W B f3.type RU32 1 (fun _ => 1) (fun _ => True))
    (g4 : fs[4]? = some f4 ∧ f4.offset = 4 ∧ P.cellsOf f4.type = 1) (r4 : Reads enc P W B f4.type RU32 1 (fun _ => 1) (fun _ => True)) :
    Reads enc P W B t R_Ptr 5 big_Ptr ok_Ptr := fun fuel cs d ps h => by
  obtain ⟨xs, n, _, hx, hlen, hxl, hf⟩ := DataW.trod_struct ht h
  rw [hN] at hlen
  rw [hk] at hxl
  match xs, hxl with
  | [x0, x1, x2, x3, x4], _ =>
  match cs, hlen with
  | [c0, c1, c2, c3, c4], _ =>
  obtain ⟨y0, a0, _, b0, i0⟩ := r0 n [c0] x0.1 x0.2 (by have e := hf 0 _ g0.1; rw [g0.2.1, g0.2.2] at e; exact e)
  have b0 : 1 ≤ B.one x0.1 := b0
  obtain rfl : c0 = .int .i64 y0 := by have e : [c0] = [.int .i64 y0] := a0; simpa using e
  obtain ⟨y1, a1, _, b1, i1⟩ := r1 n [c1] x1.1 x1.2 (by have e := hf 1 _ g1.1; rw [g1.2.1, g1.2.2] at e; exact e)
  have b1 : 1 ≤ B.one x1.1 := b1
  obtain rfl : c1 = .int .u32 (y1.toNat : Int) := by have e : [c1] = [.int .u32 (y1.toNat : Int)] := a1; simpa using e
  obtain ⟨y2, a2, _, b2, i2⟩ := r2 n [c2] x2.1 x2.2 (by have e := hf 2 _ g2.1; rw [g2.2.1, g2.2.2] at e; exact e)
  have b2 : 1 ≤ B.one x2.1 := b2
  obtain rfl : c2 = .int .u32 (y2.toNat : Int) := by have e : [c2] = [.int .u32 (y2.toNat : Int)] := a2; simpa using e
  obtain ⟨y3, a3, _, b3, i3⟩ := r3 n [c3] x3.1 x3.2 (by have e := hf 3 _ g3.1; rw [g3.2.1, g3.2.2] at e; exact e)
  have b3 : 1 ≤ B.one x3.1 := b3
  obtain rfl : c3 = .int .u32 (y3.toNat : Int) := by have e : [c3] = [.int .u32 (y3.toNat : Int)] := a3; simpa using e
  obtain ⟨y4, a4, _, b4, i4⟩ := r4 n [c4] x4.1 x4.2 (by have e := hf 4 _ g4.1; rw [g4.2.1, g4.2.2] at e; exact e)
  have b4 : 1 ≤ B.one x4.1 := b4
  obtain rfl : c4 = .int .u32 (y4.toNat : Int) := by have e : [c4] = [.int .u32 (y4.toNat : Int)] := a4; simpa using e
  refine ⟨⟨y0, y1, y2, y3, y4⟩, rfl, rfl, ?_, ⟨i0, i1, i2, i3, i4⟩⟩
  simp only [Prod.mk.injEq] at hx
  rw [hx.1, B.hagg]
  simp only [List.map_cons, List.map_nil, B.hcons, B.hnil, big_Ptr]
  omega

def big_Label (x : Label) : Nat := 1 + 1 + big_Ptr x.Root + 1
def ok_Label (x : Label) : Prop := True ∧ True ∧ ok_Ptr x.Root
theorem reads_Label {t : TypeId} {fs : Array Field} {f0 f1 f2 : Field} (ht : P.underlying t = some (.struct fs)) (hN : P.cellsOf t = 7) (hk : fs.size = 3)
    (g0 : fs[0]? = some f0 ∧ f0.offset = 0 ∧ P.cellsOf f0.type = 1) (r0 : Reads enc P W B f0.type RU32 1 (fun _ => 1) (fun _ => True))
    (g1 : fs[1]? = some f1 ∧ f1.offset = 1 ∧ P.cellsOf f1.type = 1) (r1 : Reads enc P W B f1.type RU32 1 (fun _ => 1) (fun _ => True))
    (g2 : fs[2]? = some f2 ∧ f2.offset = 2 ∧ P.cellsOf f2.type = 5) (r2 : Reads enc P W B f2.type R_Ptr 5 big_Ptr ok_Ptr) :
    Reads enc P W B t R_Label 7 big_Label ok_Label := fun fuel cs d ps h => by
  obtain ⟨xs, n, _, hx, hlen, hxl, hf⟩ := DataW.trod_struct ht h
  rw [hN] at hlen
  rw [hk] at hxl
  match xs, hxl with
  | [x0, x1, x2], _ =>
  match cs, hlen with
  | [c0, c1, c2, c3, c4, c5, c6], _ =>
  obtain ⟨y0, a0, _, b0, i0⟩ := r0 n [c0] x0.1 x0.2 (by have e := hf 0 _ g0.1; rw [g0.2.1, g0.2.2] at e; exact e)
  have b0 : 1 ≤ B.one x0.1 := b0
  obtain rfl : c0 = .int .u32 (y0.toNat : Int) := by have e : [c0] = [.int .u32 (y0.toNat : Int)] := a0; simpa using e
  obtain ⟨y1, a1, _, b1, i1⟩ := r1 n [c1] x1.1 x1.2 (by have e := hf 1 _ g1.1; rw [g1.2.1, g1.2.2] at e; exact e)
  have b1 : 1 ≤ B.one x1.1 := b1
  obtain rfl : c1 = .int .u32 (y1.toNat : Int) := by have e : [c1] = [.int .u32 (y1.toNat : Int)] := a1; simpa using e
  obtain ⟨y2, a2, _, b2, i2⟩ := r2 n [c2, c3, c4, c5, c6] x2.1 x2.2 (by have e := hf 2 _ g2.1; rw [g2.2.1, g2.2.2] at e; exact e)
  have b2 : big_Ptr y2 ≤ B.one x2.1 := b2
  have e := a2
  unfold R_Ptr at e
  simp only [List.cons.injEq, and_true] at e
  obtain ⟨rfl, rfl, rfl, rfl, rfl⟩ := e
  refine ⟨⟨y0, y1, y2⟩, rfl, rfl, ?_, ⟨i0, i1, i2⟩⟩
  simp only [Prod.mk.injEq] at hx
  rw [hx.1, B.hagg]
  simp only [List.map_cons, List.map_nil, B.hcons, B.hnil, big_Label]
  omega

def big_Object (x : Object) : Nat := 1 + 1 + 1 + bigs big_Ptr x.Data + 1
def ok_Object (x : Object) : Prop := True ∧ InI64 x.Links ∧ InI64 x.Size ∧ (∀ y ∈ x.Data, ok_Ptr y)
theorem reads_Object {t : TypeId} {fs : Array Field} {f0 f1 f2 f3 : Field} (ht : P.underlying t = some (.struct fs)) (hN : P.cellsOf t = 4) (hk : fs.size = 4)
    (g0 : fs[0]? = some f0 ∧ f0.offset = 0 ∧ P.cellsOf f0.type = 1) (r0 : Reads enc P W B f0.type RU8 1 (fun _ => 1) (fun _ => True))
    (g1 : fs[1]? = some f1 ∧ f1.offset = 1 ∧ P.cellsOf f1.type = 1) (r1 : Reads enc P W B f1.type RInt 1 (fun _ => 1) InI64)
    (g2 : fs[2]? = some f2 ∧ f2.offset = 2 ∧ P.cellsOf f2.type = 1) (r2 : Reads enc P W B f2.type RInt 1 (fun _ => 1) InI64)
    (g3 : fs[3]? = some f3 ∧ f3.offset = 3 ∧ P.cellsOf f3.type = 1) (r3 : Reads enc P W B f3.type (RSl R_Ptr 5) 1 (bigs big_Ptr) (fun l => ∀ x ∈ l, ok_Ptr x)) :
    Reads enc P W B t R_Object 4 big_Object ok_Object := fun fuel cs d ps h => by
  obtain ⟨xs, n, _, hx, hlen, hxl, hf⟩ := DataW.trod_struct ht h
  rw [hN] at hlen
  rw [hk] at hxl
  match xs, hxl with
  | [x0, x1, x2, x3], _ =>
  match cs, hlen with
  | [c0, c1, c2, c3], _ =>
  obtain ⟨y0, a0, _, b0, i0⟩ := r0 n [c0] x0.1 x0.2 (by have e := hf 0 _ g0.1; rw [g0.2.1, g0.2.2] at e; exact e)
  have b0 : 1 ≤ B.one x0.1 := b0
  obtain rfl : c0 = .int .u8 (y0.toNat : Int) := by have e : [c0] = [.int .u8 (y0.toNat : Int)] := a0; simpa using e
  obtain ⟨y1, a1, _, b1, i1⟩ := r1 n [c1] x1.1 x1.2 (by have e := hf 1 _ g1.1; rw [g1.2.1, g1.2.2] at e; exact e)
  have b1 : 1 ≤ B.one x1.1 := b1
  obtain rfl : c1 = .int .i64 y1 := by have e : [c1] = [.int .i64 y1] := a1; simpa using e
  obtain ⟨y2, a2, _, b2, i2⟩ := r2 n [c2] x2.1 x2.2 (by have e := hf 2 _ g2.1; rw [g2.2.1, g2.2.2] at e; exact e)
  have b2 : 1 ≤ B.one x2.1 := b2
  obtain rfl : c2 = .int .i64 y2 := by have e : [c2] = [.int .i64 y2] := a2; simpa using e
  obtain ⟨y3, a3, _, b3, i3⟩ := r3 n [c3] x3.1 x3.2 (by have e := hf 3 _ g3.1; rw [g3.2.1, g3.2.2] at e; exact e)
  have b3 : bigs big_Ptr y3 ≤ B.one x3.1 := b3
  obtain ⟨u3, e, a3⟩ := a3
  obtain rfl : c3 = u3 := by simpa using e
  refine ⟨⟨y0, y1, y2, y3⟩, ⟨_, rfl, a3⟩, rfl, ?_, ⟨i0, i1, i2, i3⟩⟩
  simp only [Prod.mk.injEq] at hx
  rw [hx.1, B.hagg]
  simp only [List.map_cons, List.map_nil, B.hcons, B.hnil, big_Object]
  omega

def big_Line (x : Line) : Nat := 1 + 1 + 1 + 1 + 1 + 1 + 1 + big_Ptr x.Root + bigs big_Ptr x.Dead + 1
def ok_Line (x : Line) : Prop := InI64 x.Id ∧ True ∧ InI64 x.Owner ∧ InI64 x.Prev ∧ True ∧ True ∧ InI64 x.Key ∧ ok_Ptr x.Root ∧ (∀ y ∈ x.Dead, ok_Ptr y)
theorem reads_Line {t : TypeId} {fs : Array Field} {f0 f1 f2 f3 f4 f5 f6 f7 f8 : Field} (ht : P.underlying t = some (.struct fs)) (hN : P.cellsOf t = 13) (hk : fs.size = 9)
    (g0 : fs[0]? = some f0 ∧ f0.offset = 0 ∧ P.cellsOf f0.type = 1) (r0 : Reads enc P W B f0.type RInt 1 (fun _ => 1) InI64)
    (g1 : fs[1]? = some f1 ∧ f1.offset = 1 ∧ P.cellsOf f1.type = 1) (r1 : Reads enc P W B f1.type RU8 1 (fun _ => 1) (fun _ => True))
    (g2 : fs[2]? = some f2 ∧ f2.offset = 2 ∧ P.cellsOf f2.type = 1) (r2 : Reads enc P W B f2.type RInt 1 (fun _ => 1) InI64)
    (g3 : fs[3]? = some f3 ∧ f3.offset = 3 ∧ P.cellsOf f3.type = 1) (r3 : Reads enc P W B f3.type RInt 1 (fun _ => 1) InI64)
    (g4 : fs[4]? = some f4 ∧ f4.offset = 4 ∧ P.cellsOf f4.type = 1) (r4 : Reads enc P W B f4.type RU32 1 (fun _ => 1) (fun _ => True))
    (g5 : fs[5]? = some f5 ∧ f5.offset = 5 ∧ P.cellsOf f5.type = 1) (r5 : Reads enc P W B f5.type RU32 1 (fun _ => 1) (fun _ => True))
    (g6 : fs[6]? = some f6 ∧ f6.offset = 6 ∧ P.cellsOf f6.type = 1) (r6 : Reads enc P W B f6.type RInt 1 (fun _ => 1) InI64)
    (g7 : fs[7]? = some f7 ∧ f7.offset = 7 ∧ P.cellsOf f7.type = 5) (r7 : Reads enc P W B f7.type R_Ptr 5 big_Ptr ok_Ptr)
    (g8 : fs[8]? = some f8 ∧ f8.offset = 12 ∧ P.cellsOf f8.type = 1) (r8 : Reads enc P W B f8.type (RSl R_Ptr 5) 1 (bigs big_Ptr) (fun l => ∀ x ∈ l, ok_Ptr x)) :
    Reads enc P W B t R_Line 13 big_Line ok_Line := fun fuel cs d ps h => by
  obtain ⟨xs, n, _, hx, hlen, hxl, hf⟩ := DataW.trod_struct ht h
  rw [hN] at hlen
  rw [hk] at hxl
  match xs, hxl with
  | [x0, x1, x2, x3, x4, x5, x6, x7, x8], _ =>
  match cs, hlen with
  | [c0, c1, c2, c3, c4, c5, c6, c7, c8, c9, c10, c11, c12], _ =>
  obtain ⟨y0, a0, _, b0, i0⟩ := r0 n [c0] x0.1 x0.2 (by have e := hf 0 _ g0.1; rw [g0.2.1, g0.2.2] at e; exact e)
  have b0 : 1 ≤ B.one x0.1 := b0
  obtain rfl : c0 = .int .i64 y0 := by have e : [c0] = [.int .i64 y0] := a0; simpa using e
  obtain ⟨y1, a1, _, b1, i1⟩ := r1 n [c1] x1.1 x1.2 (by have e := hf 1 _ g1.1; rw [g1.2.1, g1.2.2] at e; exact e)
  have b1 : 1 ≤ B.one x1.1 := b1
  obtain rfl : c1 = .int .u8 (y1.toNat : Int) := by have e : [c1] = [.int .u8 (y1.toNat : Int)] := a1; simpa using e
  obtain ⟨y2, a2, _, b2, i2⟩ := r2 n [c2] x2.1 x2.2 (by have e := hf 2 _ g2.1; rw [g2.2.1, g2.2.2] at e; exact e)
  have b2 : 1 ≤ B.one x2.1 := b2
  obtain rfl : c2 = .int .i64 y2 := by have e : [c2] = [.int .i64 y2] := a2; simpa using e
  obtain ⟨y3, a3, _, b3, i3⟩ := r3 n [c3] x3.1 x3.2 (by have e := hf 3 _ g3.1; rw [g3.2.1, g3.2.2] at e; exact e)
  have b3 : 1 ≤ B.one x3.1 := b3
  obtain rfl : c3 = .int .i64 y3 := by have e : [c3] = [.int .i64 y3] := a3; simpa using e
  obtain ⟨y4, a4, _, b4, i4⟩ := r4 n [c4] x4.1 x4.2 (by have e := hf 4 _ g4.1; rw [g4.2.1, g4.2.2] at e; exact e)
  have b4 : 1 ≤ B.one x4.1 := b4
  obtain rfl : c4 = .int .u32 (y4.toNat : Int) := by have e : [c4] = [.int .u32 (y4.toNat : Int)] := a4; simpa using e
  obtain ⟨y5, a5, _, b5, i5⟩ := r5 n [c5] x5.1 x5.2 (by have e := hf 5 _ g5.1; rw [g5.2.1, g5.2.2] at e; exact e)
  have b5 : 1 ≤ B.one x5.1 := b5
  obtain rfl : c5 = .int .u32 (y5.toNat : Int) := by have e : [c5] = [.int .u32 (y5.toNat : Int)] := a5; simpa using e
  obtain ⟨y6, a6, _, b6, i6⟩ := r6 n [c6] x6.1 x6.2 (by have e := hf 6 _ g6.1; rw [g6.2.1, g6.2.2] at e; exact e)
  have b6 : 1 ≤ B.one x6.1 := b6
  obtain rfl : c6 = .int .i64 y6 := by have e : [c6] = [.int .i64 y6] := a6; simpa using e
  obtain ⟨y7, a7, _, b7, i7⟩ := r7 n [c7, c8, c9, c10, c11] x7.1 x7.2 (by have e := hf 7 _ g7.1; rw [g7.2.1, g7.2.2] at e; exact e)
  have b7 : big_Ptr y7 ≤ B.one x7.1 := b7
  have e := a7
  unfold R_Ptr at e
  simp only [List.cons.injEq, and_true] at e
  obtain ⟨rfl, rfl, rfl, rfl, rfl⟩ := e
  obtain ⟨y8, a8, _, b8, i8⟩ := r8 n [c12] x8.1 x8.2 (by have e := hf 8 _ g8.1; rw [g8.2.1, g8.2.2] at e; exact e)
  have b8 : bigs big_Ptr y8 ≤ B.one x8.1 := b8
  obtain ⟨u8, e, a8⟩ := a8
  obtain rfl : c12 = u8 := by simpa using e
  refine ⟨⟨y0, y1, y2, y3, y4, y5, y6, y7, y8⟩, ⟨_, rfl, a8⟩, rfl, ?_, ⟨i0, i1, i2, i3, i4, i5, i6, i7, i8⟩⟩
  simp only [Prod.mk.injEq] at hx
  rw [hx.1, B.hagg]
  simp only [List.map_cons, List.map_nil, B.hcons, B.hnil, big_Line]
  omega

def big_Store (x : Store) : Nat := big_Disk x.Disk + bigs (fun _ => 1) x.Space + 1 + 1 + 1
def ok_Store (x : Store) : Prop := ok_Disk x.Disk ∧ (∀ y ∈ x.Space, (fun _ => True) y) ∧ True ∧ True
theorem reads_Store {t : TypeId} {fs : Array Field} {f0 f1 f2 f3 : Field} (ht : P.underlying t = some (.struct fs)) (hN : P.cellsOf t = 5) (hk : fs.size = 4)
    (g0 : fs[0]? = some f0 ∧ f0.offset = 0 ∧ P.cellsOf f0.type = 2) (r0 : Reads enc P W B f0.type R_Disk 2 big_Disk ok_Disk)
    (g1 : fs[1]? = some f1 ∧ f1.offset = 2 ∧ P.cellsOf f1.type = 1) (r1 : Reads enc P W B f1.type (RSl RU8 1) 1 (bigs (fun _ => 1)) (fun l => ∀ x ∈ l, (fun _ => True) x))
    (g2 : fs[2]? = some f2 ∧ f2.offset = 3 ∧ P.cellsOf f2.type = 1) (r2 : Reads enc P W B f2.type RU32 1 (fun _ => 1) (fun _ => True))
    (g3 : fs[3]? = some f3 ∧ f3.offset = 4 ∧ P.cellsOf f3.type = 1) (r3 : Reads enc P W B f3.type RU32 1 (fun _ => 1) (fun _ => True)) :
    Reads enc P W B t R_Store 5 big_Store ok_Store := fun fuel cs d ps h => by
  obtain ⟨xs, n, _, hx, hlen, hxl, hf⟩ := DataW.trod_struct ht h
  rw [hN] at hlen
  rw [hk] at hxl
  match xs, hxl with
  | [x0, x1, x2, x3], _ =>
  match cs, hlen with
  | [c0, c1, c2, c3, c4], _ =>
  obtain ⟨y0, a0, _, b0, i0⟩ := r0 n [c0, c1] x0.1 x0.2 (by have e := hf 0 _ g0.1; rw [g0.2.1, g0.2.2] at e; exact e)
  have b0 : big_Disk y0 ≤ B.one x0.1 := b0
  obtain ⟨w0_0, w0_1, e, h0_0, h0_1⟩ := a0
  simp only [List.cons.injEq, and_true] at e
  obtain ⟨rfl, rfl⟩ := e
  obtain ⟨y1, a1, _, b1, i1⟩ := r1 n [c2] x1.1 x1.2 (by have e := hf 1 _ g1.1; rw [g1.2.1, g1.2.2] at e; exact e)
  have b1 : bigs (fun _ => 1) y1 ≤ B.one x1.1 := b1
  obtain ⟨u1, e, a1⟩ := a1
  obtain rfl : c2 = u1 := by simpa using e
  obtain ⟨y2, a2, _, b2, i2⟩ := r2 n [c3] x2.1 x2.2 (by have e := hf 2 _ g2.1; rw [g2.2.1, g2.2.2] at e; exact e)
  have b2 : 1 ≤ B.one x2.1 := b2
  obtain rfl : c3 = .int .u32 (y2.toNat : Int) := by have e : [c3] = [.int .u32 (y2.toNat : Int)] := a2; simpa using e
  obtain ⟨y3, a3, _, b3, i3⟩ := r3 n [c4] x3.1 x3.2 (by have e := hf 3 _ g3.1; rw [g3.2.1, g3.2.2] at e; exact e)
  have b3 : 1 ≤ B.one x3.1 := b3
  obtain rfl : c4 = .int .u32 (y3.toNat : Int) := by have e : [c4] = [.int .u32 (y3.toNat : Int)] := a3; simpa using e
  refine ⟨⟨y0, y1, y2, y3⟩, ⟨_, _, _, rfl, h0_0, h0_1, a1⟩, rfl, ?_, ⟨i0, i1, i2, i3⟩⟩
  simp only [Prod.mk.injEq] at hx
  rw [hx.1, B.hagg]
  simp only [List.map_cons, List.map_nil, B.hcons, B.hnil, big_Store]
  omega

def big_Change (x : Change) : Nat := 1 + 1 + 1 + 1 + 1 + 1 + bigs (fun _ => 1) x.Data + big_Ptr x.Laid + 1
def ok_Change (x : Change) : Prop := InI64 x.Set ∧ InI64 x.Obj ∧ InI64 x.Index ∧ True ∧ InI64 x.Links ∧ InI64 x.Size ∧ (∀ y ∈ x.Data, (fun _ => True) y) ∧ ok_Ptr x.Laid
theorem reads_Change {t : TypeId} {fs : Array Field} {f0 f1 f2 f3 f4 f5 f6 f7 : Field} (ht : P.underlying t = some (.struct fs)) (hN : P.cellsOf t = 12) (hk : fs.size = 8)
    (g0 : fs[0]? = some f0 ∧ f0.offset = 0 ∧ P.cellsOf f0.type = 1) (r0 : Reads enc P W B f0.type RInt 1 (fun _ => 1) InI64)
    (g1 : fs[1]? = some f1 ∧ f1.offset = 1 ∧ P.cellsOf f1.type = 1) (r1 : Reads enc P W B f1.type RInt 1 (fun _ => 1) InI64)
    (g2 : fs[2]? = some f2 ∧ f2.offset = 2 ∧ P.cellsOf f2.type = 1) (r2 : Reads enc P W B f2.type RInt 1 (fun _ => 1) InI64)
    (g3 : fs[3]? = some f3 ∧ f3.offset = 3 ∧ P.cellsOf f3.type = 1) (r3 : Reads enc P W B f3.type RU8 1 (fun _ => 1) (fun _ => True))
    (g4 : fs[4]? = some f4 ∧ f4.offset = 4 ∧ P.cellsOf f4.type = 1) (r4 : Reads enc P W B f4.type RInt 1 (fun _ => 1) InI64)
    (g5 : fs[5]? = some f5 ∧ f5.offset = 5 ∧ P.cellsOf f5.type = 1) (r5 : Reads enc P W B f5.type RInt 1 (fun _ => 1) InI64)
    (g6 : fs[6]? = some f6 ∧ f6.offset = 6 ∧ P.cellsOf f6.type = 1) (r6 : Reads enc P W B f6.type (RSl RU8 1) 1 (bigs (fun _ => 1)) (fun l => ∀ x ∈ l, (fun _ => True) x))
    (g7 : fs[7]? = some f7 ∧ f7.offset = 7 ∧ P.cellsOf f7.type = 5) (r7 : Reads enc P W B f7.type R_Ptr 5 big_Ptr ok_Ptr) :
    Reads enc P W B t R_Change 12 big_Change ok_Change := fun fuel cs d ps h => by
  obtain ⟨xs, n, _, hx, hlen, hxl, hf⟩ := DataW.trod_struct ht h
  rw [hN] at hlen
  rw [hk] at hxl
  match xs, hxl with
  | [x0, x1, x2, x3, x4, x5, x6, x7], _ =>
  match cs, hlen with
  | [c0, c1, c2, c3, c4, c5, c6, c7, c8, c9, c10, c11], _ =>
  obtain ⟨y0, a0, _, b0, i0⟩ := r0 n [c0] x0.1 x0.2 (by have e := hf 0 _ g0.1; rw [g0.2.1, g0.2.2] at e; exact e)
  have b0 : 1 ≤ B.one x0.1 := b0
  obtain rfl : c0 = .int .i64 y0 := by have e : [c0] = [.int .i64 y0] := a0; simpa using e
  obtain ⟨y1, a1, _, b1, i1⟩ := r1 n [c1] x1.1 x1.2 (by have e := hf 1 _ g1.1; rw [g1.2.1, g1.2.2] at e; exact e)
  have b1 : 1 ≤ B.one x1.1 := b1
  obtain rfl : c1 = .int .i64 y1 := by have e : [c1] = [.int .i64 y1] := a1; simpa using e
  obtain ⟨y2, a2, _, b2, i2⟩ := r2 n [c2] x2.1 x2.2 (by have e := hf 2 _ g2.1; rw [g2.2.1, g2.2.2] at e; exact e)
  have b2 : 1 ≤ B.one x2.1 := b2
  obtain rfl : c2 = .int .i64 y2 := by have e : [c2] = [.int .i64 y2] := a2; simpa using e
  obtain ⟨y3, a3, _, b3, i3⟩ := r3 n [c3] x3.1 x3.2 (by have e := hf 3 _ g3.1; rw [g3.2.1, g3.2.2] at e; exact e)
  have b3 : 1 ≤ B.one x3.1 := b3
  obtain rfl : c3 = .int .u8 (y3.toNat : Int) := by have e : [c3] = [.int .u8 (y3.toNat : Int)] := a3; simpa using e
  obtain ⟨y4, a4, _, b4, i4⟩ := r4 n [c4] x4.1 x4.2 (by have e := hf 4 _ g4.1; rw [g4.2.1, g4.2.2] at e; exact e)
  have b4 : 1 ≤ B.one x4.1 := b4
  obtain rfl : c4 = .int .i64 y4 := by have e : [c4] = [.int .i64 y4] := a4; simpa using e
  obtain ⟨y5, a5, _, b5, i5⟩ := r5 n [c5] x5.1 x5.2 (by have e := hf 5 _ g5.1; rw [g5.2.1, g5.2.2] at e; exact e)
  have b5 : 1 ≤ B.one x5.1 := b5
  obtain rfl : c5 = .int .i64 y5 := by have e : [c5] = [.int .i64 y5] := a5; simpa using e
  obtain ⟨y6, a6, _, b6, i6⟩ := r6 n [c6] x6.1 x6.2 (by have e := hf 6 _ g6.1; rw [g6.2.1, g6.2.2] at e; exact e)
  have b6 : bigs (fun _ => 1) y6 ≤ B.one x6.1 := b6
  obtain ⟨u6, e, a6⟩ := a6
  obtain rfl : c6 = u6 := by simpa using e
  obtain ⟨y7, a7, _, b7, i7⟩ := r7 n [c7, c8, c9, c10, c11] x7.1 x7.2 (by have e := hf 7 _ g7.1; rw [g7.2.1, g7.2.2] at e; exact e)
  have b7 : big_Ptr y7 ≤ B.one x7.1 := b7
  have e := a7
  unfold R_Ptr at e
  simp only [List.cons.injEq, and_true] at e
  obtain ⟨rfl, rfl, rfl, rfl, rfl⟩ := e
  refine ⟨⟨y0, y1, y2, y3, y4, y5, y6, y7⟩, ⟨_, rfl, a6⟩, rfl, ?_, ⟨i0, i1, i2, i3, i4, i5, i6, i7⟩⟩
  simp only [Prod.mk.injEq] at hx
  rw [hx.1, B.hagg]
  simp only [List.map_cons, List.map_nil, B.hcons, B.hnil, big_Change]
  omega

def big_Pool (x : Pool) : Nat := big_Store x.Store + 1 + big_Ptr x.Root + bigs (fun _ => 1) x.MetaL + bigs big_Line x.Lines + bigs (bigs (fun _ => 1)) x.Keys + bigs (bigs (fun _ => 1)) x.Loaded + bigs big_Change x.Changes + 1 + 1 + 1 + 1
def ok_Pool (x : Pool) : Prop := ok_Store x.Store ∧ True ∧ ok_Ptr x.Root ∧ (∀ y ∈ x.MetaL, InI64 y) ∧ (∀ y ∈ x.Lines, ok_Line y) ∧ (∀ y ∈ x.Keys, (fun l => ∀ x ∈ l, (fun _ => True) x) y) ∧ (∀ y ∈ x.Loaded, (fun l => ∀ x ∈ l, (fun _ => True) x) y) ∧ (∀ y ∈ x.Changes, ok_Change y) ∧ InI64 x.Logged ∧ InI64 x.NextId ∧ True
theorem reads_Pool {t : TypeId} {fs : Array Field} {f0 f1 f2 f3 f4 f5 f6 f7 f8 f9 f10 : Field} (ht : P.underlying t = some (.struct fs)) (hN : P.cellsOf t = 19) (hk : fs.size = 11)
    (g0 : fs[0]? = some f0 ∧ f0.offset = 0 ∧ P.cellsOf f0.type = 5) (r0 : Reads enc P W B f0.type R_Store 5 big_Store ok_Store)
    (g1 : fs[1]? = some f1 ∧ f1.offset = 5 ∧ P.cellsOf f1.type = 1) (r1 : Reads enc P W B f1.type RU32 1 (fun _ => 1) (fun _ => True))
    (g2 : fs[2]? = some f2 ∧ f2.offset = 6 ∧ P.cellsOf f2.type = 5) (r2 : Reads enc P W B f2.type R_Ptr 5 big_Ptr ok_Ptr)
    (g3 : fs[3]? = some f3 ∧ f3.offset = 11 ∧ P.cellsOf f3.type = 1) (r3 : Reads enc P W B f3.type (RSl RInt 1) 1 (bigs (fun _ => 1)) (fun l => ∀ x ∈ l, InI64 x))
    (g4 : fs[4]? = some f4 ∧ f4.offset = 12 ∧ P.cellsOf f4.type = 1) (r4 : Reads enc P W B f4.type (RSl R_Line 13) 1 (bigs big_Line) (fun l => ∀ x ∈ l, ok_Line x))
    (g5 : fs[5]? = some f5 ∧ f5.offset = 13 ∧ P.cellsOf f5.type = 1) (r5 : Reads enc P W B f5.type (RSl (RSl RU8 1) 1) 1 (bigs (bigs (fun _ => 1))) (fun l => ∀ x ∈ l, (fun l => ∀ x ∈ l, (fun _ => True) x) x))
    (g6 : fs[6]? = some f6 ∧ f6.offset = 14 ∧ P.cellsOf f6.type = 1) (r6 : Reads enc P W B f6.type (RSl (RSl RU8 1) 1) 1 (bigs (bigs (fun _ => 1))) (fun l => ∀ x ∈ l, (fun l => ∀ x ∈ l, (fun _ => True) x) x))
    (g7 : fs[7]? = some f7 ∧ f7.offset = 15 ∧ P.cellsOf f7.type = 1) (r7 : Reads enc P W B f7.type (RSl R_Change 12) 1 (bigs big_Change) (fun l => ∀ x ∈ l, ok_Change x))
    (g8 : fs[8]? = some f8 ∧ f8.offset = 16 ∧ P.cellsOf f8.type = 1) (r8 : Reads enc P W B f8.type RInt 1 (fun _ => 1) InI64)
    (g9 : fs[9]? = some f9 ∧ f9.offset = 17 ∧ P.cellsOf f9.type = 1) (r9 : Reads enc P W B f9.type RInt 1 (fun _ => 1) InI64)
    (g10 : fs[10]? = some f10 ∧ f10.offset = 18 ∧ P.cellsOf f10.type = 1) (r10 : Reads enc P W B f10.type RU32 1 (fun _ => 1) (fun _ => True)) :
    Reads enc P W B t R_Pool 19 big_Pool ok_Pool := fun fuel cs d ps h => by
  obtain ⟨xs, n, _, hx, hlen, hxl, hf⟩ := DataW.trod_struct ht h
  rw [hN] at hlen
  rw [hk] at hxl
  match xs, hxl with
  | [x0, x1, x2, x3, x4, x5, x6, x7, x8, x9, x10], _ =>
  match cs, hlen with
  | [c0, c1, c2, c3, c4, c5, c6, c7, c8, c9, c10, c11, c12, c13, c14, c15, c16, c17, c18], _ =>
  obtain ⟨y0, a0, _, b0, i0⟩ := r0 n [c0, c1, c2, c3, c4] x0.1 x0.2 (by have e := hf 0 _ g0.1; rw [g0.2.1, g0.2.2] at e; exact e)
  have b0 : big_Store y0 ≤ B.one x0.1 := b0
  obtain ⟨w0_0, w0_1, w0_2, e, h0_0, h0_1, h0_2⟩ := a0
  simp only [List.cons.injEq, and_true] at e
  obtain ⟨rfl, rfl, rfl, rfl, rfl⟩ := e
  obtain ⟨y1, a1, _, b1, i1⟩ := r1 n [c5] x1.1 x1.2 (by have e := hf 1 _ g1.1; rw [g1.2.1, g1.2.2] at e; exact e)
  have b1 : 1 ≤ B.one x1.1 := b1
  obtain rfl : c5 = .int .u32 (y1.toNat : Int) := by have e : [c5] = [.int .u32 (y1.toNat : Int)] := a1; simpa using e
  obtain ⟨y2, a2, _, b2, i2⟩ := r2 n [c6, c7, c8, c9, c10] x2.1 x2.2 (by have e := hf 2 _ g2.1; rw [g2.2.1, g2.2.2] at e; exact e)
  have b2 : big_Ptr y2 ≤ B.one x2.1 := b2
  have e := a2
  unfold R_Ptr at e
  simp only [List.cons.injEq, and_true] at e
  obtain ⟨rfl, rfl, rfl, rfl, rfl⟩ := e
  obtain ⟨y3, a3, _, b3, i3⟩ := r3 n [c11] x3.1 x3.2 (by have e := hf 3 _ g3.1; rw [g3.2.1, g3.2.2] at e; exact e)
  have b3 : bigs (fun _ => 1) y3 ≤ B.one x3.1 := b3
  obtain ⟨u3, e, a3⟩ := a3
  obtain rfl : c11 = u3 := by simpa using e
  obtain ⟨y4, a4, _, b4, i4⟩ := r4 n [c12] x4.1 x4.2 (by have e := hf 4 _ g4.1; rw [g4.2.1, g4.2.2] at e; exact e)
  have b4 : bigs big_Line y4 ≤ B.one x4.1 := b4
  obtain ⟨u4, e, a4⟩ := a4
  obtain rfl : c12 = u4 := by simpa using e
  obtain ⟨y5, a5, _, b5, i5⟩ := r5 n [c13] x5.1 x5.2 (by have e := hf 5 _ g5.1; rw [g5.2.1, g5.2.2] at e; exact e)
  have b5 : bigs (bigs (fun _ => 1)) y5 ≤ B.one x5.1 := b5
  obtain ⟨u5, e, a5⟩ := a5
  obtain rfl : c13 = u5 := by simpa using e
  obtain ⟨y6, a6, _, b6, i6⟩ := r6 n [c14] x6.1 x6.2 (by have e := hf 6 _ g6.1; rw [g6.2.1, g6.2.2] at e; exact e)
  have b6 : bigs (bigs (fun _ => 1)) y6 ≤ B.one x6.1 := b6
  obtain ⟨u6, e, a6⟩ := a6
  obtain rfl : c14 = u6 := by simpa using e
  obtain ⟨y7, a7, _, b7, i7⟩ := r7 n [c15] x7.1 x7.2 (by have e := hf 7 _ g7.1; rw [g7.2.1, g7.2.2] at e; exact e)
  have b7 : bigs big_Change y7 ≤ B.one x7.1 := b7
  obtain ⟨u7, e, a7⟩ := a7
  obtain rfl : c15 = u7 := by simpa using e
  obtain ⟨y8, a8, _, b8, i8⟩ := r8 n [c16] x8.1 x8.2 (by have e := hf 8 _ g8.1; rw [g8.2.1, g8.2.2] at e; exact e)
  have b8 : 1 ≤ B.one x8.1 := b8
  obtain rfl : c16 = .int .i64 y8 := by have e : [c16] = [.int .i64 y8] := a8; simpa using e
  obtain ⟨y9, a9, _, b9, i9⟩ := r9 n [c17] x9.1 x9.2 (by have e := hf 9 _ g9.1; rw [g9.2.1, g9.2.2] at e; exact e)
  have b9 : 1 ≤ B.one x9.1 := b9
  obtain rfl : c17 = .int .i64 y9 := by have e : [c17] = [.int .i64 y9] := a9; simpa using e
  obtain ⟨y10, a10, _, b10, i10⟩ := r10 n [c18] x10.1 x10.2 (by have e := hf 10 _ g10.1; rw [g10.2.1, g10.2.2] at e; exact e)
  have b10 : 1 ≤ B.one x10.1 := b10
  obtain rfl : c18 = .int .u32 (y10.toNat : Int) := by have e : [c18] = [.int .u32 (y10.toNat : Int)] := a10; simpa using e
  refine ⟨⟨y0, y1, y2, y3, y4, y5, y6, y7, y8, y9, y10⟩, ⟨_, _, _, _, _, _, _, _, rfl, h0_0, h0_1, h0_2, a3, a4, a5, a6, a7⟩, rfl, ?_, ⟨i0, i1, i2, i3, i4, i5, i6, i7, i8, i9, i10⟩⟩
  simp only [Prod.mk.injEq] at hx
  rw [hx.1, B.hagg]
  simp only [List.map_cons, List.map_nil, B.hcons, B.hnil, big_Pool]
  omega

def big_Signer (x : Signer) : Nat := bigs (fun _ => 1) x.Seed + 1 + 1
def ok_Signer (x : Signer) : Prop := (∀ y ∈ x.Seed, (fun _ => True) y) ∧ InI64 x.Spent
theorem reads_Signer {t : TypeId} {fs : Array Field} {f0 f1 : Field} (ht : P.underlying t = some (.struct fs)) (hN : P.cellsOf t = 2) (hk : fs.size = 2)
    (g0 : fs[0]? = some f0 ∧ f0.offset = 0 ∧ P.cellsOf f0.type = 1) (r0 : Reads enc P W B f0.type (RSl RU8 1) 1 (bigs (fun _ => 1)) (fun l => ∀ x ∈ l, (fun _ => True) x))
    (g1 : fs[1]? = some f1 ∧ f1.offset = 1 ∧ P.cellsOf f1.type = 1) (r1 : Reads enc P W B f1.type RInt 1 (fun _ => 1) InI64) :
    Reads enc P W B t R_Signer 2 big_Signer ok_Signer := fun fuel cs d ps h => by
  obtain ⟨xs, n, _, hx, hlen, hxl, hf⟩ := DataW.trod_struct ht h
  rw [hN] at hlen
  rw [hk] at hxl
  match xs, hxl with
  | [x0, x1], _ =>
  match cs, hlen with
  | [c0, c1], _ =>
  obtain ⟨y0, a0, _, b0, i0⟩ := r0 n [c0] x0.1 x0.2 (by have e := hf 0 _ g0.1; rw [g0.2.1, g0.2.2] at e; exact e)
  have b0 : bigs (fun _ => 1) y0 ≤ B.one x0.1 := b0
  obtain ⟨u0, e, a0⟩ := a0
  obtain rfl : c0 = u0 := by simpa using e
  obtain ⟨y1, a1, _, b1, i1⟩ := r1 n [c1] x1.1 x1.2 (by have e := hf 1 _ g1.1; rw [g1.2.1, g1.2.2] at e; exact e)
  have b1 : 1 ≤ B.one x1.1 := b1
  obtain rfl : c1 = .int .i64 y1 := by have e : [c1] = [.int .i64 y1] := a1; simpa using e
  refine ⟨⟨y0, y1⟩, ⟨_, rfl, a0⟩, rfl, ?_, ⟨i0, i1⟩⟩
  simp only [Prod.mk.injEq] at hx
  rw [hx.1, B.hagg]
  simp only [List.map_cons, List.map_nil, B.hcons, B.hnil, big_Signer]
  omega

def big_Entry (x : Entry) : Nat := (x.Name.length + 1) + 1 + 1
def ok_Entry (x : Entry) : Prop := True ∧ InI64 x.Obj
theorem reads_Entry {t : TypeId} {fs : Array Field} {f0 f1 : Field} (ht : P.underlying t = some (.struct fs)) (hN : P.cellsOf t = 2) (hk : fs.size = 2)
    (g0 : fs[0]? = some f0 ∧ f0.offset = 0 ∧ P.cellsOf f0.type = 1) (r0 : Reads enc P W B f0.type RStr 1 (fun s => s.length + 1) (fun _ => True))
    (g1 : fs[1]? = some f1 ∧ f1.offset = 1 ∧ P.cellsOf f1.type = 1) (r1 : Reads enc P W B f1.type RInt 1 (fun _ => 1) InI64) :
    Reads enc P W B t R_Entry 2 big_Entry ok_Entry := fun fuel cs d ps h => by
  obtain ⟨xs, n, _, hx, hlen, hxl, hf⟩ := DataW.trod_struct ht h
  rw [hN] at hlen
  rw [hk] at hxl
  match xs, hxl with
  | [x0, x1], _ =>
  match cs, hlen with
  | [c0, c1], _ =>
  obtain ⟨y0, a0, _, b0, i0⟩ := r0 n [c0] x0.1 x0.2 (by have e := hf 0 _ g0.1; rw [g0.2.1, g0.2.2] at e; exact e)
  have b0 : (y0.length + 1) ≤ B.one x0.1 := b0
  obtain rfl : c0 = .string (bs y0) := by have e : [c0] = [.string (bs y0)] := a0; simpa using e
  obtain ⟨y1, a1, _, b1, i1⟩ := r1 n [c1] x1.1 x1.2 (by have e := hf 1 _ g1.1; rw [g1.2.1, g1.2.2] at e; exact e)
  have b1 : 1 ≤ B.one x1.1 := b1
  obtain rfl : c1 = .int .i64 y1 := by have e : [c1] = [.int .i64 y1] := a1; simpa using e
  refine ⟨⟨y0, y1⟩, rfl, rfl, ?_, ⟨i0, i1⟩⟩
  simp only [Prod.mk.injEq] at hx
  rw [hx.1, B.hagg]
  simp only [List.map_cons, List.map_nil, B.hcons, B.hnil, big_Entry]
  omega

def big_Info (x : Info) : Nat := 1 + 1 + 1 + 1 + (x.To.length + 1) + 1
def ok_Info (x : Info) : Prop := InI64 x.Obj ∧ True ∧ InI64 x.Links ∧ InI64 x.Size ∧ True
theorem reads_Info {t : TypeId} {fs : Array Field} {f0 f1 f2 f3 f4 : Field} (ht : P.underlying t = some (.struct fs)) (hN : P.cellsOf t = 5) (hk : fs.size = 5)
    (g0 : fs[0]? = some f0 ∧ f0.offset = 0 ∧ P.cellsOf f0.type = 1) (r0 : Reads enc P W B f0.type RInt 1 (fun _ => 1) InI64)
    (g1 : fs[1]? = some f1 ∧ f1.offset = 1 ∧ P.cellsOf f1.type = 1) (r1 : Reads enc P W B f1.type RU8 1 (fun _ => 1) (fun _ => True))
    (g2 : fs[2]? = some f2 ∧ f2.offset = 2 ∧ P.cellsOf f2.type = 1) (r2 : Reads enc P W B f2.type RInt 1 (fun _ => 1) InI64)
    (g3 : fs[3]? = some f3 ∧ f3.offset = 3 ∧ P.cellsOf f3.type = 1) (r3 : Reads enc P W B f3.type RInt 1 (fun _ => 1) InI64)
    (g4 : fs[4]? = some f4 ∧ f4.offset = 4 ∧ P.cellsOf f4.type = 1) (r4 : Reads enc P W B f4.type RStr 1 (fun s => s.length + 1) (fun _ => True)) :
    Reads enc P W B t R_Info 5 big_Info ok_Info := fun fuel cs d ps h => by
  obtain ⟨xs, n, _, hx, hlen, hxl, hf⟩ := DataW.trod_struct ht h
  rw [hN] at hlen
  rw [hk] at hxl
  match xs, hxl with
  | [x0, x1, x2, x3, x4], _ =>
  match cs, hlen with
  | [c0, c1, c2, c3, c4], _ =>
  obtain ⟨y0, a0, _, b0, i0⟩ := r0 n [c0] x0.1 x0.2 (by have e := hf 0 _ g0.1; rw [g0.2.1, g0.2.2] at e; exact e)
  have b0 : 1 ≤ B.one x0.1 := b0
  obtain rfl : c0 = .int .i64 y0 := by have e : [c0] = [.int .i64 y0] := a0; simpa using e
  obtain ⟨y1, a1, _, b1, i1⟩ := r1 n [c1] x1.1 x1.2 (by have e := hf 1 _ g1.1; rw [g1.2.1, g1.2.2] at e; exact e)
  have b1 : 1 ≤ B.one x1.1 := b1
  obtain rfl : c1 = .int .u8 (y1.toNat : Int) := by have e : [c1] = [.int .u8 (y1.toNat : Int)] := a1; simpa using e
  obtain ⟨y2, a2, _, b2, i2⟩ := r2 n [c2] x2.1 x2.2 (by have e := hf 2 _ g2.1; rw [g2.2.1, g2.2.2] at e; exact e)
  have b2 : 1 ≤ B.one x2.1 := b2
  obtain rfl : c2 = .int .i64 y2 := by have e : [c2] = [.int .i64 y2] := a2; simpa using e
  obtain ⟨y3, a3, _, b3, i3⟩ := r3 n [c3] x3.1 x3.2 (by have e := hf 3 _ g3.1; rw [g3.2.1, g3.2.2] at e; exact e)
  have b3 : 1 ≤ B.one x3.1 := b3
  obtain rfl : c3 = .int .i64 y3 := by have e : [c3] = [.int .i64 y3] := a3; simpa using e
  obtain ⟨y4, a4, _, b4, i4⟩ := r4 n [c4] x4.1 x4.2 (by have e := hf 4 _ g4.1; rw [g4.2.1, g4.2.2] at e; exact e)
  have b4 : (y4.length + 1) ≤ B.one x4.1 := b4
  obtain rfl : c4 = .string (bs y4) := by have e : [c4] = [.string (bs y4)] := a4; simpa using e
  refine ⟨⟨y0, y1, y2, y3, y4⟩, rfl, rfl, ?_, ⟨i0, i1, i2, i3, i4⟩⟩
  simp only [Prod.mk.injEq] at hx
  rw [hx.1, B.hagg]
  simp only [List.map_cons, List.map_nil, B.hcons, B.hnil, big_Info]
  omega

def big_Call (x : Call) : Nat := 1 + 1 + 1 + 1 + (x.Name.length + 1) + (x.As.length + 1) + (x.Text.length + 1) + bigs (fun _ => 1) x.Data + 1
def ok_Call (x : Call) : Prop := True ∧ InI64 x.A ∧ InI64 x.B ∧ InI64 x.C ∧ True ∧ True ∧ True ∧ (∀ y ∈ x.Data, (fun _ => True) y)
theorem reads_Call {t : TypeId} {fs : Array Field} {f0 f1 f2 f3 f4 f5 f6 f7 : Field} (ht : P.underlying t = some (.struct fs)) (hN : P.cellsOf t = 8) (hk : fs.size = 8)
    (g0 : fs[0]? = some f0 ∧ f0.offset = 0 ∧ P.cellsOf f0.type = 1) (r0 : Reads enc P W B f0.type RU8 1 (fun _ => 1) (fun _ => True))
    (g1 : fs[1]? = some f1 ∧ f1.offset = 1 ∧ P.cellsOf f1.type = 1) (r1 : Reads enc P W B f1.type RInt 1 (fun _ => 1) InI64)
    (g2 : fs[2]? = some f2 ∧ f2.offset = 2 ∧ P.cellsOf f2.type = 1) (r2 : Reads enc P W B f2.type RInt 1 (fun _ => 1) InI64)
    (g3 : fs[3]? = some f3 ∧ f3.offset = 3 ∧ P.cellsOf f3.type = 1) (r3 : Reads enc P W B f3.type RInt 1 (fun _ => 1) InI64)
    (g4 : fs[4]? = some f4 ∧ f4.offset = 4 ∧ P.cellsOf f4.type = 1) (r4 : Reads enc P W B f4.type RStr 1 (fun s => s.length + 1) (fun _ => True))
    (g5 : fs[5]? = some f5 ∧ f5.offset = 5 ∧ P.cellsOf f5.type = 1) (r5 : Reads enc P W B f5.type RStr 1 (fun s => s.length + 1) (fun _ => True))
    (g6 : fs[6]? = some f6 ∧ f6.offset = 6 ∧ P.cellsOf f6.type = 1) (r6 : Reads enc P W B f6.type RStr 1 (fun s => s.length + 1) (fun _ => True))
    (g7 : fs[7]? = some f7 ∧ f7.offset = 7 ∧ P.cellsOf f7.type = 1) (r7 : Reads enc P W B f7.type (RSl RU8 1) 1 (bigs (fun _ => 1)) (fun l => ∀ x ∈ l, (fun _ => True) x)) :
    Reads enc P W B t R_Call 8 big_Call ok_Call := fun fuel cs d ps h => by
  obtain ⟨xs, n, _, hx, hlen, hxl, hf⟩ := DataW.trod_struct ht h
  rw [hN] at hlen
  rw [hk] at hxl
  match xs, hxl with
  | [x0, x1, x2, x3, x4, x5, x6, x7], _ =>
  match cs, hlen with
  | [c0, c1, c2, c3, c4, c5, c6, c7], _ =>
  obtain ⟨y0, a0, _, b0, i0⟩ := r0 n [c0] x0.1 x0.2 (by have e := hf 0 _ g0.1; rw [g0.2.1, g0.2.2] at e; exact e)
  have b0 : 1 ≤ B.one x0.1 := b0
  obtain rfl : c0 = .int .u8 (y0.toNat : Int) := by have e : [c0] = [.int .u8 (y0.toNat : Int)] := a0; simpa using e
  obtain ⟨y1, a1, _, b1, i1⟩ := r1 n [c1] x1.1 x1.2 (by have e := hf 1 _ g1.1; rw [g1.2.1, g1.2.2] at e; exact e)
  have b1 : 1 ≤ B.one x1.1 := b1
  obtain rfl : c1 = .int .i64 y1 := by have e : [c1] = [.int .i64 y1] := a1; simpa using e
  obtain ⟨y2, a2, _, b2, i2⟩ := r2 n [c2] x2.1 x2.2 (by have e := hf 2 _ g2.1; rw [g2.2.1, g2.2.2] at e; exact e)
  have b2 : 1 ≤ B.one x2.1 := b2
  obtain rfl : c2 = .int .i64 y2 := by have e : [c2] = [.int .i64 y2] := a2; simpa using e
  obtain ⟨y3, a3, _, b3, i3⟩ := r3 n [c3] x3.1 x3.2 (by have e := hf 3 _ g3.1; rw [g3.2.1, g3.2.2] at e; exact e)
  have b3 : 1 ≤ B.one x3.1 := b3
  obtain rfl : c3 = .int .i64 y3 := by have e : [c3] = [.int .i64 y3] := a3; simpa using e
  obtain ⟨y4, a4, _, b4, i4⟩ := r4 n [c4] x4.1 x4.2 (by have e := hf 4 _ g4.1; rw [g4.2.1, g4.2.2] at e; exact e)
  have b4 : (y4.length + 1) ≤ B.one x4.1 := b4
  obtain rfl : c4 = .string (bs y4) := by have e : [c4] = [.string (bs y4)] := a4; simpa using e
  obtain ⟨y5, a5, _, b5, i5⟩ := r5 n [c5] x5.1 x5.2 (by have e := hf 5 _ g5.1; rw [g5.2.1, g5.2.2] at e; exact e)
  have b5 : (y5.length + 1) ≤ B.one x5.1 := b5
  obtain rfl : c5 = .string (bs y5) := by have e : [c5] = [.string (bs y5)] := a5; simpa using e
  obtain ⟨y6, a6, _, b6, i6⟩ := r6 n [c6] x6.1 x6.2 (by have e := hf 6 _ g6.1; rw [g6.2.1, g6.2.2] at e; exact e)
  have b6 : (y6.length + 1) ≤ B.one x6.1 := b6
  obtain rfl : c6 = .string (bs y6) := by have e : [c6] = [.string (bs y6)] := a6; simpa using e
  obtain ⟨y7, a7, _, b7, i7⟩ := r7 n [c7] x7.1 x7.2 (by have e := hf 7 _ g7.1; rw [g7.2.1, g7.2.2] at e; exact e)
  have b7 : bigs (fun _ => 1) y7 ≤ B.one x7.1 := b7
  obtain ⟨u7, e, a7⟩ := a7
  obtain rfl : c7 = u7 := by simpa using e
  refine ⟨⟨y0, y1, y2, y3, y4, y5, y6, y7⟩, ⟨_, rfl, a7⟩, rfl, ?_, ⟨i0, i1, i2, i3, i4, i5, i6, i7⟩⟩
  simp only [Prod.mk.injEq] at hx
  rw [hx.1, B.hagg]
  simp only [List.map_cons, List.map_nil, B.hcons, B.hnil, big_Call]
  omega

def big_Reply (x : Reply) : Nat := 1 + 1 + bigs (fun _ => 1) x.Data + bigs (fun s => s.length + 1) x.Names + big_Info x.Info + bigs (fun _ => 1) x.Lines + 1
def ok_Reply (x : Reply) : Prop := InI64 x.Error ∧ InI64 x.Id ∧ (∀ y ∈ x.Data, (fun _ => True) y) ∧ (∀ y ∈ x.Names, (fun _ => True) y) ∧ ok_Info x.Info ∧ (∀ y ∈ x.Lines, InI64 y)
theorem reads_Reply {t : TypeId} {fs : Array Field} {f0 f1 f2 f3 f4 f5 : Field} (ht : P.underlying t = some (.struct fs)) (hN : P.cellsOf t = 10) (hk : fs.size = 6)
    (g0 : fs[0]? = some f0 ∧ f0.offset = 0 ∧ P.cellsOf f0.type = 1) (r0 : Reads enc P W B f0.type RInt 1 (fun _ => 1) InI64)
    (g1 : fs[1]? = some f1 ∧ f1.offset = 1 ∧ P.cellsOf f1.type = 1) (r1 : Reads enc P W B f1.type RInt 1 (fun _ => 1) InI64)
    (g2 : fs[2]? = some f2 ∧ f2.offset = 2 ∧ P.cellsOf f2.type = 1) (r2 : Reads enc P W B f2.type (RSl RU8 1) 1 (bigs (fun _ => 1)) (fun l => ∀ x ∈ l, (fun _ => True) x))
    (g3 : fs[3]? = some f3 ∧ f3.offset = 3 ∧ P.cellsOf f3.type = 1) (r3 : Reads enc P W B f3.type (RSl RStr 1) 1 (bigs (fun s => s.length + 1)) (fun l => ∀ x ∈ l, (fun _ => True) x))
    (g4 : fs[4]? = some f4 ∧ f4.offset = 4 ∧ P.cellsOf f4.type = 5) (r4 : Reads enc P W B f4.type R_Info 5 big_Info ok_Info)
    (g5 : fs[5]? = some f5 ∧ f5.offset = 9 ∧ P.cellsOf f5.type = 1) (r5 : Reads enc P W B f5.type (RSl RInt 1) 1 (bigs (fun _ => 1)) (fun l => ∀ x ∈ l, InI64 x)) :
    Reads enc P W B t R_Reply 10 big_Reply ok_Reply := fun fuel cs d ps h => by
  obtain ⟨xs, n, _, hx, hlen, hxl, hf⟩ := DataW.trod_struct ht h
  rw [hN] at hlen
  rw [hk] at hxl
  match xs, hxl with
  | [x0, x1, x2, x3, x4, x5], _ =>
  match cs, hlen with
  | [c0, c1, c2, c3, c4, c5, c6, c7, c8, c9], _ =>
  obtain ⟨y0, a0, _, b0, i0⟩ := r0 n [c0] x0.1 x0.2 (by have e := hf 0 _ g0.1; rw [g0.2.1, g0.2.2] at e; exact e)
  have b0 : 1 ≤ B.one x0.1 := b0
  obtain rfl : c0 = .int .i64 y0 := by have e : [c0] = [.int .i64 y0] := a0; simpa using e
  obtain ⟨y1, a1, _, b1, i1⟩ := r1 n [c1] x1.1 x1.2 (by have e := hf 1 _ g1.1; rw [g1.2.1, g1.2.2] at e; exact e)
  have b1 : 1 ≤ B.one x1.1 := b1
  obtain rfl : c1 = .int .i64 y1 := by have e : [c1] = [.int .i64 y1] := a1; simpa using e
  obtain ⟨y2, a2, _, b2, i2⟩ := r2 n [c2] x2.1 x2.2 (by have e := hf 2 _ g2.1; rw [g2.2.1, g2.2.2] at e; exact e)
  have b2 : bigs (fun _ => 1) y2 ≤ B.one x2.1 := b2
  obtain ⟨u2, e, a2⟩ := a2
  obtain rfl : c2 = u2 := by simpa using e
  obtain ⟨y3, a3, _, b3, i3⟩ := r3 n [c3] x3.1 x3.2 (by have e := hf 3 _ g3.1; rw [g3.2.1, g3.2.2] at e; exact e)
  have b3 : bigs (fun s => s.length + 1) y3 ≤ B.one x3.1 := b3
  obtain ⟨u3, e, a3⟩ := a3
  obtain rfl : c3 = u3 := by simpa using e
  obtain ⟨y4, a4, _, b4, i4⟩ := r4 n [c4, c5, c6, c7, c8] x4.1 x4.2 (by have e := hf 4 _ g4.1; rw [g4.2.1, g4.2.2] at e; exact e)
  have b4 : big_Info y4 ≤ B.one x4.1 := b4
  have e := a4
  unfold R_Info at e
  simp only [List.cons.injEq, and_true] at e
  obtain ⟨rfl, rfl, rfl, rfl, rfl⟩ := e
  obtain ⟨y5, a5, _, b5, i5⟩ := r5 n [c9] x5.1 x5.2 (by have e := hf 5 _ g5.1; rw [g5.2.1, g5.2.2] at e; exact e)
  have b5 : bigs (fun _ => 1) y5 ≤ B.one x5.1 := b5
  obtain ⟨u5, e, a5⟩ := a5
  obtain rfl : c9 = u5 := by simpa using e
  refine ⟨⟨y0, y1, y2, y3, y4, y5⟩, ⟨_, _, _, rfl, a2, a3, a5⟩, rfl, ?_, ⟨i0, i1, i2, i3, i4, i5⟩⟩
  simp only [Prod.mk.injEq] at hx
  rw [hx.1, B.hagg]
  simp only [List.map_cons, List.map_nil, B.hcons, B.hnil, big_Reply]
  omega

def big_Part (x : Part) : Nat := 1 + 1 + 1 + 1 + bigs (fun _ => 1) x.Data + 1
def ok_Part (x : Part) : Prop := InI64 x.Obj ∧ InI64 x.Index ∧ True ∧ True ∧ (∀ y ∈ x.Data, (fun _ => True) y)
theorem reads_Part {t : TypeId} {fs : Array Field} {f0 f1 f2 f3 f4 : Field} (ht : P.underlying t = some (.struct fs)) (hN : P.cellsOf t = 5) (hk : fs.size = 5)
    (g0 : fs[0]? = some f0 ∧ f0.offset = 0 ∧ P.cellsOf f0.type = 1) (r0 : Reads enc P W B f0.type RInt 1 (fun _ => 1) InI64)
    (g1 : fs[1]? = some f1 ∧ f1.offset = 1 ∧ P.cellsOf f1.type = 1) (r1 : Reads enc P W B f1.type RInt 1 (fun _ => 1) InI64)
    (g2 : fs[2]? = some f2 ∧ f2.offset = 2 ∧ P.cellsOf f2.type = 1) (r2 : Reads enc P W B f2.type RU32 1 (fun _ => 1) (fun _ => True))
    (g3 : fs[3]? = some f3 ∧ f3.offset = 3 ∧ P.cellsOf f3.type = 1) (r3 : Reads enc P W B f3.type RU32 1 (fun _ => 1) (fun _ => True))
    (g4 : fs[4]? = some f4 ∧ f4.offset = 4 ∧ P.cellsOf f4.type = 1) (r4 : Reads enc P W B f4.type (RSl RU8 1) 1 (bigs (fun _ => 1)) (fun l => ∀ x ∈ l, (fun _ => True) x)) :
    Reads enc P W B t R_Part 5 big_Part ok_Part := fun fuel cs d ps h => by
  obtain ⟨xs, n, _, hx, hlen, hxl, hf⟩ := DataW.trod_struct ht h
  rw [hN] at hlen
  rw [hk] at hxl
  match xs, hxl with
  | [x0, x1, x2, x3, x4], _ =>
  match cs, hlen with
  | [c0, c1, c2, c3, c4], _ =>
  obtain ⟨y0, a0, _, b0, i0⟩ := r0 n [c0] x0.1 x0.2 (by have e := hf 0 _ g0.1; rw [g0.2.1, g0.2.2] at e; exact e)
  have b0 : 1 ≤ B.one x0.1 := b0
  obtain rfl : c0 = .int .i64 y0 := by have e : [c0] = [.int .i64 y0] := a0; simpa using e
  obtain ⟨y1, a1, _, b1, i1⟩ := r1 n [c1] x1.1 x1.2 (by have e := hf 1 _ g1.1; rw [g1.2.1, g1.2.2] at e; exact e)
  have b1 : 1 ≤ B.one x1.1 := b1
  obtain rfl : c1 = .int .i64 y1 := by have e : [c1] = [.int .i64 y1] := a1; simpa using e
  obtain ⟨y2, a2, _, b2, i2⟩ := r2 n [c2] x2.1 x2.2 (by have e := hf 2 _ g2.1; rw [g2.2.1, g2.2.2] at e; exact e)
  have b2 : 1 ≤ B.one x2.1 := b2
  obtain rfl : c2 = .int .u32 (y2.toNat : Int) := by have e : [c2] = [.int .u32 (y2.toNat : Int)] := a2; simpa using e
  obtain ⟨y3, a3, _, b3, i3⟩ := r3 n [c3] x3.1 x3.2 (by have e := hf 3 _ g3.1; rw [g3.2.1, g3.2.2] at e; exact e)
  have b3 : 1 ≤ B.one x3.1 := b3
  obtain rfl : c3 = .int .u32 (y3.toNat : Int) := by have e : [c3] = [.int .u32 (y3.toNat : Int)] := a3; simpa using e
  obtain ⟨y4, a4, _, b4, i4⟩ := r4 n [c4] x4.1 x4.2 (by have e := hf 4 _ g4.1; rw [g4.2.1, g4.2.2] at e; exact e)
  have b4 : bigs (fun _ => 1) y4 ≤ B.one x4.1 := b4
  obtain ⟨u4, e, a4⟩ := a4
  obtain rfl : c4 = u4 := by simpa using e
  refine ⟨⟨y0, y1, y2, y3, y4⟩, ⟨_, rfl, a4⟩, rfl, ?_, ⟨i0, i1, i2, i3, i4⟩⟩
  simp only [Prod.mk.injEq] at hx
  rw [hx.1, B.hagg]
  simp only [List.map_cons, List.map_nil, B.hcons, B.hnil, big_Part]
  omega

def big_Stream (x : Stream) : Nat := 1 + 1 + bigs (fun _ => 1) x.Key + bigs big_Part x.Parts + bigs (fun _ => 1) x.Sign + 1
def ok_Stream (x : Stream) : Prop := True ∧ True ∧ (∀ y ∈ x.Key, (fun _ => True) y) ∧ (∀ y ∈ x.Parts, ok_Part y) ∧ (∀ y ∈ x.Sign, (fun _ => True) y)
theorem reads_Stream {t : TypeId} {fs : Array Field} {f0 f1 f2 f3 f4 : Field} (ht : P.underlying t = some (.struct fs)) (hN : P.cellsOf t = 5) (hk : fs.size = 5)
    (g0 : fs[0]? = some f0 ∧ f0.offset = 0 ∧ P.cellsOf f0.type = 1) (r0 : Reads enc P W B f0.type RU32 1 (fun _ => 1) (fun _ => True))
    (g1 : fs[1]? = some f1 ∧ f1.offset = 1 ∧ P.cellsOf f1.type = 1) (r1 : Reads enc P W B f1.type RU32 1 (fun _ => 1) (fun _ => True))
    (g2 : fs[2]? = some f2 ∧ f2.offset = 2 ∧ P.cellsOf f2.type = 1) (r2 : Reads enc P W B f2.type (RSl RU8 1) 1 (bigs (fun _ => 1)) (fun l => ∀ x ∈ l, (fun _ => True) x))
    (g3 : fs[3]? = some f3 ∧ f3.offset = 3 ∧ P.cellsOf f3.type = 1) (r3 : Reads enc P W B f3.type (RSl R_Part 5) 1 (bigs big_Part) (fun l => ∀ x ∈ l, ok_Part x))
    (g4 : fs[4]? = some f4 ∧ f4.offset = 4 ∧ P.cellsOf f4.type = 1) (r4 : Reads enc P W B f4.type (RSl RU8 1) 1 (bigs (fun _ => 1)) (fun l => ∀ x ∈ l, (fun _ => True) x)) :
    Reads enc P W B t R_Stream 5 big_Stream ok_Stream := fun fuel cs d ps h => by
  obtain ⟨xs, n, _, hx, hlen, hxl, hf⟩ := DataW.trod_struct ht h
  rw [hN] at hlen
  rw [hk] at hxl
  match xs, hxl with
  | [x0, x1, x2, x3, x4], _ =>
  match cs, hlen with
  | [c0, c1, c2, c3, c4], _ =>
  obtain ⟨y0, a0, _, b0, i0⟩ := r0 n [c0] x0.1 x0.2 (by have e := hf 0 _ g0.1; rw [g0.2.1, g0.2.2] at e; exact e)
  have b0 : 1 ≤ B.one x0.1 := b0
  obtain rfl : c0 = .int .u32 (y0.toNat : Int) := by have e : [c0] = [.int .u32 (y0.toNat : Int)] := a0; simpa using e
  obtain ⟨y1, a1, _, b1, i1⟩ := r1 n [c1] x1.1 x1.2 (by have e := hf 1 _ g1.1; rw [g1.2.1, g1.2.2] at e; exact e)
  have b1 : 1 ≤ B.one x1.1 := b1
  obtain rfl : c1 = .int .u32 (y1.toNat : Int) := by have e : [c1] = [.int .u32 (y1.toNat : Int)] := a1; simpa using e
  obtain ⟨y2, a2, _, b2, i2⟩ := r2 n [c2] x2.1 x2.2 (by have e := hf 2 _ g2.1; rw [g2.2.1, g2.2.2] at e; exact e)
  have b2 : bigs (fun _ => 1) y2 ≤ B.one x2.1 := b2
  obtain ⟨u2, e, a2⟩ := a2
  obtain rfl : c2 = u2 := by simpa using e
  obtain ⟨y3, a3, _, b3, i3⟩ := r3 n [c3] x3.1 x3.2 (by have e := hf 3 _ g3.1; rw [g3.2.1, g3.2.2] at e; exact e)
  have b3 : bigs big_Part y3 ≤ B.one x3.1 := b3
  obtain ⟨u3, e, a3⟩ := a3
  obtain rfl : c3 = u3 := by simpa using e
  obtain ⟨y4, a4, _, b4, i4⟩ := r4 n [c4] x4.1 x4.2 (by have e := hf 4 _ g4.1; rw [g4.2.1, g4.2.2] at e; exact e)
  have b4 : bigs (fun _ => 1) y4 ≤ B.one x4.1 := b4
  obtain ⟨u4, e, a4⟩ := a4
  obtain rfl : c4 = u4 := by simpa using e
  refine ⟨⟨y0, y1, y2, y3, y4⟩, ⟨_, _, _, rfl, a2, a3, a4⟩, rfl, ?_, ⟨i0, i1, i2, i3, i4⟩⟩
  simp only [Prod.mk.injEq] at hx
  rw [hx.1, B.hagg]
  simp only [List.map_cons, List.map_nil, B.hcons, B.hnil, big_Stream]
  omega

def big_Deed (x : Deed) : Nat := 1 + 1 + 1 + 1 + big_Call x.Call + bigs (fun _ => 1) x.Keep + 1
def ok_Deed (x : Deed) : Prop := True ∧ InI64 x.At ∧ InI64 x.A ∧ InI64 x.B ∧ ok_Call x.Call ∧ (∀ y ∈ x.Keep, (fun _ => True) y)
theorem reads_Deed {t : TypeId} {fs : Array Field} {f0 f1 f2 f3 f4 f5 : Field} (ht : P.underlying t = some (.struct fs)) (hN : P.cellsOf t = 13) (hk : fs.size = 6)
    (g0 : fs[0]? = some f0 ∧ f0.offset = 0 ∧ P.cellsOf f0.type = 1) (r0 : Reads enc P W B f0.type RU8 1 (fun _ => 1) (fun _ => True))
    (g1 : fs[1]? = some f1 ∧ f1.offset = 1 ∧ P.cellsOf f1.type = 1) (r1 : Reads enc P W B f1.type RInt 1 (fun _ => 1) InI64)
    (g2 : fs[2]? = some f2 ∧ f2.offset = 2 ∧ P.cellsOf f2.type = 1) (r2 : Reads enc P W B f2.type RInt 1 (fun _ => 1) InI64)
    (g3 : fs[3]? = some f3 ∧ f3.offset = 3 ∧ P.cellsOf f3.type = 1) (r3 : Reads enc P W B f3.type RInt 1 (fun _ => 1) InI64)
    (g4 : fs[4]? = some f4 ∧ f4.offset = 4 ∧ P.cellsOf f4.type = 8) (r4 : Reads enc P W B f4.type R_Call 8 big_Call ok_Call)
    (g5 : fs[5]? = some f5 ∧ f5.offset = 12 ∧ P.cellsOf f5.type = 1) (r5 : Reads enc P W B f5.type (RSl RBool 1) 1 (bigs (fun _ => 1)) (fun l => ∀ x ∈ l, (fun _ => True) x)) :
    Reads enc P W B t R_Deed 13 big_Deed ok_Deed := fun fuel cs d ps h => by
  obtain ⟨xs, n, _, hx, hlen, hxl, hf⟩ := DataW.trod_struct ht h
  rw [hN] at hlen
  rw [hk] at hxl
  match xs, hxl with
  | [x0, x1, x2, x3, x4, x5], _ =>
  match cs, hlen with
  | [c0, c1, c2, c3, c4, c5, c6, c7, c8, c9, c10, c11, c12], _ =>
  obtain ⟨y0, a0, _, b0, i0⟩ := r0 n [c0] x0.1 x0.2 (by have e := hf 0 _ g0.1; rw [g0.2.1, g0.2.2] at e; exact e)
  have b0 : 1 ≤ B.one x0.1 := b0
  obtain rfl : c0 = .int .u8 (y0.toNat : Int) := by have e : [c0] = [.int .u8 (y0.toNat : Int)] := a0; simpa using e
  obtain ⟨y1, a1, _, b1, i1⟩ := r1 n [c1] x1.1 x1.2 (by have e := hf 1 _ g1.1; rw [g1.2.1, g1.2.2] at e; exact e)
  have b1 : 1 ≤ B.one x1.1 := b1
  obtain rfl : c1 = .int .i64 y1 := by have e : [c1] = [.int .i64 y1] := a1; simpa using e
  obtain ⟨y2, a2, _, b2, i2⟩ := r2 n [c2] x2.1 x2.2 (by have e := hf 2 _ g2.1; rw [g2.2.1, g2.2.2] at e; exact e)
  have b2 : 1 ≤ B.one x2.1 := b2
  obtain rfl : c2 = .int .i64 y2 := by have e : [c2] = [.int .i64 y2] := a2; simpa using e
  obtain ⟨y3, a3, _, b3, i3⟩ := r3 n [c3] x3.1 x3.2 (by have e := hf 3 _ g3.1; rw [g3.2.1, g3.2.2] at e; exact e)
  have b3 : 1 ≤ B.one x3.1 := b3
  obtain rfl : c3 = .int .i64 y3 := by have e : [c3] = [.int .i64 y3] := a3; simpa using e
  obtain ⟨y4, a4, _, b4, i4⟩ := r4 n [c4, c5, c6, c7, c8, c9, c10, c11] x4.1 x4.2 (by have e := hf 4 _ g4.1; rw [g4.2.1, g4.2.2] at e; exact e)
  have b4 : big_Call y4 ≤ B.one x4.1 := b4
  obtain ⟨w4_7, e, h4_7⟩ := a4
  simp only [List.cons.injEq, and_true] at e
  obtain ⟨rfl, rfl, rfl, rfl, rfl, rfl, rfl, rfl⟩ := e
  obtain ⟨y5, a5, _, b5, i5⟩ := r5 n [c12] x5.1 x5.2 (by have e := hf 5 _ g5.1; rw [g5.2.1, g5.2.2] at e; exact e)
  have b5 : bigs (fun _ => 1) y5 ≤ B.one x5.1 := b5
  obtain ⟨u5, e, a5⟩ := a5
  obtain rfl : c12 = u5 := by simpa using e
  refine ⟨⟨y0, y1, y2, y3, y4, y5⟩, ⟨_, _, rfl, h4_7, a5⟩, rfl, ?_, ⟨i0, i1, i2, i3, i4, i5⟩⟩
  simp only [Prod.mk.injEq] at hx
  rw [hx.1, B.hagg]
  simp only [List.map_cons, List.map_nil, B.hcons, B.hnil, big_Deed]
  omega

def big_Pair (x : Pair) : Nat := bigs big_Pool x.Pools + bigs (fun _ => 1) x.Stream + big_Signer x.Signer + 1
def ok_Pair (x : Pair) : Prop := (∀ y ∈ x.Pools, ok_Pool y) ∧ (∀ y ∈ x.Stream, (fun _ => True) y) ∧ ok_Signer x.Signer
theorem reads_Pair {t : TypeId} {fs : Array Field} {f0 f1 f2 : Field} (ht : P.underlying t = some (.struct fs)) (hN : P.cellsOf t = 4) (hk : fs.size = 3)
    (g0 : fs[0]? = some f0 ∧ f0.offset = 0 ∧ P.cellsOf f0.type = 1) (r0 : Reads enc P W B f0.type (RSl R_Pool 19) 1 (bigs big_Pool) (fun l => ∀ x ∈ l, ok_Pool x))
    (g1 : fs[1]? = some f1 ∧ f1.offset = 1 ∧ P.cellsOf f1.type = 1) (r1 : Reads enc P W B f1.type (RSl RU8 1) 1 (bigs (fun _ => 1)) (fun l => ∀ x ∈ l, (fun _ => True) x))
    (g2 : fs[2]? = some f2 ∧ f2.offset = 2 ∧ P.cellsOf f2.type = 2) (r2 : Reads enc P W B f2.type R_Signer 2 big_Signer ok_Signer) :
    Reads enc P W B t R_Pair 4 big_Pair ok_Pair := fun fuel cs d ps h => by
  obtain ⟨xs, n, _, hx, hlen, hxl, hf⟩ := DataW.trod_struct ht h
  rw [hN] at hlen
  rw [hk] at hxl
  match xs, hxl with
  | [x0, x1, x2], _ =>
  match cs, hlen with
  | [c0, c1, c2, c3], _ =>
  obtain ⟨y0, a0, _, b0, i0⟩ := r0 n [c0] x0.1 x0.2 (by have e := hf 0 _ g0.1; rw [g0.2.1, g0.2.2] at e; exact e)
  have b0 : bigs big_Pool y0 ≤ B.one x0.1 := b0
  obtain ⟨u0, e, a0⟩ := a0
  obtain rfl : c0 = u0 := by simpa using e
  obtain ⟨y1, a1, _, b1, i1⟩ := r1 n [c1] x1.1 x1.2 (by have e := hf 1 _ g1.1; rw [g1.2.1, g1.2.2] at e; exact e)
  have b1 : bigs (fun _ => 1) y1 ≤ B.one x1.1 := b1
  obtain ⟨u1, e, a1⟩ := a1
  obtain rfl : c1 = u1 := by simpa using e
  obtain ⟨y2, a2, _, b2, i2⟩ := r2 n [c2, c3] x2.1 x2.2 (by have e := hf 2 _ g2.1; rw [g2.2.1, g2.2.2] at e; exact e)
  have b2 : big_Signer y2 ≤ B.one x2.1 := b2
  obtain ⟨w2_0, e, h2_0⟩ := a2
  simp only [List.cons.injEq, and_true] at e
  obtain ⟨rfl, rfl⟩ := e
  refine ⟨⟨y0, y1, y2⟩, ⟨_, _, _, rfl, a0, a1, h2_0⟩, rfl, ?_, ⟨i0, i1, i2⟩⟩
  simp only [Prod.mk.injEq] at hx
  rw [hx.1, B.hagg]
  simp only [List.map_cons, List.map_nil, B.hcons, B.hnil, big_Pair]
  omega

end
end Go.Ow
