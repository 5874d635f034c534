/-
  What is proved here: plain structures for the data of the program, and how they lie in cells. Printed by mkt.py.
-/
import Derived.Test.YtdelcjkjkhcaoaaOwO
import Derived.Test.YtdelcjkjkhcaoaaOwPT
namespace Go.Ow
open Go.RowKit
set_option linter.unusedVariables false
set_option linter.unusedSimpArgs false
def RStr : Rep (List UInt8) := fun _ cs s => cs = [.string (bs s)]
theorem RStr.mono : RStr.Mono := fun _ _ _ _ _ h => h
theorem RStr.const : RStr.Const := fun _ _ _ _ h => h
theorem RStr.one : RStr.One := fun _ cs y h => by rw [show cs = _ from h]; intro u hu; simp at hu; subst hu; rfl


def R_Write : Rep Write := fun H cs x => ∃ v1 : Value, cs = [.int .i64 x.At, v1] ∧ IsSlice H RU8 1 v1 x.Data
theorem R_Write.mono : R_Write.Mono := fun _ _ _ _ hle ⟨v1, e, h1⟩ => ⟨v1, e, h1.mono RU8.mono hle⟩
theorem R_Write.one : R_Write.One := fun _ _ _ ⟨v1, e, h1⟩ => by
  subst e; intro u hu; simp only [List.mem_cons, List.not_mem_nil, or_false] at hu
  rcases hu with rfl | rfl <;> first | rfl | exact h1.one1

def R_Disk : Rep Disk := fun H cs x => ∃ v0 v1 : Value, cs = [v0, v1] ∧ IsSlice H (RSl RU8 1) 1 v0 x.Blocks ∧ IsSlice H R_Write 2 v1 x.Waits
theorem R_Disk.mono : R_Disk.Mono := fun _ _ _ _ hle ⟨v0, v1, e, h0, h1⟩ => ⟨v0, v1, e, h0.mono (RSl.mono RU8.mono) hle, h1.mono R_Write.mono hle⟩
theorem R_Disk.one : R_Disk.One := fun _ _ _ ⟨v0, v1, e, h0, h1⟩ => by
  subst e; intro u hu; simp only [List.mem_cons, List.not_mem_nil, or_false] at hu
  rcases hu with rfl | rfl <;> first | rfl | exact h0.one1 | exact h1.one1

def R_Ptr : Rep Ptr := fun H cs x => cs = [.int .i64 x.At, .int .u32 (x.Birth.toNat : Int), .int .u32 (x.Iv.toNat : Int), .int .u32 (x.Tag.toNat : Int), .int .u32 (x.Sum.toNat : Int)]
theorem R_Ptr.mono : R_Ptr.Mono := fun _ _ _ _ _ h => h
theorem R_Ptr.const : R_Ptr.Const := fun _ _ _ _ h => h
theorem R_Ptr.one : R_Ptr.One := fun _ cs x h => by
  rw [show cs = _ from h]; intro u hu; simp only [List.mem_cons, List.not_mem_nil, or_false] at hu
  rcases hu with rfl | rfl | rfl | rfl | rfl <;> rfl
def R_Label : Rep Label := fun H cs x => cs = [.int .u32 (x.Gen.toNat : Int), .int .u32 (x.Epoch.toNat : Int), .int .i64 x.Root.At, .int .u32 (x.Root.Birth.toNat : Int), .int .u32 (x.Root.Iv.toNat : Int), .int .u32 (x.Root.Tag.toNat : Int), .int .u32 (x.Root.Sum.toNat : Int)]
theorem R_Label.mono : R_Label.Mono := fun _ _ _ _ _ h => h
theorem R_Label.const : R_Label.Const := fun _ _ _ _ h => h
theorem R_Label.one : R_Label.One := fun _ cs x h => by
  rw [show cs = _ from h]; intro u hu; simp only [List.mem_cons, List.not_mem_nil, or_false] at hu
  rcases hu with rfl | rfl | rfl | rfl | rfl | rfl | rfl <;> rfl
def R_Object : Rep Object := fun H cs x => ∃ v3 : Value, cs = [.int .u8 (x.Kind.toNat : Int), .int .i64 x.Links, .int .i64 x.Size, v3] ∧ IsSlice H R_Ptr 5 v3 x.Data
theorem R_Object.mono : R_Object.Mono := fun _ _ _ _ hle ⟨v3, e, h3⟩ => ⟨v3, e, h3.mono R_Ptr.mono hle⟩
theorem R_Object.one : R_Object.One := fun _ _ _ ⟨v3, e, h3⟩ => by
  subst e; intro u hu; simp only [List.mem_cons, List.not_mem_nil, or_false] at hu
  rcases hu with rfl | rfl | rfl | rfl <;> first | rfl | exact h3.one1

def R_Line : Rep Line := fun H cs x => ∃ v12 : Value, cs = [.int .i64 x.Id, .int .u8 (x.Kind.toNat : Int), .int .i64 x.Owner, .int .i64 x.Prev, .int .u32 (x.Txg.toNat : Int), .int .u32 (x.Guid.toNat : Int), .int .i64 x.Key, .int .i64 x.Root.At, .int .u32 (x.Root.Birth.toNat : Int), .int .u32 (x.Root.Iv.toNat : Int), .int .u32 (x.Root.Tag.toNat : Int), .int .u32 (x.Root.Sum.toNat : Int), v12] ∧ IsSlice H R_Ptr 5 v12 x.Dead
theorem R_Line.mono : R_Line.Mono := fun _ _ _ _ hle ⟨v12, e, h12⟩ => ⟨v12, e, h12.mono R_Ptr.mono hle⟩
theorem R_Line.one : R_Line.One := fun _ _ _ ⟨v12, e, h12⟩ => by
  subst e; intro u hu; simp only [List.mem_cons, List.not_mem_nil, or_false] at hu
  rcases hu with rfl | rfl | rfl | rfl | rfl | rfl | rfl | rfl | rfl | rfl | rfl | rfl | rfl <;> first | rfl | exact h12.one1

def R_Store : Rep Store := fun H cs x => ∃ v0 v1 v2 : Value, cs = [v0, v1, v2, .int .u32 (x.Epoch.toNat : Int), .int .u32 (x.Count.toNat : Int)] ∧ IsSlice H (RSl RU8 1) 1 v0 x.Disk.Blocks ∧ IsSlice H R_Write 2 v1 x.Disk.Waits ∧ IsSlice H RU8 1 v2 x.Space
theorem R_Store.mono : R_Store.Mono := fun _ _ _ _ hle ⟨v0, v1, v2, e, h0, h1, h2⟩ => ⟨v0, v1, v2, e, h0.mono (RSl.mono RU8.mono) hle, h1.mono R_Write.mono hle, h2.mono RU8.mono hle⟩
theorem R_Store.one : R_Store.One := fun _ _ _ ⟨v0, v1, v2, e, h0, h1, h2⟩ => by
  subst e; intro u hu; simp only [List.mem_cons, List.not_mem_nil, or_false] at hu
  rcases hu with rfl | rfl | rfl | rfl | rfl <;> first | rfl | exact h0.one1 | exact h1.one1 | exact h2.one1

def R_Change : Rep Change := fun H cs x => ∃ v6 : Value, cs = [.int .i64 x.Set, .int .i64 x.Obj, .int .i64 x.Index, .int .u8 (x.Kind.toNat : Int), .int .i64 x.Links, .int .i64 x.Size, v6, .int .i64 x.Laid.At, .int .u32 (x.Laid.Birth.toNat : Int), .int .u32 (x.Laid.Iv.toNat : Int), .int .u32 (x.Laid.Tag.toNat : Int), .int .u32 (x.Laid.Sum.toNat : Int)] ∧ IsSlice H RU8 1 v6 x.Data
theorem R_Change.mono : R_Change.Mono := fun _ _ _ _ hle ⟨v6, e, h6⟩ => ⟨v6, e, h6.mono RU8.mono hle⟩
theorem R_Change.one : R_Change.One := fun _ _ _ ⟨v6, e, h6⟩ => by
  subst e; intro u hu; simp only [List.mem_cons, List.not_mem_nil, or_false] at hu
  rcases hu with rfl | rfl | rfl | rfl | rfl | rfl | rfl | rfl | rfl | rfl | rfl | rfl <;> first | rfl | exact h6.one1

def R_Pool : Rep Pool := fun H cs x => ∃ v0 v1 v2 v11 v12 v13 v14 v15 : Value, cs = [v0, v1, v2, .int .u32 (x.Store.Epoch.toNat : Int), .int .u32 (x.Store.Count.toNat : Int), .int .u32 (x.Gen.toNat : Int), .int .i64 x.Root.At, .int .u32 (x.Root.Birth.toNat : Int), .int .u32 (x.Root.Iv.toNat : Int), .int .u32 (x.Root.Tag.toNat : Int), .int .u32 (x.Root.Sum.toNat : Int), v11, v12, v13, v14, v15, .int .i64 x.Logged, .int .i64 x.NextId, .int .u32 (x.NextGuid.toNat : Int)] ∧ IsSlice H (RSl RU8 1) 1 v0 x.Store.Disk.Blocks ∧ IsSlice H R_Write 2 v1 x.Store.Disk.Waits ∧ IsSlice H RU8 1 v2 x.Store.Space ∧ IsSlice H RInt 1 v11 x.MetaL ∧ IsSlice H R_Line 13 v12 x.Lines ∧ IsSlice H (RSl RU8 1) 1 v13 x.Keys ∧ IsSlice H (RSl RU8 1) 1 v14 x.Loaded ∧ IsSlice H R_Change 12 v15 x.Changes
theorem R_Pool.mono : R_Pool.Mono := fun _ _ _ _ hle ⟨v0, v1, v2, v11, v12, v13, v14, v15, e, h0, h1, h2, h11, h12, h13, h14, h15⟩ => ⟨v0, v1, v2, v11, v12, v13, v14, v15, e, h0.mono (RSl.mono RU8.mono) hle, h1.mono R_Write.mono hle, h2.mono RU8.mono hle, h11.mono RInt.mono hle, h12.mono R_Line.mono hle, h13.mono (RSl.mono RU8.mono) hle, h14.mono (RSl.mono RU8.mono) hle, h15.mono R_Change.mono hle⟩
theorem R_Pool.one : R_Pool.One := fun _ _ _ ⟨v0, v1, v2, v11, v12, v13, v14, v15, e, h0, h1, h2, h11, h12, h13, h14, h15⟩ => by
  subst e; intro u hu; simp only [List.mem_cons, List.not_mem_nil, or_false] at hu
  rcases hu with rfl | rfl | rfl | rfl | rfl | rfl | rfl | rfl | rfl | rfl | rfl | rfl | rfl | rfl | rfl | rfl | rfl | rfl | rfl <;> first | rfl | exact h0.one1 | exact h1.one1 | exact h2.one1 | exact h11.one1 | exact h12.one1 | exact h13.one1 | exact h14.one1 | exact h15.one1

def R_Signer : Rep Signer := fun H cs x => ∃ v0 : Value, cs = [v0, .int .i64 x.Spent] ∧ IsSlice H RU8 1 v0 x.Seed
theorem R_Signer.mono : R_Signer.Mono := fun _ _ _ _ hle ⟨v0, e, h0⟩ => ⟨v0, e, h0.mono RU8.mono hle⟩
theorem R_Signer.one : R_Signer.One := fun _ _ _ ⟨v0, e, h0⟩ => by
  subst e; intro u hu; simp only [List.mem_cons, List.not_mem_nil, or_false] at hu
  rcases hu with rfl | rfl <;> first | rfl | exact h0.one1

def R_Entry : Rep Entry := fun H cs x => cs = [.string (bs x.Name), .int .i64 x.Obj]
theorem R_Entry.mono : R_Entry.Mono := fun _ _ _ _ _ h => h
theorem R_Entry.const : R_Entry.Const := fun _ _ _ _ h => h
theorem R_Entry.one : R_Entry.One := fun _ cs x h => by
  rw [show cs = _ from h]; intro u hu; simp only [List.mem_cons, List.not_mem_nil, or_false] at hu
  rcases hu with rfl | rfl <;> rfl
def R_Info : Rep Info := fun H cs x => cs = [.int .i64 x.Obj, .int .u8 (x.Kind.toNat : Int), .int .i64 x.Links, .int .i64 x.Size, .string (bs x.To)]
theorem R_Info.mono : R_Info.Mono := fun _ _ _ _ _ h => h
theorem R_Info.const : R_Info.Const := fun _ _ _ _ h => h
theorem R_Info.one : R_Info.One := fun _ cs x h => by
  rw [show cs = _ from h]; intro u hu; simp only [List.mem_cons, List.not_mem_nil, or_false] at hu
  rcases hu with rfl | rfl | rfl | rfl | rfl <;> rfl
def R_Call : Rep Call := fun H cs x => ∃ v7 : Value, cs = [.int .u8 (x.Kind.toNat : Int), .int .i64 x.A, .int .i64 x.B, .int .i64 x.C, .string (bs x.Name), .string (bs x.As), .string (bs x.Text), v7] ∧ IsSlice H RU8 1 v7 x.Data
theorem R_Call.mono : R_Call.Mono := fun _ _ _ _ hle ⟨v7, e, h7⟩ => ⟨v7, e, h7.mono RU8.mono hle⟩
theorem R_Call.one : R_Call.One := fun _ _ _ ⟨v7, e, h7⟩ => by
  subst e; intro u hu; simp only [List.mem_cons, List.not_mem_nil, or_false] at hu
  rcases hu with rfl | rfl | rfl | rfl | rfl | rfl | rfl | rfl <;> first | rfl | exact h7.one1

def R_Reply : Rep Reply := fun H cs x => ∃ v2 v3 v9 : Value, cs = [.int .i64 x.Error, .int .i64 x.Id, v2, v3, .int .i64 x.Info.Obj, .int .u8 (x.Info.Kind.toNat : Int), .int .i64 x.Info.Links, .int .i64 x.Info.Size, .string (bs x.Info.To), v9] ∧ IsSlice H RU8 1 v2 x.Data ∧ IsSlice H RStr 1 v3 x.Names ∧ IsSlice H RInt 1 v9 x.Lines
theorem R_Reply.mono : R_Reply.Mono := fun _ _ _ _ hle ⟨v2, v3, v9, e, h2, h3, h9⟩ => ⟨v2, v3, v9, e, h2.mono RU8.mono hle, h3.mono RStr.mono hle, h9.mono RInt.mono hle⟩
theorem R_Reply.one : R_Reply.One := fun _ _ _ ⟨v2, v3, v9, e, h2, h3, h9⟩ => by
  subst e; intro u hu; simp only [List.mem_cons, List.not_mem_nil, or_false] at hu
  rcases hu with rfl | rfl | rfl | rfl | rfl | rfl | rfl | rfl | rfl | rfl <;> first | rfl | exact h2.one1 | exact h3.one1 | exact h9.one1

def R_Part : Rep Part := fun H cs x => ∃ v4 : Value, cs = [.int .i64 x.Obj, .int .i64 x.Index, .int .u32 (x.Iv.toNat : Int), .int .u32 (x.Tag.toNat : Int), v4] ∧ IsSlice H RU8 1 v4 x.Data
theorem R_Part.mono : R_Part.Mono := fun _ _ _ _ hle ⟨v4, e, h4⟩ => ⟨v4, e, h4.mono RU8.mono hle⟩
theorem R_Part.one : R_Part.One := fun _ _ _ ⟨v4, e, h4⟩ => by
  subst e; intro u hu; simp only [List.mem_cons, List.not_mem_nil, or_false] at hu
  rcases hu with rfl | rfl | rfl | rfl | rfl <;> first | rfl | exact h4.one1

def R_Stream : Rep Stream := fun H cs x => ∃ v2 v3 v4 : Value, cs = [.int .u32 (x.Guid.toNat : Int), .int .u32 (x.Base.toNat : Int), v2, v3, v4] ∧ IsSlice H RU8 1 v2 x.Key ∧ IsSlice H R_Part 5 v3 x.Parts ∧ IsSlice H RU8 1 v4 x.Sign
theorem R_Stream.mono : R_Stream.Mono := fun _ _ _ _ hle ⟨v2, v3, v4, e, h2, h3, h4⟩ => ⟨v2, v3, v4, e, h2.mono RU8.mono hle, h3.mono R_Part.mono hle, h4.mono RU8.mono hle⟩
theorem R_Stream.one : R_Stream.One := fun _ _ _ ⟨v2, v3, v4, e, h2, h3, h4⟩ => by
  subst e; intro u hu; simp only [List.mem_cons, List.not_mem_nil, or_false] at hu
  rcases hu with rfl | rfl | rfl | rfl | rfl <;> first | rfl | exact h2.one1 | exact h3.one1 | exact h4.one1

def R_Deed : Rep Deed := fun H cs x => ∃ v11 v12 : Value, cs = [.int .u8 (x.Kind.toNat : Int), .int .i64 x.At, .int .i64 x.A, .int .i64 x.B, .int .u8 (x.Call.Kind.toNat : Int), .int .i64 x.Call.A, .int .i64 x.Call.B, .int .i64 x.Call.C, .string (bs x.Call.Name), .string (bs x.Call.As), .string (bs x.Call.Text), v11, v12] ∧ IsSlice H RU8 1 v11 x.Call.Data ∧ IsSlice H RBool 1 v12 x.Keep
theorem R_Deed.mono : R_Deed.Mono := fun _ _ _ _ hle ⟨v11, v12, e, h11, h12⟩ => ⟨v11, v12, e, h11.mono RU8.mono hle, h12.mono RBool.mono hle⟩
theorem R_Deed.one : R_Deed.One := fun _ _ _ ⟨v11, v12, e, h11, h12⟩ => by
  subst e; intro u hu; simp only [List.mem_cons, List.not_mem_nil, or_false] at hu
  rcases hu with rfl | rfl | rfl | rfl | rfl | rfl | rfl | rfl | rfl | rfl | rfl | rfl | rfl <;> first | rfl | exact h11.one1 | exact h12.one1

def R_Pair : Rep Pair := fun H cs x => ∃ v0 v1 v2 : Value, cs = [v0, v1, v2, .int .i64 x.Signer.Spent] ∧ IsSlice H R_Pool 19 v0 x.Pools ∧ IsSlice H RU8 1 v1 x.Stream ∧ IsSlice H RU8 1 v2 x.Signer.Seed
theorem R_Pair.mono : R_Pair.Mono := fun _ _ _ _ hle ⟨v0, v1, v2, e, h0, h1, h2⟩ => ⟨v0, v1, v2, e, h0.mono R_Pool.mono hle, h1.mono RU8.mono hle, h2.mono RU8.mono hle⟩
theorem R_Pair.one : R_Pair.One := fun _ _ _ ⟨v0, v1, v2, e, h0, h1, h2⟩ => by
  subst e; intro u hu; simp only [List.mem_cons, List.not_mem_nil, or_false] at hu
  rcases hu with rfl | rfl | rfl | rfl <;> first | rfl | exact h0.one1 | exact h1.one1 | exact h2.one1

end Go.Ow
