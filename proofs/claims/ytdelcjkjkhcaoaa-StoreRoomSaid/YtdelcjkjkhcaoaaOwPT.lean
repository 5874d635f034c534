/-
  Plain structures for the data of the program. Printed by mkt.py.
-/
import Derived.Test.YtdelcjkjkhcaoaaOwP
namespace Go.Ow

structure Write where
  At : Int
  Data : List UInt8
instance : Inhabited Write := ⟨⟨default, default⟩⟩
structure Disk where
  Blocks : List (List UInt8)
  Waits : List Write
instance : Inhabited Disk := ⟨⟨default, default⟩⟩
structure Ptr where
  At : Int
  Birth : UInt32
  Iv : UInt32
  Tag : UInt32
  Sum : UInt32
instance : Inhabited Ptr := ⟨⟨default, default, default, default, default⟩⟩
structure Label where
  Gen : UInt32
  Epoch : UInt32
  Root : Ptr
instance : Inhabited Label := ⟨⟨default, default, default⟩⟩
structure Object where
  Kind : UInt8
  Links : Int
  Size : Int
  Data : List Ptr
instance : Inhabited Object := ⟨⟨default, default, default, default⟩⟩
structure Line where
  Id : Int
  Kind : UInt8
  Owner : Int
  Prev : Int
  Txg : UInt32
  Guid : UInt32
  Key : Int
  Root : Ptr
  Dead : List Ptr
instance : Inhabited Line := ⟨⟨default, default, default, default, default, default, default, default, default⟩⟩
structure Store where
  Disk : Disk
  Space : List UInt8
  Epoch : UInt32
  Count : UInt32
instance : Inhabited Store := ⟨⟨default, default, default, default⟩⟩
structure Change where
  Set : Int
  Obj : Int
  Index : Int
  Kind : UInt8
  Links : Int
  Size : Int
  Data : List UInt8
  Laid : Ptr
instance : Inhabited Change := ⟨⟨default, default, default, default, default, default, default, default⟩⟩
structure Pool where
  Store : Store
  Gen : UInt32
  Root : Ptr
  MetaL : List Int
  Lines : List Line
  Keys : List (List UInt8)
  Loaded : List (List UInt8)
  Changes : List Change
  Logged : Int
  NextId : Int
  NextGuid : UInt32
instance : Inhabited Pool := ⟨⟨default, default, default, default, default, default, default, default, default, default, default⟩⟩
structure Signer where
  Seed : List UInt8
  Spent : Int
instance : Inhabited Signer := ⟨⟨default, default⟩⟩
structure Entry where
  Name : List UInt8
  Obj : Int
instance : Inhabited Entry := ⟨⟨default, default⟩⟩
structure Info where
  Obj : Int
  Kind : UInt8
  Links : Int
  Size : Int
  To : List UInt8
instance : Inhabited Info := ⟨⟨default, default, default, default, default⟩⟩
structure Call where
  Kind : UInt8
  A : Int
  B : Int
  C : Int
  Name : List UInt8
  As : List UInt8
  Text : List UInt8
  Data : List UInt8
instance : Inhabited Call := ⟨⟨default, default, default, default, default, default, default, default⟩⟩
structure Reply where
  Error : Int
  Id : Int
  Data : List UInt8
  Names : List (List UInt8)
  Info : Info
  Lines : List Int
instance : Inhabited Reply := ⟨⟨default, default, default, default, default, default⟩⟩
structure Part where
  Obj : Int
  Index : Int
  Iv : UInt32
  Tag : UInt32
  Data : List UInt8
instance : Inhabited Part := ⟨⟨default, default, default, default, default⟩⟩
structure Stream where
  Guid : UInt32
  Base : UInt32
  Key : List UInt8
  Parts : List Part
  Sign : List UInt8
instance : Inhabited Stream := ⟨⟨default, default, default, default, default⟩⟩
structure Deed where
  Kind : UInt8
  At : Int
  A : Int
  B : Int
  Call : Call
  Keep : List Bool
instance : Inhabited Deed := ⟨⟨default, default, default, default, default, default⟩⟩
structure Pair where
  Pools : List Pool
  Stream : List UInt8
  Signer : Signer
instance : Inhabited Pair := ⟨⟨default, default, default⟩⟩
end Go.Ow
