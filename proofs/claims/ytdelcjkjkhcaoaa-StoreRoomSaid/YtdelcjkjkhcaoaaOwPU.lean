/-
  The plain functions that stand for operations on integers.
-/
import Derived.Test.YtdelcjkjkhcaoaaOwP
namespace Go.Ow
set_option linter.unusedVariables false
set_option linter.unusedSimpArgs false

def sli (m n : Int) : Int := w64 (m * 2 ^ (min n.toNat 64))
def and64 (m n : Int) : Int := w64 ((BitVec.ofInt 64 m &&& BitVec.ofInt 64 n).toNat : Int)
def sl32 (a : UInt32) (n : Nat) : UInt32 := UInt32.ofNat (a.toNat * 2 ^ (min n 32))
def sr32 (a : UInt32) (n : Nat) : UInt32 := UInt32.ofNat (a.toNat / 2 ^ (min n 32))
def sr64 (a : UInt64) (n : Nat) : UInt64 := UInt64.ofNat (a.toNat / 2 ^ (min n 64))
def u8i (n : Int) : UInt8 := UInt8.ofNat (n % 256).toNat
def u32i (n : Int) : UInt32 := UInt32.ofNat (n % 4294967296).toNat
def u64i (n : Int) : UInt64 := UInt64.ofNat (n % 18446744073709551616).toNat
end Go.Ow
