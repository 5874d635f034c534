/-
  What is proved here: what operations on unsigned integers yield, told by the types UInt8, UInt32, UInt64. Printed by mku.py.
-/
import Derived.Test.YtdelcjkjkhcaoaaOwN
namespace Go.Ow
open Go.RowKit
set_option linter.unusedVariables false
set_option linter.unusedSimpArgs false
variable {x : Cx} {l : Slots} {own : List Own} {H : Heaplet} {ty : TypeId} {p q : Operand} {t u : TypeId}

theorem wrapU8 (n : Int) : IntKind.u8.wrap n = n % 256 := by simp [IntKind.wrap, IntKind.bits, IntKind.signed]
theorem ltU8 (a : UInt8) : a.toNat < 256 := a.toNat_lt
theorem wr_xor8 (a b : UInt8) : IntKind.u8.wrap ((BitVec.ofInt (IntKind.bits .u8) (a.toNat : Int) ^^^ BitVec.ofInt (IntKind.bits .u8) (b.toNat : Int)).toNat : Int) = ((a ^^^ b).toNat : Int) := by
  have h1 := ltU8 (a ^^^ b)
  have e : (BitVec.ofInt (IntKind.bits .u8) (a.toNat : Int) ^^^ BitVec.ofInt (IntKind.bits .u8) (b.toNat : Int)).toNat = (a ^^^ b).toNat := by
    show (BitVec.ofInt 8 (a.toNat : Int) ^^^ BitVec.ofInt 8 (b.toNat : Int)).toNat = _
    rw [BitVec.ofInt_natCast, BitVec.ofInt_natCast, BitVec.toNat_xor, BitVec.toNat_ofNat, BitVec.toNat_ofNat, UInt8.toNat_xor]
    rw [Nat.mod_eq_of_lt (ltU8 a), Nat.mod_eq_of_lt (ltU8 b)]
  rw [e, wrapU8]; omega
theorem R.xor8 {a b : UInt8} (h1 : evo l p = some (.int .u8 ((a).toNat : Int))) (h2 : evo l q = some (.int .u8 ((b).toNat : Int))) : Runs x (.binOp .xor t p q u) ty l own H (.int .u8 ((a ^^^ b).toNat : Int)) :=
  fun ρ w _ _ _ _ hρ hm => by rw [← wr_xor8]; simp [execOp, hρ _ _ h1, hρ _ _ h2, eqGuard, binOp, Op.intBits, go_sem]
theorem R.gtr8 {a b : UInt8} (h1 : evo l p = some (.int .u8 ((a).toNat : Int))) (h2 : evo l q = some (.int .u8 ((b).toNat : Int))) : Runs x (.binOp .gtr t p q u) ty l own H (.bool (decide (b < a))) :=
  fun ρ w _ _ _ _ hρ hm => by simp [execOp, hρ _ _ h1, hρ _ _ h2, eqGuard, binOp, Op.intCmp, go_sem, UInt8.lt_iff_toNat_lt]
theorem R.eql8 {a b : UInt8} (h1 : evo l p = some (.int .u8 ((a).toNat : Int))) (h2 : evo l q = some (.int .u8 ((b).toNat : Int))) : Runs x (.binOp .eql t p q u) ty l own H (.bool (decide (a = b))) :=
  fun ρ w _ _ _ _ hρ hm => by simp [execOp, hρ _ _ h1, hρ _ _ h2, eqGuard, binOp, Op.intCmp, go_sem, ← UInt8.toNat_inj]; rw [Bool.eq_iff_iff]; simp; omega
theorem wrapU32 (n : Int) : IntKind.u32.wrap n = n % 4294967296 := by simp [IntKind.wrap, IntKind.bits, IntKind.signed]
theorem ltU32 (a : UInt32) : a.toNat < 4294967296 := a.toNat_lt
theorem wr_add32 (a b : UInt32) : IntKind.u32.wrap ((a.toNat : Int) + (b.toNat : Int)) = ((a + b).toNat : Int) := by
  rw [wrapU32, UInt32.toNat_add]; omega
theorem R.add32 {a b : UInt32} (h1 : evo l p = some (.int .u32 ((a).toNat : Int))) (h2 : evo l q = some (.int .u32 ((b).toNat : Int))) : Runs x (.binOp .add t p q u) ty l own H (.int .u32 ((a + b).toNat : Int)) :=
  fun ρ w _ _ _ _ hρ hm => by rw [← wr_add32]; simp [execOp, hρ _ _ h1, hρ _ _ h2, eqGuard, binOp, Op.intArith, go_sem]
theorem wr_xor32 (a b : UInt32) : IntKind.u32.wrap ((BitVec.ofInt (IntKind.bits .u32) (a.toNat : Int) ^^^ BitVec.ofInt (IntKind.bits .u32) (b.toNat : Int)).toNat : Int) = ((a ^^^ b).toNat : Int) := by
  have h1 := ltU32 (a ^^^ b)
  have e : (BitVec.ofInt (IntKind.bits .u32) (a.toNat : Int) ^^^ BitVec.ofInt (IntKind.bits .u32) (b.toNat : Int)).toNat = (a ^^^ b).toNat := by
    show (BitVec.ofInt 32 (a.toNat : Int) ^^^ BitVec.ofInt 32 (b.toNat : Int)).toNat = _
    rw [BitVec.ofInt_natCast, BitVec.ofInt_natCast, BitVec.toNat_xor, BitVec.toNat_ofNat, BitVec.toNat_ofNat, UInt32.toNat_xor]
    rw [Nat.mod_eq_of_lt (ltU32 a), Nat.mod_eq_of_lt (ltU32 b)]
  rw [e, wrapU32]; omega
theorem R.xor32 {a b : UInt32} (h1 : evo l p = some (.int .u32 ((a).toNat : Int))) (h2 : evo l q = some (.int .u32 ((b).toNat : Int))) : Runs x (.binOp .xor t p q u) ty l own H (.int .u32 ((a ^^^ b).toNat : Int)) :=
  fun ρ w _ _ _ _ hρ hm => by rw [← wr_xor32]; simp [execOp, hρ _ _ h1, hρ _ _ h2, eqGuard, binOp, Op.intBits, go_sem]
theorem wr_or32 (a b : UInt32) : IntKind.u32.wrap ((BitVec.ofInt (IntKind.bits .u32) (a.toNat : Int) ||| BitVec.ofInt (IntKind.bits .u32) (b.toNat : Int)).toNat : Int) = ((a ||| b).toNat : Int) := by
  have h1 := ltU32 (a ||| b)
  have e : (BitVec.ofInt (IntKind.bits .u32) (a.toNat : Int) ||| BitVec.ofInt (IntKind.bits .u32) (b.toNat : Int)).toNat = (a ||| b).toNat := by
    show (BitVec.ofInt 32 (a.toNat : Int) ||| BitVec.ofInt 32 (b.toNat : Int)).toNat = _
    rw [BitVec.ofInt_natCast, BitVec.ofInt_natCast, BitVec.toNat_or, BitVec.toNat_ofNat, BitVec.toNat_ofNat, UInt32.toNat_or]
    rw [Nat.mod_eq_of_lt (ltU32 a), Nat.mod_eq_of_lt (ltU32 b)]
  rw [e, wrapU32]; omega
theorem R.or32 {a b : UInt32} (h1 : evo l p = some (.int .u32 ((a).toNat : Int))) (h2 : evo l q = some (.int .u32 ((b).toNat : Int))) : Runs x (.binOp .or t p q u) ty l own H (.int .u32 ((a ||| b).toNat : Int)) :=
  fun ρ w _ _ _ _ hρ hm => by rw [← wr_or32]; simp [execOp, hρ _ _ h1, hρ _ _ h2, eqGuard, binOp, Op.intBits, go_sem]
theorem R.lss32 {a b : UInt32} (h1 : evo l p = some (.int .u32 ((a).toNat : Int))) (h2 : evo l q = some (.int .u32 ((b).toNat : Int))) : Runs x (.binOp .lss t p q u) ty l own H (.bool (decide (a < b))) :=
  fun ρ w _ _ _ _ hρ hm => by simp [execOp, hρ _ _ h1, hρ _ _ h2, eqGuard, binOp, Op.intCmp, go_sem, UInt32.lt_iff_toNat_lt]
theorem R.gtr32 {a b : UInt32} (h1 : evo l p = some (.int .u32 ((a).toNat : Int))) (h2 : evo l q = some (.int .u32 ((b).toNat : Int))) : Runs x (.binOp .gtr t p q u) ty l own H (.bool (decide (b < a))) :=
  fun ρ w _ _ _ _ hρ hm => by simp [execOp, hρ _ _ h1, hρ _ _ h2, eqGuard, binOp, Op.intCmp, go_sem, UInt32.lt_iff_toNat_lt]
theorem R.geq32 {a b : UInt32} (h1 : evo l p = some (.int .u32 ((a).toNat : Int))) (h2 : evo l q = some (.int .u32 ((b).toNat : Int))) : Runs x (.binOp .geq t p q u) ty l own H (.bool (decide (b ≤ a))) :=
  fun ρ w _ _ _ _ hρ hm => by simp [execOp, hρ _ _ h1, hρ _ _ h2, eqGuard, binOp, Op.intCmp, go_sem, UInt32.le_iff_toNat_le]
theorem R.eql32 {a b : UInt32} (h1 : evo l p = some (.int .u32 ((a).toNat : Int))) (h2 : evo l q = some (.int .u32 ((b).toNat : Int))) : Runs x (.binOp .eql t p q u) ty l own H (.bool (decide (a = b))) :=
  fun ρ w _ _ _ _ hρ hm => by simp [execOp, hρ _ _ h1, hρ _ _ h2, eqGuard, binOp, Op.intCmp, go_sem, ← UInt32.toNat_inj]; rw [Bool.eq_iff_iff]; simp; omega
theorem R.neq32 {a b : UInt32} (h1 : evo l p = some (.int .u32 ((a).toNat : Int))) (h2 : evo l q = some (.int .u32 ((b).toNat : Int))) : Runs x (.binOp .neq t p q u) ty l own H (.bool (!decide (a = b))) :=
  fun ρ w _ _ _ _ hρ hm => by simp [execOp, hρ _ _ h1, hρ _ _ h2, eqGuard, binOp, Op.intCmp, go_sem, ← UInt32.toNat_inj]; rw [Bool.eq_iff_iff]; simp; omega
theorem R.shl32 {a : UInt32} {n : Int} {k' : IntKind} (h1 : evo l p = some (.int .u32 ((a).toNat : Int))) (h2 : evo l q = some (.int k' n)) (h0 : 0 ≤ n) : Runs x (.binOp .shl t p q u) ty l own H (.int .u32 ((sl32 a n.toNat).toNat : Int)) := by
  have e : IntKind.u32.wrap ((a.toNat : Int) * 2 ^ (min n.toNat 32)) = ((sl32 a n.toNat).toNat : Int) := by
    rw [wrapU32, sl32, UInt32.toNat_ofNat', show ((2 : Int) ^ (min n.toNat 32)) = ((2 ^ (min n.toNat 32) : Nat) : Int) by simp, ← Int.natCast_mul]; omega
  exact fun ρ w _ _ _ _ hρ hm => by rw [← e]; simp [execOp, hρ _ _ h1, hρ _ _ h2, eqGuard, binOp, Op.shift, IntKind.bits, show ¬ n < 0 by omega, go_sem]
theorem R.shr32 {a : UInt32} {n : Int} {k' : IntKind} (h1 : evo l p = some (.int .u32 ((a).toNat : Int))) (h2 : evo l q = some (.int k' n)) (h0 : 0 ≤ n) : Runs x (.binOp .shr t p q u) ty l own H (.int .u32 ((sr32 a n.toNat).toNat : Int)) := by
  have e : ((a.toNat : Int).fdiv (2 ^ (min n.toNat 32))) = ((sr32 a n.toNat).toNat : Int) := by
    rw [sr32, UInt32.toNat_ofNat', show ((2 : Int) ^ (min n.toNat 32)) = ((2 ^ (min n.toNat 32) : Nat) : Int) by simp, ← Int.ofNat_fdiv]; have h1 := ltU32 a; have := Nat.div_le_self a.toNat (2 ^ (min n.toNat 32)); rw [Nat.mod_eq_of_lt (by omega)]
  exact fun ρ w _ _ _ _ hρ hm => by rw [← e]; simp [execOp, hρ _ _ h1, hρ _ _ h2, eqGuard, binOp, Op.shift, IntKind.bits, show ¬ n < 0 by omega, go_sem]
theorem wrapU64 (n : Int) : IntKind.u64.wrap n = n % 18446744073709551616 := by simp [IntKind.wrap, IntKind.bits, IntKind.signed]
theorem ltU64 (a : UInt64) : a.toNat < 18446744073709551616 := a.toNat_lt
theorem wr_add64 (a b : UInt64) : IntKind.u64.wrap ((a.toNat : Int) + (b.toNat : Int)) = ((a + b).toNat : Int) := by
  rw [wrapU64, UInt64.toNat_add]; omega
theorem R.add64 {a b : UInt64} (h1 : evo l p = some (.int .u64 ((a).toNat : Int))) (h2 : evo l q = some (.int .u64 ((b).toNat : Int))) : Runs x (.binOp .add t p q u) ty l own H (.int .u64 ((a + b).toNat : Int)) :=
  fun ρ w _ _ _ _ hρ hm => by rw [← wr_add64]; simp [execOp, hρ _ _ h1, hρ _ _ h2, eqGuard, binOp, Op.intArith, go_sem]
theorem wr_sub64 (a b : UInt64) : IntKind.u64.wrap ((a.toNat : Int) - (b.toNat : Int)) = ((a - b).toNat : Int) := by
  have h1 := ltU64 a; have h2 := ltU64 b
  rw [wrapU64, UInt64.toNat_sub]; omega
theorem R.sub64 {a b : UInt64} (h1 : evo l p = some (.int .u64 ((a).toNat : Int))) (h2 : evo l q = some (.int .u64 ((b).toNat : Int))) : Runs x (.binOp .sub t p q u) ty l own H (.int .u64 ((a - b).toNat : Int)) :=
  fun ρ w _ _ _ _ hρ hm => by rw [← wr_sub64]; simp [execOp, hρ _ _ h1, hρ _ _ h2, eqGuard, binOp, Op.intArith, go_sem]
theorem wr_mul64 (a b : UInt64) : IntKind.u64.wrap ((a.toNat : Int) * (b.toNat : Int)) = ((a * b).toNat : Int) := by
  rw [wrapU64, UInt64.toNat_mul, ← Int.natCast_mul]; omega
theorem R.mul64 {a b : UInt64} (h1 : evo l p = some (.int .u64 ((a).toNat : Int))) (h2 : evo l q = some (.int .u64 ((b).toNat : Int))) : Runs x (.binOp .mul t p q u) ty l own H (.int .u64 ((a * b).toNat : Int)) :=
  fun ρ w _ _ _ _ hρ hm => by rw [← wr_mul64]; simp [execOp, hρ _ _ h1, hρ _ _ h2, eqGuard, binOp, Op.intArith, go_sem]
theorem wr_and64 (a b : UInt64) : IntKind.u64.wrap ((BitVec.ofInt (IntKind.bits .u64) (a.toNat : Int) &&& BitVec.ofInt (IntKind.bits .u64) (b.toNat : Int)).toNat : Int) = ((a &&& b).toNat : Int) := by
  have h1 := ltU64 (a &&& b)
  have e : (BitVec.ofInt (IntKind.bits .u64) (a.toNat : Int) &&& BitVec.ofInt (IntKind.bits .u64) (b.toNat : Int)).toNat = (a &&& b).toNat := by
    show (BitVec.ofInt 64 (a.toNat : Int) &&& BitVec.ofInt 64 (b.toNat : Int)).toNat = _
    rw [BitVec.ofInt_natCast, BitVec.ofInt_natCast, BitVec.toNat_and, BitVec.toNat_ofNat, BitVec.toNat_ofNat, UInt64.toNat_and]
    rw [Nat.mod_eq_of_lt (ltU64 a), Nat.mod_eq_of_lt (ltU64 b)]
  rw [e, wrapU64]; omega
theorem R.and64 {a b : UInt64} (h1 : evo l p = some (.int .u64 ((a).toNat : Int))) (h2 : evo l q = some (.int .u64 ((b).toNat : Int))) : Runs x (.binOp .and t p q u) ty l own H (.int .u64 ((a &&& b).toNat : Int)) :=
  fun ρ w _ _ _ _ hρ hm => by rw [← wr_and64]; simp [execOp, hρ _ _ h1, hρ _ _ h2, eqGuard, binOp, Op.intBits, go_sem]
theorem R.lss64 {a b : UInt64} (h1 : evo l p = some (.int .u64 ((a).toNat : Int))) (h2 : evo l q = some (.int .u64 ((b).toNat : Int))) : Runs x (.binOp .lss t p q u) ty l own H (.bool (decide (a < b))) :=
  fun ρ w _ _ _ _ hρ hm => by simp [execOp, hρ _ _ h1, hρ _ _ h2, eqGuard, binOp, Op.intCmp, go_sem, UInt64.lt_iff_toNat_lt]
theorem R.gtr64 {a b : UInt64} (h1 : evo l p = some (.int .u64 ((a).toNat : Int))) (h2 : evo l q = some (.int .u64 ((b).toNat : Int))) : Runs x (.binOp .gtr t p q u) ty l own H (.bool (decide (b < a))) :=
  fun ρ w _ _ _ _ hρ hm => by simp [execOp, hρ _ _ h1, hρ _ _ h2, eqGuard, binOp, Op.intCmp, go_sem, UInt64.lt_iff_toNat_lt]
theorem R.shr64 {a : UInt64} {n : Int} {k' : IntKind} (h1 : evo l p = some (.int .u64 ((a).toNat : Int))) (h2 : evo l q = some (.int k' n)) (h0 : 0 ≤ n) : Runs x (.binOp .shr t p q u) ty l own H (.int .u64 ((sr64 a n.toNat).toNat : Int)) := by
  have e : ((a.toNat : Int).fdiv (2 ^ (min n.toNat 64))) = ((sr64 a n.toNat).toNat : Int) := by
    rw [sr64, UInt64.toNat_ofNat', show ((2 : Int) ^ (min n.toNat 64)) = ((2 ^ (min n.toNat 64) : Nat) : Int) by simp, ← Int.ofNat_fdiv]; have h1 := ltU64 a; have := Nat.div_le_self a.toNat (2 ^ (min n.toNat 64)); rw [Nat.mod_eq_of_lt (by omega)]
  exact fun ρ w _ _ _ _ hρ hm => by rw [← e]; simp [execOp, hρ _ _ h1, hρ _ _ h2, eqGuard, binOp, Op.shift, IntKind.bits, show ¬ n < 0 by omega, go_sem]
theorem wr_u8i (n : Int) : IntKind.u8.wrap n = ((u8i n).toNat : Int) := by rw [wrapU8, u8i, UInt8.toNat_ofNat']; omega
theorem R.cv_i64_u8 {s : TypeId} {ds : TypeDesc} {k : IntKind} {m : Int} (hs : x.P.underlying s = some ds) (ht : x.P.underlying t = some (.int .u8)) (h1 : evo l p = some (.int k m)) : Runs x (.convert s t p) ty l own H (.int .u8 ((u8i m).toNat : Int)) := by
  rw [← wr_u8i]; exact R.convW hs ht h1
theorem R.cv_u8_i64 {s : TypeId} {ds : TypeDesc} {a : UInt8} (hs : x.P.underlying s = some ds) (ht : x.P.underlying t = some (.int .i64)) (h1 : evo l p = some (.int .u8 (a.toNat : Int))) : Runs x (.convert s t p) ty l own H (.int .i64 (a.toNat : Int)) := by
  have e : IntKind.i64.wrap (a.toNat : Int) = (a.toNat : Int) := wi64 (by omega) (by have := ltU8 a; omega)
  have := R.convW (x := x) (own := own) (H := H) (ty := ty) hs ht h1; rw [e] at this; exact this
theorem wr_u32i (n : Int) : IntKind.u32.wrap n = ((u32i n).toNat : Int) := by rw [wrapU32, u32i, UInt32.toNat_ofNat']; omega
theorem R.cv_i64_u32 {s : TypeId} {ds : TypeDesc} {k : IntKind} {m : Int} (hs : x.P.underlying s = some ds) (ht : x.P.underlying t = some (.int .u32)) (h1 : evo l p = some (.int k m)) : Runs x (.convert s t p) ty l own H (.int .u32 ((u32i m).toNat : Int)) := by
  rw [← wr_u32i]; exact R.convW hs ht h1
theorem R.cv_u32_i64 {s : TypeId} {ds : TypeDesc} {a : UInt32} (hs : x.P.underlying s = some ds) (ht : x.P.underlying t = some (.int .i64)) (h1 : evo l p = some (.int .u32 (a.toNat : Int))) : Runs x (.convert s t p) ty l own H (.int .i64 (a.toNat : Int)) := by
  have e : IntKind.i64.wrap (a.toNat : Int) = (a.toNat : Int) := wi64 (by omega) (by have := ltU32 a; omega)
  have := R.convW (x := x) (own := own) (H := H) (ty := ty) hs ht h1; rw [e] at this; exact this
theorem wr_u64i (n : Int) : IntKind.u64.wrap n = ((u64i n).toNat : Int) := by rw [wrapU64, u64i, UInt64.toNat_ofNat']; omega
theorem R.cv_i64_u64 {s : TypeId} {ds : TypeDesc} {k : IntKind} {m : Int} (hs : x.P.underlying s = some ds) (ht : x.P.underlying t = some (.int .u64)) (h1 : evo l p = some (.int k m)) : Runs x (.convert s t p) ty l own H (.int .u64 ((u64i m).toNat : Int)) := by
  rw [← wr_u64i]; exact R.convW hs ht h1
theorem R.cv_u64_i64 {s : TypeId} {ds : TypeDesc} {a : UInt64} (hs : x.P.underlying s = some ds) (ht : x.P.underlying t = some (.int .i64)) (h1 : evo l p = some (.int .u64 (a.toNat : Int))) : Runs x (.convert s t p) ty l own H (.int .i64 (w64 (a.toNat : Int))) := by
  rw [← wrap_w64]; exact R.convW hs ht h1
end Go.Ow
