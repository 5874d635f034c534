/- walks. -/
import Derived.Test.YtbdmdhfphnklbaaT2
import Derived.Test.YtbdmdhfphnklbaaOwPdead
import Derived.Test.YtbdmdhfphnklbaaOwSo
import Derived.Test.YtbdmdhfphnklbaaS4
import Derived.Test.YtbdmdhfphnklbaaOwPdeadq
namespace Go.Proofs.Ytbdmdhfphnklbaa
open Go.Ow Go.RowKit Go.Proofs
set_option linter.unusedVariables false
set_option linter.unusedSimpArgs false
set_option maxHeartbeats 1000000 in
theorem law16_at_ok (p_1 : Int) (p_2 : UInt32) (H : Heaplet) (r : Ptr) (hx : law16_at p_1 p_2 = some r) :
    Does Try.prog 19 #[.int .i64 p_1, .int .u32 (p_2.toNat : Int)] [] H (fun u K' H' => u = .agg #[.int .i64 r.At, .int .u32 (r.Birth.toNat : Int), .int .u32 (r.Iv.toNat : Int), .int .u32 (r.Tag.toNat : Int), .int .u32 (r.Sum.toNat : Int)] ∧ K' = [] ∧ H = H' ∧ True) := by
  refine Does.enterL (vs := [.int .i64 p_1, .int .u32 (p_2.toNat : Int)]) (l := [(0, .int .i64 p_1), (1, .int .u32 (p_2.toNat : Int))]) Try.func19 rfl rfl ⟨rfl, rfl, trivial⟩ (fun w hlt => ?_)
  rw [law16_at.eq_1] at hx
  refine JC.seq ?_
  refine JC.region ?_
  refine JL.alloc Z32 rfl (fun b_3 hb_3 => ?_)
  refine JL.nil ?_
  refine JN.next ?_
  refine JC.seq ?_
  refine JC.region ?_
  refine JL.val rfl rfl (R.move rfl) ?_
  refine JL.val rfl rfl (R.move rfl) ?_
  refine JL.val rfl rfl (R.bld (vs := [(0, .int .i64 p_1), (1, .int .u32 (p_2.toNat : Int))]) (cells := #[.int .i64 p_1, .int .u32 (p_2.toNat : Int), .int .u32 ((0 : UInt32).toNat : Int), .int .u32 ((0 : UInt32).toNat : Int), .int .u32 ((0 : UInt32).toNat : Int)]) Z32 B32 rfl rfl) ?_
  refine JL.store 0 S32 rfl rfl rfl rfl rfl (Nat.le_of_ble_eq_true rfl) ?_
  refine JL.nil ?_
  refine JN.next ?_
  refine JC.ret ?_
  refine JN.outP (vs := [.agg #[.int .i64 p_1, .int .u32 (p_2.toNat : Int), .int .u32 ((0 : UInt32).toNat : Int), .int .u32 ((0 : UInt32).toNat : Int), .int .u32 ((0 : UInt32).toNat : Int)]]) (K := []) (rst := [_]) (.inl rfl) rfl rfl (Res.cellN 0 rfl rfl S32 rfl) picks0 ?_
  obtain rfl := Option.some.inj hx
  exact ⟨rfl, rfl, rfl, trivial⟩

set_option maxHeartbeats 1000000 in
theorem ptr_Check_ok (p_1 : Ptr) (H : Heaplet) (r : Int) (hx : ptr_Check p_1 = some r) :
    Does Try.prog 26 #[.agg #[.int .i64 p_1.At, .int .u32 (p_1.Birth.toNat : Int), .int .u32 (p_1.Iv.toNat : Int), .int .u32 (p_1.Tag.toNat : Int), .int .u32 (p_1.Sum.toNat : Int)]] [] H (fun u K' H' => u = .int .i64 r ∧ K' = [] ∧ H = H' ∧ True) := by
  refine Does.enterL (vs := [.agg #[.int .i64 p_1.At, .int .u32 (p_1.Birth.toNat : Int), .int .u32 (p_1.Iv.toNat : Int), .int .u32 (p_1.Tag.toNat : Int), .int .u32 (p_1.Sum.toNat : Int)]]) (l := [(0, .agg #[.int .i64 p_1.At, .int .u32 (p_1.Birth.toNat : Int), .int .u32 (p_1.Iv.toNat : Int), .int .u32 (p_1.Tag.toNat : Int), .int .u32 (p_1.Sum.toNat : Int)])]) Try.func26 rfl rfl ⟨rfl, trivial⟩ (fun w hlt => ?_)
  rw [ptr_Check.eq_1] at hx
  refine JC.seq ?_
  refine JC.region ?_
  refine JL.box rfl rfl (fun b_2 hb_2 => ?_)
  refine JL.val rfl rfl (R.assign rfl) ?_
  refine JL.nil ?_
  refine JN.next ?_
  refine JC.seq ?_
  refine JC.seq ?_
  refine JC.region ?_
  refine JL.val rfl rfl (R.ldoN 0 (vs := [.int .i64 p_1.At, .int .u32 (p_1.Birth.toNat : Int), .int .u32 (p_1.Iv.toNat : Int), .int .u32 (p_1.Tag.toNat : Int), .int .u32 (p_1.Sum.toNat : Int)]) S32 rfl rfl rfl rfl) ?_
  refine JL.val rfl rfl (R.bld (vs := []) (cells := #[.int .i64 0, .int .u32 ((0 : UInt32).toNat : Int), .int .u32 ((0 : UInt32).toNat : Int), .int .u32 ((0 : UInt32).toNat : Int), .int .u32 ((0 : UInt32).toNat : Int)]) Z32 B32 rfl rfl) ?_
  refine JL.val rfl rfl (R.eqlAgg QU32 QP32 QG32 QF32 rfl rfl (EqF.i (by decide) S3 U3 rfl rfl (EqF.u32 (a := p_1.Birth) (b := (0 : UInt32)) (by decide) S30 U30 rfl rfl (EqF.u32 (a := p_1.Iv) (b := (0 : UInt32)) (by decide) S30 U30 rfl rfl (EqF.u32 (a := p_1.Tag) (b := (0 : UInt32)) (by decide) S30 U30 rfl rfl (EqF.u32 (a := p_1.Sum) (b := (0 : UInt32)) (by decide) S30 U30 rfl rfl EqF.nil)))))) ?_
  refine JL.nil ?_
  refine JN.next ?_
  refine JC.condB rfl (fun c_3 => ?_) (fun c_3 => ?_)
  · replace hx := cond_t c_3 hx
    refine JC.seq ?_
    refine JC.region ?_
    refine JL.val rfl rfl (R.assign rfl) ?_
    refine JL.nil ?_
    refine JN.next ?_
    refine JC.ret ?_
    refine JN.passR ?_
    refine JN.outP (vs := [.int .i64 0]) (K := []) (rst := [_]) (.inl rfl) rfl rfl (Res.tmp rfl rfl) picks0 ?_
    obtain rfl := Option.some.inj hx
    exact ⟨rfl, rfl, rfl, trivial⟩
  · replace hx := cond_f c_3 hx
    refine JC.skip ?_
    refine JN.next ?_
    refine JC.seq ?_
    refine JC.seq ?_
    refine JC.region ?_
    refine JL.val rfl rfl (R.fa F32_0 rfl) ?_
    refine JL.val rfl rfl (R.ldo 0 S3 rfl rfl rfl) ?_
    refine JL.val rfl rfl (R.lss_i rfl rfl) ?_
    refine JL.val rfl rfl (R.move rfl) ?_
    refine JL.gSplit (t := 9) rfl (fun c_4 => ?_) (fun c_4 => ?_)
    · replace hx := cond_t c_4 hx
      refine JL.gNo rfl rfl rfl rfl rfl ?_
      refine JL.gNo rfl rfl rfl rfl rfl ?_
      refine JL.gNo rfl rfl rfl rfl rfl ?_
      refine JL.val rfl rfl (R.pickT rfl rfl) ?_
      refine JL.val rfl rfl (R.move rfl) ?_
      refine JL.gNo rfl rfl rfl rfl rfl ?_
      refine JL.gNo rfl rfl rfl rfl rfl ?_
      refine JL.gNo rfl rfl rfl rfl rfl ?_
      refine JL.val rfl rfl (R.pickT rfl rfl) ?_
      refine JL.val rfl rfl (R.move rfl) ?_
      refine JL.gNo rfl rfl rfl rfl rfl ?_
      refine JL.gNo rfl rfl rfl rfl rfl ?_
      refine JL.gNo rfl rfl rfl rfl rfl ?_
      refine JL.val rfl rfl (R.pickT rfl rfl) ?_
      refine JL.nil ?_
      refine JN.next ?_
      refine JC.condT rfl ?_
      refine JC.seq ?_
      refine JC.region ?_
      refine JL.val rfl rfl (R.assign rfl) ?_
      refine JL.nil ?_
      refine JN.next ?_
      refine JC.ret ?_
      refine JN.passR ?_
      refine JN.outP (vs := [.int .i64 8]) (K := []) (rst := [_]) (.inl rfl) rfl rfl (Res.tmp rfl rfl) picks0 ?_
      obtain rfl := Option.some.inj hx
      exact ⟨rfl, rfl, rfl, trivial⟩
    · replace hx := cond_f c_4 hx
      refine JL.gYes rfl rfl rfl ?_
      refine JL.val rfl rfl (R.fa F32_0 rfl) ?_
      refine JL.gYes rfl rfl rfl ?_
      refine JL.val rfl rfl (R.ldo 0 S3 rfl rfl rfl) ?_
      refine JL.gYes rfl rfl rfl ?_
      refine JL.val rfl rfl (R.geq_i rfl rfl) ?_
      refine JL.val rfl rfl (R.pickF rfl rfl) ?_
      refine JL.val rfl rfl (R.move rfl) ?_
      refine JL.gSplit (t := 14) rfl (fun c_5 => ?_) (fun c_5 => ?_)
      · replace hx := cond_t c_5 hx
        refine JL.gNo rfl rfl rfl rfl rfl ?_
        refine JL.gNo rfl rfl rfl rfl rfl ?_
        refine JL.gNo rfl rfl rfl rfl rfl ?_
        refine JL.val rfl rfl (R.pickT rfl rfl) ?_
        refine JL.val rfl rfl (R.move rfl) ?_
        refine JL.gNo rfl rfl rfl rfl rfl ?_
        refine JL.gNo rfl rfl rfl rfl rfl ?_
        refine JL.gNo rfl rfl rfl rfl rfl ?_
        refine JL.val rfl rfl (R.pickT rfl rfl) ?_
        refine JL.nil ?_
        refine JN.next ?_
        refine JC.condT rfl ?_
        refine JC.seq ?_
        refine JC.region ?_
        refine JL.val rfl rfl (R.assign rfl) ?_
        refine JL.nil ?_
        refine JN.next ?_
        refine JC.ret ?_
        refine JN.passR ?_
        refine JN.outP (vs := [.int .i64 8]) (K := []) (rst := [_]) (.inl rfl) rfl rfl (Res.tmp rfl rfl) picks0 ?_
        obtain rfl := Option.some.inj hx
        exact ⟨rfl, rfl, rfl, trivial⟩
      · replace hx := cond_f c_5 hx
        refine JL.gYes rfl rfl rfl ?_
        refine JL.val rfl rfl (R.fa F32_1 rfl) ?_
        refine JL.gYes rfl rfl rfl ?_
        refine JL.val rfl rfl (R.ldo 0 S30 rfl rfl rfl) ?_
        refine JL.gYes rfl rfl rfl ?_
        refine JL.val rfl rfl (R.lss32 (a := p_1.Birth) (b := (1 : UInt32)) rfl rfl) ?_
        refine JL.val rfl rfl (R.pickF rfl rfl) ?_
        refine JL.val rfl rfl (R.move rfl) ?_
        refine JL.gSplit (t := 19) rfl (fun c_6 => ?_) (fun c_6 => ?_)
        · replace hx := cond_t c_6 hx
          refine JL.gNo rfl rfl rfl rfl rfl ?_
          refine JL.gNo rfl rfl rfl rfl rfl ?_
          refine JL.gNo rfl rfl rfl rfl rfl ?_
          refine JL.val rfl rfl (R.pickT rfl rfl) ?_
          refine JL.nil ?_
          refine JN.next ?_
          refine JC.condT rfl ?_
          refine JC.seq ?_
          refine JC.region ?_
          refine JL.val rfl rfl (R.assign rfl) ?_
          refine JL.nil ?_
          refine JN.next ?_
          refine JC.ret ?_
          refine JN.passR ?_
          refine JN.outP (vs := [.int .i64 8]) (K := []) (rst := [_]) (.inl rfl) rfl rfl (Res.tmp rfl rfl) picks0 ?_
          obtain rfl := Option.some.inj hx
          exact ⟨rfl, rfl, rfl, trivial⟩
        · replace hx := cond_f c_6 hx
          refine JL.gYes rfl rfl rfl ?_
          refine JL.val rfl rfl (R.fa F32_1 rfl) ?_
          refine JL.gYes rfl rfl rfl ?_
          refine JL.val rfl rfl (R.ldo 0 S30 rfl rfl rfl) ?_
          refine JL.gYes rfl rfl rfl ?_
          refine JL.val rfl rfl (R.gtr32 (a := p_1.Birth) (b := (16777215 : UInt32)) rfl rfl) ?_
          refine JL.val rfl rfl (R.pickF rfl rfl) ?_
          refine JL.nil ?_
          refine JN.next ?_
          refine JC.condB rfl (fun c_7 => ?_) (fun c_7 => ?_)
          · replace hx := cond_t c_7 hx
            refine JC.seq ?_
            refine JC.region ?_
            refine JL.val rfl rfl (R.assign rfl) ?_
            refine JL.nil ?_
            refine JN.next ?_
            refine JC.ret ?_
            refine JN.passR ?_
            refine JN.outP (vs := [.int .i64 8]) (K := []) (rst := [_]) (.inl rfl) rfl rfl (Res.tmp rfl rfl) picks0 ?_
            obtain rfl := Option.some.inj hx
            exact ⟨rfl, rfl, rfl, trivial⟩
          · replace hx := cond_f c_7 hx
            refine JC.skip ?_
            refine JN.next ?_
            refine JC.seq ?_
            refine JC.region ?_
            refine JL.val rfl rfl (R.assign rfl) ?_
            refine JL.nil ?_
            refine JN.next ?_
            refine JC.ret ?_
            refine JN.outP (vs := [.int .i64 0]) (K := []) (rst := [_]) (.inl rfl) rfl rfl (Res.tmp rfl rfl) picks0 ?_
            obtain rfl := Option.some.inj hx
            exact ⟨rfl, rfl, rfl, trivial⟩

set_option maxHeartbeats 1000000 in
theorem cmp_isNaN_int_ok (p_1 : Int) (H : Heaplet) (r : Bool) (hx : cmp_isNaN_int p_1 = some r) :
    Does Try.prog 48 #[.int .i64 p_1] [] H (fun u K' H' => u = .bool r ∧ K' = [] ∧ H = H' ∧ True) := by
  refine Does.enterL (vs := [.int .i64 p_1]) (l := [(0, .int .i64 p_1)]) Try.func48 rfl rfl ⟨rfl, trivial⟩ (fun w hlt => ?_)
  rw [cmp_isNaN_int.eq_1] at hx
  refine JC.seq ?_
  refine JC.region ?_
  refine JL.val rfl rfl (R.assign rfl) ?_
  refine JL.nil ?_
  refine JN.next ?_
  refine JC.seq ?_
  refine JC.region ?_
  refine JL.val rfl rfl (R.move rfl) ?_
  refine JL.val rfl rfl (R.move rfl) ?_
  refine JL.val rfl rfl (R.neq_i rfl rfl) ?_
  refine JL.val rfl rfl (R.assign rfl) ?_
  refine JL.nil ?_
  refine JN.next ?_
  refine JC.ret ?_
  refine JN.outP (vs := [.bool (!decide (p_1 = p_1))]) (K := []) (rst := []) (.inl rfl) rfl rfl (Res.tmp rfl rfl) picks0 ?_
  obtain rfl := Option.some.inj hx
  exact ⟨rfl, rfl, rfl, trivial⟩

set_option maxHeartbeats 1000000 in
theorem cmp_Compare_int_ok (p_1 : Int) (p_2 : Int) (H : Heaplet) (r : Int) (hx : cmp_Compare_int p_1 p_2 = some r) :
    Does Try.prog 35 #[.int .i64 p_1, .int .i64 p_2] [] H (fun u K' H' => u = .int .i64 r ∧ K' = [] ∧ H = H' ∧ True) := by
  refine Does.enterL (vs := [.int .i64 p_1, .int .i64 p_2]) (l := [(0, .int .i64 p_1), (1, .int .i64 p_2)]) Try.func35 rfl rfl ⟨rfl, rfl, trivial⟩ (fun w hlt => ?_)
  rw [cmp_Compare_int.eq_1] at hx
  refine JC.seq ?_
  refine JC.region ?_
  refine JL.val rfl rfl (R.assign rfl) ?_
  refine JL.nil ?_
  refine JN.next ?_
  refine JC.seq ?_
  refine JC.region ?_
  refine JL.val rfl rfl (R.move rfl) ?_
  obtain ⟨x_3, hr_4, hx⟩ := bnd_some hx
  refine JL.callC (vs := [_]) (args := [_]) (K := []) (rst := []) E48 rfl rfl rfl picks0 (cmp_isNaN_int_ok p_1 _ _ hr_4) rfl (fun u_5 Ku_5 Hu_5 hRu_5 hleu_5 hfu_5 => ?_)
  obtain ⟨rfl, rfl, rfl, -⟩ := hRu_5
  refine JL.val rfl rfl (R.assign rfl) ?_
  refine JL.nil ?_
  refine JN.next ?_
  refine JC.seq ?_
  refine JC.region ?_
  refine JL.val rfl rfl (R.move rfl) ?_
  obtain ⟨x_6, hr_7, hx⟩ := bnd_some hx
  refine JL.callC (vs := [_]) (args := [_]) (K := []) (rst := []) E48 rfl rfl rfl picks0 (cmp_isNaN_int_ok p_2 _ _ hr_7) rfl (fun u_8 Ku_8 Hu_8 hRu_8 hleu_8 hfu_8 => ?_)
  obtain ⟨rfl, rfl, rfl, -⟩ := hRu_8
  refine JL.val rfl rfl (R.assign rfl) ?_
  refine JL.nil ?_
  refine JN.next ?_
  refine JC.seq ?_
  refine JC.seq ?_
  refine JC.region ?_
  refine JL.val rfl rfl (R.move rfl) ?_
  refine JL.nil ?_
  refine JN.next ?_
  refine JC.condB rfl (fun c_9 => ?_) (fun c_9 => ?_)
  · replace hx := cond_t c_9 hx
    refine JC.seq ?_
    refine JC.seq ?_
    refine JC.region ?_
    refine JL.val rfl rfl (R.move rfl) ?_
    refine JL.nil ?_
    refine JN.next ?_
    refine JC.condB rfl (fun c_10 => ?_) (fun c_10 => ?_)
    · replace hx := cond_t c_10 hx
      refine JC.seq ?_
      refine JC.region ?_
      refine JL.val rfl rfl (R.assign rfl) ?_
      refine JL.nil ?_
      refine JN.next ?_
      refine JC.ret ?_
      refine JN.passR ?_
      refine JN.passR ?_
      refine JN.outP (vs := [.int .i64 0]) (K := []) (rst := []) (.inl rfl) rfl rfl (Res.tmp rfl rfl) picks0 ?_
      obtain rfl := Option.some.inj hx
      exact ⟨rfl, rfl, rfl, trivial⟩
    · replace hx := cond_f c_10 hx
      refine JC.skip ?_
      refine JN.next ?_
      refine JC.seq ?_
      refine JC.region ?_
      refine JL.val rfl rfl (R.assign rfl) ?_
      refine JL.nil ?_
      refine JN.next ?_
      refine JC.ret ?_
      refine JN.passR ?_
      refine JN.outP (vs := [.int .i64 (-1)]) (K := []) (rst := []) (.inl rfl) rfl rfl (Res.tmp rfl rfl) picks0 ?_
      obtain rfl := Option.some.inj hx
      exact ⟨rfl, rfl, rfl, trivial⟩
  · replace hx := cond_f c_9 hx
    refine JC.skip ?_
    refine JN.next ?_
    refine JC.seq ?_
    refine JC.seq ?_
    refine JC.region ?_
    refine JL.val rfl rfl (R.move rfl) ?_
    refine JL.nil ?_
    refine JN.next ?_
    refine JC.condB rfl (fun c_11 => ?_) (fun c_11 => ?_)
    · replace hx := cond_t c_11 hx
      refine JC.seq ?_
      refine JC.region ?_
      refine JL.val rfl rfl (R.assign rfl) ?_
      refine JL.nil ?_
      refine JN.next ?_
      refine JC.ret ?_
      refine JN.passR ?_
      refine JN.outP (vs := [.int .i64 1]) (K := []) (rst := []) (.inl rfl) rfl rfl (Res.tmp rfl rfl) picks0 ?_
      obtain rfl := Option.some.inj hx
      exact ⟨rfl, rfl, rfl, trivial⟩
    · replace hx := cond_f c_11 hx
      refine JC.skip ?_
      refine JN.next ?_
      refine JC.seq ?_
      refine JC.seq ?_
      refine JC.region ?_
      refine JL.val rfl rfl (R.move rfl) ?_
      refine JL.val rfl rfl (R.move rfl) ?_
      refine JL.val rfl rfl (R.lss_i rfl rfl) ?_
      refine JL.nil ?_
      refine JN.next ?_
      refine JC.condB rfl (fun c_12 => ?_) (fun c_12 => ?_)
      · replace hx := cond_t c_12 hx
        refine JC.seq ?_
        refine JC.region ?_
        refine JL.val rfl rfl (R.assign rfl) ?_
        refine JL.nil ?_
        refine JN.next ?_
        refine JC.ret ?_
        refine JN.passR ?_
        refine JN.outP (vs := [.int .i64 (-1)]) (K := []) (rst := []) (.inl rfl) rfl rfl (Res.tmp rfl rfl) picks0 ?_
        obtain rfl := Option.some.inj hx
        exact ⟨rfl, rfl, rfl, trivial⟩
      · replace hx := cond_f c_12 hx
        refine JC.skip ?_
        refine JN.next ?_
        refine JC.seq ?_
        refine JC.seq ?_
        refine JC.region ?_
        refine JL.val rfl rfl (R.move rfl) ?_
        refine JL.val rfl rfl (R.move rfl) ?_
        refine JL.val rfl rfl (R.gtr_i rfl rfl) ?_
        refine JL.nil ?_
        refine JN.next ?_
        refine JC.condB rfl (fun c_13 => ?_) (fun c_13 => ?_)
        · replace hx := cond_t c_13 hx
          refine JC.seq ?_
          refine JC.region ?_
          refine JL.val rfl rfl (R.assign rfl) ?_
          refine JL.nil ?_
          refine JN.next ?_
          refine JC.ret ?_
          refine JN.passR ?_
          refine JN.outP (vs := [.int .i64 1]) (K := []) (rst := []) (.inl rfl) rfl rfl (Res.tmp rfl rfl) picks0 ?_
          obtain rfl := Option.some.inj hx
          exact ⟨rfl, rfl, rfl, trivial⟩
        · replace hx := cond_f c_13 hx
          refine JC.skip ?_
          refine JN.next ?_
          refine JC.seq ?_
          refine JC.region ?_
          refine JL.val rfl rfl (R.assign rfl) ?_
          refine JL.nil ?_
          refine JN.next ?_
          refine JC.ret ?_
          refine JN.outP (vs := [.int .i64 0]) (K := []) (rst := []) (.inl rfl) rfl rfl (Res.tmp rfl rfl) picks0 ?_
          obtain rfl := Option.some.inj hx
          exact ⟨rfl, rfl, rfl, trivial⟩

set_option maxHeartbeats 1000000 in
theorem dead_order_ok (p_1 : Ptr) (p_2 : Ptr) (H : Heaplet) (r : Int) (hx : dead_order p_1 p_2 = some r) :
    Does Try.prog 22 #[.agg #[.int .i64 p_1.At, .int .u32 (p_1.Birth.toNat : Int), .int .u32 (p_1.Iv.toNat : Int), .int .u32 (p_1.Tag.toNat : Int), .int .u32 (p_1.Sum.toNat : Int)], .agg #[.int .i64 p_2.At, .int .u32 (p_2.Birth.toNat : Int), .int .u32 (p_2.Iv.toNat : Int), .int .u32 (p_2.Tag.toNat : Int), .int .u32 (p_2.Sum.toNat : Int)]] [] H (fun u K' H' => u = .int .i64 r ∧ K' = [] ∧ H = H' ∧ True) := by
  refine Does.enterL (vs := [.agg #[.int .i64 p_1.At, .int .u32 (p_1.Birth.toNat : Int), .int .u32 (p_1.Iv.toNat : Int), .int .u32 (p_1.Tag.toNat : Int), .int .u32 (p_1.Sum.toNat : Int)], .agg #[.int .i64 p_2.At, .int .u32 (p_2.Birth.toNat : Int), .int .u32 (p_2.Iv.toNat : Int), .int .u32 (p_2.Tag.toNat : Int), .int .u32 (p_2.Sum.toNat : Int)]]) (l := [(0, .agg #[.int .i64 p_1.At, .int .u32 (p_1.Birth.toNat : Int), .int .u32 (p_1.Iv.toNat : Int), .int .u32 (p_1.Tag.toNat : Int), .int .u32 (p_1.Sum.toNat : Int)]), (1, .agg #[.int .i64 p_2.At, .int .u32 (p_2.Birth.toNat : Int), .int .u32 (p_2.Iv.toNat : Int), .int .u32 (p_2.Tag.toNat : Int), .int .u32 (p_2.Sum.toNat : Int)])]) Try.func22 rfl rfl ⟨rfl, rfl, trivial⟩ (fun w hlt => ?_)
  rw [dead_order.eq_1] at hx
  refine JC.seq ?_
  refine JC.region ?_
  refine JL.box rfl rfl (fun b_3 hb_3 => ?_)
  refine JL.box rfl rfl (fun b_4 hb_4 => ?_)
  refine JL.val rfl rfl (R.assign rfl) ?_
  refine JL.nil ?_
  refine JN.next ?_
  refine JC.seq ?_
  refine JC.region ?_
  refine JL.val rfl rfl (R.fa F32_0 rfl) ?_
  refine JL.val rfl rfl (R.ldo 1 S3 rfl rfl rfl) ?_
  refine JL.val rfl rfl (R.fa F32_0 rfl) ?_
  refine JL.val rfl rfl (R.ldo 0 S3 rfl rfl rfl) ?_
  obtain ⟨x_5, hr_6, hx⟩ := bnd_some hx
  refine JL.callC (vs := [_, _]) (args := [_, _]) (K := []) (rst := [_, _]) E35 rfl rfl rfl picks0 (cmp_Compare_int_ok p_1.At p_2.At _ _ hr_6) rfl (fun u_7 Ku_7 Hu_7 hRu_7 hleu_7 hfu_7 => ?_)
  obtain ⟨rfl, rfl, rfl, -⟩ := hRu_7
  refine JL.val rfl rfl (R.assign rfl) ?_
  refine JL.nil ?_
  refine JN.next ?_
  refine JC.ret ?_
  refine JN.outP (vs := [.int .i64 x_5]) (K := []) (rst := [_, _]) (.inl rfl) rfl rfl (Res.tmp rfl rfl) picks0 ?_
  obtain rfl := Option.some.inj hx
  exact ⟨rfl, rfl, rfl, trivial⟩

set_option maxHeartbeats 1000000 in
theorem dead_Check_ok (p_1 : List Ptr) (H : Heaplet) {aoa_2 : Option Addr} {na_2 : Nat} {capa_2 : Nat} (ha_2 : IsSlice H R_Ptr 5 (.slice aoa_2 na_2 capa_2) p_1) (r : Int) (hx : dead_Check p_1 = some r) :
    Does Try.prog 10 #[.slice aoa_2 na_2 capa_2] [] H (fun u K' H' => u = .int .i64 r ∧ K' = [] ∧ H = H' ∧ True) := by
  refine Does.enterL (vs := [.slice aoa_2 na_2 capa_2]) (l := [(0, .slice aoa_2 na_2 capa_2)]) Try.func10 rfl rfl ⟨rfl, trivial⟩ (fun w hlt => ?_)
  rw [dead_Check.eq_1] at hx
  refine JC.seq ?_
  refine JC.region ?_
  refine JL.val rfl rfl (R.assign rfl) ?_
  refine JL.nil ?_
  refine JN.next ?_
  refine JC.seq ?_
  refine JC.seq ?_
  refine JC.region ?_
  refine JL.val rfl rfl (R.move rfl) ?_
  refine JL.val rfl rfl (R.lenL U22 rfl (IsSlice.long ha_2)) ?_
  refine JL.val rfl rfl (R.gtr_i rfl rfl) ?_
  refine JL.nil ?_
  refine JN.next ?_
  refine JC.condB rfl (fun c_3 => ?_) (fun c_3 => ?_)
  · replace hx := cond_t c_3 hx
    refine JC.seq ?_
    refine JC.region ?_
    refine JL.val rfl rfl (R.assign rfl) ?_
    refine JL.nil ?_
    refine JN.next ?_
    refine JC.ret ?_
    refine JN.passR ?_
    refine JN.outP (vs := [.int .i64 8]) (K := []) (rst := []) (.inl rfl) rfl rfl (Res.tmp rfl rfl) picks0 ?_
    obtain rfl := Option.some.inj hx
    exact ⟨rfl, rfl, rfl, trivial⟩
  · replace hx := cond_f c_3 hx
    refine JC.skip ?_
    refine JN.next ?_
    refine JC.seq ?_
    refine JC.seq ?_
    refine JC.region ?_
    refine JL.val rfl rfl (R.move rfl) ?_
    refine JL.val rfl rfl (R.lenL U22 rfl (IsSlice.long ha_2)) ?_
    refine JL.val rfl rfl (R.move rfl) ?_
    refine JL.nil ?_
    refine JN.next ?_
    obtain ⟨t_4, ht_6, hx⟩ := bnd_some hx
    refine JC.cut (fun l o g => ∃ t_4a : Unit, l = [] ∧ o = [] ∧ H = g ∧ t_4 = .inl t_4a) ?_ ?_
    · rintro _ _ _ ⟨t_4a, rfl, rfl, rfl, rfl⟩
      simp only [Sum.elim_inl] at hx
      refine JN.next ?_
      refine JC.seq ?_
      refine JC.region ?_
      refine JL.val rfl rfl (R.assign rfl) ?_
      refine JL.nil ?_
      refine JN.next ?_
      refine JC.ret ?_
      refine JN.outP (vs := [.int .i64 0]) (K := []) (rst := []) (.inl rfl) rfl rfl (Res.tmp rfl rfl) picks0 ?_
      obtain rfl := Option.some.inj hx
      exact ⟨rfl, rfl, rfl, trivial⟩
    · have hxo_5 := hx; clear hx; have hx := ht_6; clear ht_6
      refine JC.block ?_
      refine JC.loopI (fun n l o g => ∃ s_7 : Nat, l = [(0, .slice aoa_2 na_2 capa_2), (8, .slice aoa_2 na_2 capa_2), (9, .int .i64 (p_1.length : Int)), (10, .int .i64 ((s_7 : Nat) : Int))] ∧ o = [] ∧ H = g ∧ run (dead_Check_l1 p_1) n s_7 = some t_4) FUEL ?_ ⟨0, rfl, rfl, rfl, hx⟩ ⟨rfl, rfl, rfl, rfl, trivial⟩ ?_
      · rintro _ _ _ ⟨s_7, rfl, rfl, rfl, hn_8⟩
        exact run_zero hn_8
      · rintro n_9 _ _ _ ⟨s_7, rfl, rfl, rfl, hn_8⟩
        clear hx; obtain ⟨oo_11, hx, hd_10⟩ := run_some hn_8
        rw [dead_Check_l1.eq_1] at hx
        refine JC.seq ?_
        refine JC.region ?_
        refine JL.val rfl rfl (R.lss_i rfl rfl) ?_
        refine JL.nil ?_
        refine JN.next ?_
        refine JC.seq ?_
        refine JC.condB rfl (fun c_10 => ?_) (fun c_10 => ?_)
        · replace hx := cond_t c_10 hx
          refine JC.skip ?_
          refine JN.next ?_
          refine JC.seq ?_
          refine JC.block ?_
          refine JC.seq ?_
          refine JC.region ?_
          refine JL.val rfl rfl (R.move rfl) ?_
          obtain ⟨y_11, hN_12, hx⟩ := idx_some hx
          obtain ⟨b_13, o_14, cs_15, hE_16, hR_17, hl_18, hc_19⟩ := IsSlice.elem ha_2 hN_12
          obtain rfl := hR_17
          refine JL.val rfl rfl (R.ix U22 S32 rfl rfl hE_16) ?_
          refine JL.val rfl rfl (R.ldHE (cs := [.int .i64 y_11.At, .int .u32 (y_11.Birth.toNat : Int), .int .u32 (y_11.Iv.toNat : Int), .int .u32 (y_11.Tag.toNat : Int), .int .u32 (y_11.Sum.toNat : Int)]) (k := 0) (vs := [.int .i64 y_11.At, .int .u32 (y_11.Birth.toNat : Int), .int .u32 (y_11.Iv.toNat : Int), .int .u32 (y_11.Tag.toNat : Int), .int .u32 (y_11.Sum.toNat : Int)]) S32 rfl hc_19 rfl rfl) ?_
          refine JL.alloc Z32 rfl (fun b_20 hb_20 => ?_)
          refine JL.val rfl rfl (R.assign rfl) ?_
          refine JL.store 0 S32 rfl rfl rfl rfl rfl (Nat.le_of_ble_eq_true rfl) ?_
          refine JL.nil ?_
          refine JN.next ?_
          refine JC.seq ?_
          refine JC.draw (so := [_]) 22 rfl Mixed ⟨⟨0, rfl⟩, trivial⟩ ?_
          refine JA.val ⟨by kernel_rfl, by kernel_rfl⟩ (calm_only _) (i := 0) rfl ⟨by kernel_rfl, by kernel_rfl, rfl⟩ trivial (stab_of (Hle.refl _) ⟨⟨0, rfl⟩, trivial⟩) (R.ldoN 0 (vs := [.int .i64 y_11.At, .int .u32 (y_11.Birth.toNat : Int), .int .u32 (y_11.Iv.toNat : Int), .int .u32 (y_11.Tag.toNat : Int), .int .u32 (y_11.Sum.toNat : Int)]) S32 rfl rfl rfl rfl) rfl ?_
          refine JA.one (i := 1) (by kernel_rfl) ?_
          refine JO.step rfl trivial rfl (fun K hK => ?_)
          refine JL.val rfl rfl (R.bld (vs := []) (cells := #[.int .i64 0, .int .u32 ((0 : UInt32).toNat : Int), .int .u32 ((0 : UInt32).toNat : Int), .int .u32 ((0 : UInt32).toNat : Int), .int .u32 ((0 : UInt32).toNat : Int)]) Z32 B32 rfl rfl) ?_
          refine JL.nil ?_
          refine hK _ _ _ (stab_of (Hle.refl _) ⟨⟨0, rfl⟩, trivial⟩) ?_
          refine JA.val ⟨by kernel_rfl, by kernel_rfl⟩ (calm_only _) (i := 2) rfl ⟨by kernel_rfl, by kernel_rfl, rfl⟩ trivial (stab_of (Hle.refl _) ⟨⟨0, rfl⟩, trivial⟩) (R.eqlAgg QU32 QP32 QG32 QF32 rfl rfl (EqF.i (by decide) S3 U3 rfl rfl (EqF.u32 (a := y_11.Birth) (b := (0 : UInt32)) (by decide) S30 U30 rfl rfl (EqF.u32 (a := y_11.Iv) (b := (0 : UInt32)) (by decide) S30 U30 rfl rfl (EqF.u32 (a := y_11.Tag) (b := (0 : UInt32)) (by decide) S30 U30 rfl rfl (EqF.u32 (a := y_11.Sum) (b := (0 : UInt32)) (by decide) S30 U30 rfl rfl EqF.nil)))))) rfl ?_
          refine JA.val ⟨by kernel_rfl, by kernel_rfl⟩ (calm_only _) (i := 3) rfl ⟨by kernel_rfl, by kernel_rfl, rfl⟩ trivial (stab_of (Hle.refl _) ⟨⟨0, rfl⟩, trivial⟩) (R.move rfl) rfl ?_
          refine JA.gSplit (t := 18) rfl (fun c_21 => ?_) (fun c_21 => ?_)
          · replace hx := cond_t c_21 hx
            refine JA.no ⟨by kernel_rfl, by kernel_rfl⟩ (calm_only _) (i := 4) rfl ⟨by kernel_rfl, by kernel_rfl, rfl⟩ rfl rfl rfl rfl (stab_of (Hle.refl _) ⟨⟨0, rfl⟩, trivial⟩) rfl ?_
            refine JA.no ⟨by kernel_rfl, by kernel_rfl⟩ (calm_only _) (i := 5) rfl ⟨by kernel_rfl, by kernel_rfl, rfl⟩ rfl rfl rfl rfl (stab_of (Hle.refl _) ⟨⟨0, rfl⟩, trivial⟩) rfl ?_
            refine JA.no ⟨by kernel_rfl, by kernel_rfl⟩ (calm_only _) (i := 6) rfl ⟨by kernel_rfl, by kernel_rfl, rfl⟩ rfl rfl rfl rfl (stab_of (Hle.refl _) ⟨⟨0, rfl⟩, trivial⟩) rfl ?_
            refine JA.val ⟨by kernel_rfl, by kernel_rfl⟩ (calm_only _) (i := 7) rfl ⟨by kernel_rfl, by kernel_rfl, rfl⟩ trivial (stab_of (Hle.refl _) ⟨⟨0, rfl⟩, trivial⟩) (R.pickT rfl rfl) rfl ?_
            refine JA.val ⟨by kernel_rfl, by kernel_rfl⟩ (calm_only _) (i := 8) rfl ⟨by kernel_rfl, by kernel_rfl, rfl⟩ trivial (stab_of (Hle.refl _) ⟨⟨0, rfl⟩, trivial⟩) (R.move rfl) rfl ?_
            refine JA.no ⟨by kernel_rfl, by kernel_rfl⟩ (calm_only _) (i := 9) rfl ⟨by kernel_rfl, by kernel_rfl, rfl⟩ rfl rfl rfl rfl (stab_of (Hle.refl _) ⟨⟨0, rfl⟩, trivial⟩) rfl ?_
            refine JA.no ⟨by kernel_rfl, by kernel_rfl⟩ (calm_only _) (i := 10) rfl ⟨by kernel_rfl, by kernel_rfl, rfl⟩ rfl rfl rfl rfl (stab_of (Hle.refl _) ⟨⟨0, rfl⟩, trivial⟩) rfl ?_
            refine JA.no ⟨by kernel_rfl, by kernel_rfl⟩ (calm_only _) (i := 11) rfl ⟨by kernel_rfl, by kernel_rfl, rfl⟩ rfl rfl rfl rfl (stab_of (Hle.refl _) ⟨⟨0, rfl⟩, trivial⟩) rfl ?_
            refine JA.noU ⟨by kernel_rfl, by kernel_rfl⟩ (calm_only _) (i := 12) rfl ⟨by kernel_rfl, by kernel_rfl, rfl⟩ rfl rfl rfl (stab_of (Hle.refl _) ⟨⟨0, rfl⟩, trivial⟩) rfl ?_
            refine JA.noU ⟨by kernel_rfl, by kernel_rfl⟩ (calm_only _) (i := 13) rfl ⟨by kernel_rfl, by kernel_rfl, rfl⟩ rfl rfl rfl (stab_of (Hle.refl _) ⟨⟨0, rfl⟩, trivial⟩) rfl ?_
            refine JA.noU ⟨by kernel_rfl, by kernel_rfl⟩ (calm_only _) (i := 14) rfl ⟨by kernel_rfl, by kernel_rfl, rfl⟩ rfl rfl rfl (stab_of (Hle.refl _) ⟨⟨0, rfl⟩, trivial⟩) rfl ?_
            refine JA.noU ⟨by kernel_rfl, by kernel_rfl⟩ (calm_only _) (i := 15) rfl ⟨by kernel_rfl, by kernel_rfl, rfl⟩ rfl rfl rfl (stab_of (Hle.refl _) ⟨⟨0, rfl⟩, trivial⟩) rfl ?_
            refine JA.noU ⟨by kernel_rfl, by kernel_rfl⟩ (calm_only _) (i := 16) rfl ⟨by kernel_rfl, by kernel_rfl, rfl⟩ rfl rfl rfl (stab_of (Hle.refl _) ⟨⟨0, rfl⟩, trivial⟩) rfl ?_
            refine JA.noU ⟨by kernel_rfl, by kernel_rfl⟩ (calm_only _) (i := 17) rfl ⟨by kernel_rfl, by kernel_rfl, rfl⟩ rfl rfl rfl (stab_of (Hle.refl _) ⟨⟨0, rfl⟩, trivial⟩) rfl ?_
            refine JA.noU ⟨by kernel_rfl, by kernel_rfl⟩ (calm_only _) (i := 18) rfl ⟨by kernel_rfl, by kernel_rfl, rfl⟩ rfl rfl rfl (stab_of (Hle.refl _) ⟨⟨0, rfl⟩, trivial⟩) rfl ?_
            refine JA.noU ⟨by kernel_rfl, by kernel_rfl⟩ (calm_only _) (i := 19) rfl ⟨by kernel_rfl, by kernel_rfl, rfl⟩ rfl rfl rfl (stab_of (Hle.refl _) ⟨⟨0, rfl⟩, trivial⟩) rfl ?_
            refine JA.no ⟨by kernel_rfl, by kernel_rfl⟩ (calm_only _) (i := 20) rfl ⟨by kernel_rfl, by kernel_rfl, rfl⟩ rfl rfl rfl rfl (stab_of (Hle.refl _) ⟨⟨0, rfl⟩, trivial⟩) rfl ?_
            refine JA.val ⟨by kernel_rfl, by kernel_rfl⟩ (calm_only _) (i := 21) rfl ⟨by kernel_rfl, by kernel_rfl, rfl⟩ trivial (stab_of (Hle.refl _) ⟨⟨0, rfl⟩, trivial⟩) (R.pickT rfl rfl) rfl ?_
            refine JA.doneN (by kernel_rfl) ?_
            refine JN.next ?_
            refine JC.condT rfl ?_
            refine JC.seq ?_
            refine JC.region ?_
            refine JL.val rfl rfl (R.assign rfl) ?_
            refine JL.nil ?_
            refine JN.next ?_
            refine JC.ret ?_
            refine JN.blkR ?_
            refine JN.passR ?_
            obtain rfl := run_done hd_10 hx
            refine JN.passR ?_
            refine JN.blkR ?_
            clear hx; have hx := hxo_5
            simp only [Sum.elim_inl, Sum.elim_inr] at hx
            refine JN.passR ?_
            refine JN.passR ?_
            refine JN.outP (vs := [.int .i64 8]) (K := []) (rst := [_]) (.inl rfl) rfl rfl (Res.tmp rfl rfl) picks0 ?_
            obtain rfl := Option.some.inj hx
            exact ⟨rfl, rfl, rfl, trivial⟩
          · replace hx := cond_f c_21 hx
            refine JA.val ⟨by kernel_rfl, by kernel_rfl⟩ (calm_only _) (i := 4) rfl ⟨by kernel_rfl, by kernel_rfl, rfl⟩ ⟨_, _, rfl, rfl, rfl⟩ (stab_of (Hle.refl _) ⟨⟨0, rfl⟩, trivial⟩) (R.ldoN 0 (vs := [.int .i64 y_11.At, .int .u32 (y_11.Birth.toNat : Int), .int .u32 (y_11.Iv.toNat : Int), .int .u32 (y_11.Tag.toNat : Int), .int .u32 (y_11.Sum.toNat : Int)]) S32 rfl rfl rfl rfl) rfl ?_
            refine JA.one (i := 5) (by kernel_rfl) ?_
            refine JO.step rfl ⟨_, _, rfl, rfl, rfl⟩ rfl (fun K hK => ?_)
            obtain ⟨x_22, hr_23, hx⟩ := bnd_some hx
            refine JL.callC (vs := [_]) (args := [_]) (K := []) (rst := [_]) E26 rfl rfl rfl picks0 (ptr_Check_ok y_11 _ _ hr_23) rfl (fun u_24 Ku_24 Hu_24 hRu_24 hleu_24 hfu_24 => ?_)
            obtain ⟨rfl, rfl, rfl, -⟩ := hRu_24
            refine JL.nil ?_
            refine hK _ _ _ (stab_of (Hle.refl _) ⟨⟨0, rfl⟩, trivial⟩) ?_
            refine JA.val ⟨by kernel_rfl, by kernel_rfl⟩ (calm_only _) (i := 6) rfl ⟨by kernel_rfl, by kernel_rfl, rfl⟩ ⟨_, _, rfl, rfl, rfl⟩ (stab_of (Hle.refl _) ⟨⟨0, rfl⟩, trivial⟩) (R.neq_i rfl rfl) rfl ?_
            refine JA.val ⟨by kernel_rfl, by kernel_rfl⟩ (calm_only _) (i := 7) rfl ⟨by kernel_rfl, by kernel_rfl, rfl⟩ trivial (stab_of (Hle.refl _) ⟨⟨0, rfl⟩, trivial⟩) (R.pickF rfl rfl) rfl ?_
            refine JA.val ⟨by kernel_rfl, by kernel_rfl⟩ (calm_only _) (i := 8) rfl ⟨by kernel_rfl, by kernel_rfl, rfl⟩ trivial (stab_of (Hle.refl _) ⟨⟨0, rfl⟩, trivial⟩) (R.move rfl) rfl ?_
            refine JA.gSplit (t := 23) rfl (fun c_25 => ?_) (fun c_25 => ?_)
            · replace hx := cond_t c_25 hx
              refine JA.no ⟨by kernel_rfl, by kernel_rfl⟩ (calm_only _) (i := 9) rfl ⟨by kernel_rfl, by kernel_rfl, rfl⟩ rfl rfl rfl rfl (stab_of (Hle.refl _) ⟨⟨0, rfl⟩, trivial⟩) rfl ?_
              refine JA.no ⟨by kernel_rfl, by kernel_rfl⟩ (calm_only _) (i := 10) rfl ⟨by kernel_rfl, by kernel_rfl, rfl⟩ rfl rfl rfl rfl (stab_of (Hle.refl _) ⟨⟨0, rfl⟩, trivial⟩) rfl ?_
              refine JA.no ⟨by kernel_rfl, by kernel_rfl⟩ (calm_only _) (i := 11) rfl ⟨by kernel_rfl, by kernel_rfl, rfl⟩ rfl rfl rfl rfl (stab_of (Hle.refl _) ⟨⟨0, rfl⟩, trivial⟩) rfl ?_
              refine JA.noU ⟨by kernel_rfl, by kernel_rfl⟩ (calm_only _) (i := 12) rfl ⟨by kernel_rfl, by kernel_rfl, rfl⟩ rfl rfl rfl (stab_of (Hle.refl _) ⟨⟨0, rfl⟩, trivial⟩) rfl ?_
              refine JA.noU ⟨by kernel_rfl, by kernel_rfl⟩ (calm_only _) (i := 13) rfl ⟨by kernel_rfl, by kernel_rfl, rfl⟩ rfl rfl rfl (stab_of (Hle.refl _) ⟨⟨0, rfl⟩, trivial⟩) rfl ?_
              refine JA.noU ⟨by kernel_rfl, by kernel_rfl⟩ (calm_only _) (i := 14) rfl ⟨by kernel_rfl, by kernel_rfl, rfl⟩ rfl rfl rfl (stab_of (Hle.refl _) ⟨⟨0, rfl⟩, trivial⟩) rfl ?_
              refine JA.noU ⟨by kernel_rfl, by kernel_rfl⟩ (calm_only _) (i := 15) rfl ⟨by kernel_rfl, by kernel_rfl, rfl⟩ rfl rfl rfl (stab_of (Hle.refl _) ⟨⟨0, rfl⟩, trivial⟩) rfl ?_
              refine JA.noU ⟨by kernel_rfl, by kernel_rfl⟩ (calm_only _) (i := 16) rfl ⟨by kernel_rfl, by kernel_rfl, rfl⟩ rfl rfl rfl (stab_of (Hle.refl _) ⟨⟨0, rfl⟩, trivial⟩) rfl ?_
              refine JA.noU ⟨by kernel_rfl, by kernel_rfl⟩ (calm_only _) (i := 17) rfl ⟨by kernel_rfl, by kernel_rfl, rfl⟩ rfl rfl rfl (stab_of (Hle.refl _) ⟨⟨0, rfl⟩, trivial⟩) rfl ?_
              refine JA.noU ⟨by kernel_rfl, by kernel_rfl⟩ (calm_only _) (i := 18) rfl ⟨by kernel_rfl, by kernel_rfl, rfl⟩ rfl rfl rfl (stab_of (Hle.refl _) ⟨⟨0, rfl⟩, trivial⟩) rfl ?_
              refine JA.noU ⟨by kernel_rfl, by kernel_rfl⟩ (calm_only _) (i := 19) rfl ⟨by kernel_rfl, by kernel_rfl, rfl⟩ rfl rfl rfl (stab_of (Hle.refl _) ⟨⟨0, rfl⟩, trivial⟩) rfl ?_
              refine JA.no ⟨by kernel_rfl, by kernel_rfl⟩ (calm_only _) (i := 20) rfl ⟨by kernel_rfl, by kernel_rfl, rfl⟩ rfl rfl rfl rfl (stab_of (Hle.refl _) ⟨⟨0, rfl⟩, trivial⟩) rfl ?_
              refine JA.val ⟨by kernel_rfl, by kernel_rfl⟩ (calm_only _) (i := 21) rfl ⟨by kernel_rfl, by kernel_rfl, rfl⟩ trivial (stab_of (Hle.refl _) ⟨⟨0, rfl⟩, trivial⟩) (R.pickT rfl rfl) rfl ?_
              refine JA.doneN (by kernel_rfl) ?_
              refine JN.next ?_
              refine JC.condT rfl ?_
              refine JC.seq ?_
              refine JC.region ?_
              refine JL.val rfl rfl (R.assign rfl) ?_
              refine JL.nil ?_
              refine JN.next ?_
              refine JC.ret ?_
              refine JN.blkR ?_
              refine JN.passR ?_
              obtain rfl := run_done hd_10 hx
              refine JN.passR ?_
              refine JN.blkR ?_
              clear hx; have hx := hxo_5
              simp only [Sum.elim_inl, Sum.elim_inr] at hx
              refine JN.passR ?_
              refine JN.passR ?_
              refine JN.outP (vs := [.int .i64 8]) (K := []) (rst := [_]) (.inl rfl) rfl rfl (Res.tmp rfl rfl) picks0 ?_
              obtain rfl := Option.some.inj hx
              exact ⟨rfl, rfl, rfl, trivial⟩
            · replace hx := cond_f c_25 hx
              refine JA.val ⟨by kernel_rfl, by kernel_rfl⟩ (calm_only _) (i := 9) rfl ⟨by kernel_rfl, by kernel_rfl, rfl⟩ ⟨_, _, rfl, rfl, rfl⟩ (stab_of (Hle.refl _) ⟨⟨0, rfl⟩, trivial⟩) (R.move rfl) rfl ?_
              refine JA.val ⟨by kernel_rfl, by kernel_rfl⟩ (calm_only _) (i := 10) rfl ⟨by kernel_rfl, by kernel_rfl, rfl⟩ ⟨_, _, rfl, rfl, rfl⟩ (stab_of (Hle.refl _) ⟨⟨0, rfl⟩, trivial⟩) (R.gtr_i rfl rfl) rfl ?_
              refine JA.val ⟨by kernel_rfl, by kernel_rfl⟩ (calm_only _) (i := 11) rfl ⟨by kernel_rfl, by kernel_rfl, rfl⟩ ⟨_, _, rfl, rfl, rfl⟩ (stab_of (Hle.refl _) ⟨⟨0, rfl⟩, trivial⟩) (R.move rfl) rfl ?_
              refine JA.gSplit (t := 26) rfl (fun c_26 => ?_) (fun c_26 => ?_)
              · replace hx := cond_t c_26 hx
                refine JA.val ⟨by kernel_rfl, by kernel_rfl⟩ (calm_only _) (i := 12) rfl ⟨by kernel_rfl, by kernel_rfl, rfl⟩ ⟨_, _, rfl, rfl, rfl⟩ (stab_of (Hle.refl _) ⟨⟨0, rfl⟩, trivial⟩) (R.move rfl) rfl ?_
                refine JA.val ⟨by kernel_rfl, by kernel_rfl⟩ (calm_only _) (i := 13) rfl ⟨by kernel_rfl, by kernel_rfl, rfl⟩ ⟨_, _, rfl, rfl, rfl⟩ (stab_of (Hle.refl _) ⟨⟨0, rfl⟩, trivial⟩) (R.move rfl) rfl ?_
                refine JA.val ⟨by kernel_rfl, by kernel_rfl⟩ (calm_only _) (i := 14) rfl ⟨by kernel_rfl, by kernel_rfl, rfl⟩ ⟨_, _, rfl, rfl, rfl⟩ (stab_of (Hle.refl _) ⟨⟨0, rfl⟩, trivial⟩) (R.sub_i rfl rfl) rfl ?_
                obtain ⟨y_27, hN_28, hx⟩ := idx_some hx
                obtain ⟨b_29, o_30, cs_31, hE_32, hR_33, hl_34, hc_35⟩ := IsSlice.elem ha_2 hN_28
                obtain rfl := hR_33
                refine JA.val ⟨by kernel_rfl, by kernel_rfl⟩ (calm_only _) (i := 15) rfl ⟨by kernel_rfl, by kernel_rfl, rfl⟩ ⟨_, _, rfl, rfl, rfl⟩ (stab_of (Hle.refl _) ⟨⟨0, rfl⟩, trivial⟩) (R.ix U22 S32 rfl rfl hE_32) rfl ?_
                refine JA.val ⟨by kernel_rfl, by kernel_rfl⟩ (calm_only _) (i := 16) rfl ⟨by kernel_rfl, by kernel_rfl, rfl⟩ ⟨_, _, rfl, rfl, rfl⟩ (stab_of (Hle.refl _) ⟨⟨0, rfl⟩, trivial⟩) (R.ldHE (cs := [.int .i64 y_27.At, .int .u32 (y_27.Birth.toNat : Int), .int .u32 (y_27.Iv.toNat : Int), .int .u32 (y_27.Tag.toNat : Int), .int .u32 (y_27.Sum.toNat : Int)]) (k := 0) (vs := [.int .i64 y_27.At, .int .u32 (y_27.Birth.toNat : Int), .int .u32 (y_27.Iv.toNat : Int), .int .u32 (y_27.Tag.toNat : Int), .int .u32 (y_27.Sum.toNat : Int)]) S32 rfl hc_35 rfl rfl) rfl ?_
                refine JA.val ⟨by kernel_rfl, by kernel_rfl⟩ (calm_only _) (i := 17) rfl ⟨by kernel_rfl, by kernel_rfl, rfl⟩ ⟨_, _, rfl, rfl, rfl⟩ (stab_of (Hle.refl _) ⟨⟨0, rfl⟩, trivial⟩) (R.ldoN 0 (vs := [.int .i64 y_11.At, .int .u32 (y_11.Birth.toNat : Int), .int .u32 (y_11.Iv.toNat : Int), .int .u32 (y_11.Tag.toNat : Int), .int .u32 (y_11.Sum.toNat : Int)]) S32 rfl rfl rfl rfl) rfl ?_
                refine JA.one (i := 18) (by kernel_rfl) ?_
                refine JO.step rfl ⟨_, _, rfl, rfl, rfl⟩ rfl (fun K hK => ?_)
                obtain ⟨x_36, hr_37, hx⟩ := bnd_some hx
                refine JL.callC (vs := [_, _]) (args := [_, _]) (K := []) (rst := [_]) E22 rfl rfl rfl picks0 (dead_order_ok y_27 y_11 _ _ hr_37) rfl (fun u_38 Ku_38 Hu_38 hRu_38 hleu_38 hfu_38 => ?_)
                obtain ⟨rfl, rfl, rfl, -⟩ := hRu_38
                refine JL.nil ?_
                refine hK _ _ _ (stab_of (Hle.refl _) ⟨⟨0, rfl⟩, trivial⟩) ?_
                refine JA.val ⟨by kernel_rfl, by kernel_rfl⟩ (calm_only _) (i := 19) rfl ⟨by kernel_rfl, by kernel_rfl, rfl⟩ ⟨_, _, rfl, rfl, rfl⟩ (stab_of (Hle.refl _) ⟨⟨0, rfl⟩, trivial⟩) (R.geq_i rfl rfl) rfl ?_
                refine JA.val ⟨by kernel_rfl, by kernel_rfl⟩ (calm_only _) (i := 20) rfl ⟨by kernel_rfl, by kernel_rfl, rfl⟩ ⟨_, _, rfl, rfl, rfl⟩ (stab_of (Hle.refl _) ⟨⟨0, rfl⟩, trivial⟩) (R.pickT rfl rfl) rfl ?_
                refine JA.val ⟨by kernel_rfl, by kernel_rfl⟩ (calm_only _) (i := 21) rfl ⟨by kernel_rfl, by kernel_rfl, rfl⟩ trivial (stab_of (Hle.refl _) ⟨⟨0, rfl⟩, trivial⟩) (R.pickF rfl rfl) rfl ?_
                refine JA.doneN (by kernel_rfl) ?_
                refine JN.next ?_
                refine JC.condB rfl (fun c_39 => ?_) (fun c_39 => ?_)
                · replace hx := cond_t c_39 hx
                  refine JC.seq ?_
                  refine JC.region ?_
                  refine JL.val rfl rfl (R.assign rfl) ?_
                  refine JL.nil ?_
                  refine JN.next ?_
                  refine JC.ret ?_
                  refine JN.blkR ?_
                  refine JN.passR ?_
                  obtain rfl := run_done hd_10 hx
                  refine JN.passR ?_
                  refine JN.blkR ?_
                  clear hx; have hx := hxo_5
                  simp only [Sum.elim_inl, Sum.elim_inr] at hx
                  refine JN.passR ?_
                  refine JN.passR ?_
                  refine JN.outP (vs := [.int .i64 8]) (K := []) (rst := [_]) (.inl rfl) rfl rfl (Res.tmp rfl rfl) picks0 ?_
                  obtain rfl := Option.some.inj hx
                  exact ⟨rfl, rfl, rfl, trivial⟩
                · replace hx := cond_f c_39 hx
                  refine JC.skip ?_
                  refine JN.blkN ?_
                  refine JN.next ?_
                  refine JC.region ?_
                  refine JL.val rfl rfl (R.inc rfl rfl (of_decide_eq_true c_10) (IsSlice.lenI ha_2)) ?_
                  refine JL.val rfl rfl (R.move rfl) ?_
                  refine JL.nil ?_
                  replace hx := run_next hd_10 hx
                  refine JN.forget 0 ?_
                  exact JN.cut ⟨s_7 + 1, rfl, rfl, rfl, hx⟩ ⟨rfl, rfl, rfl, rfl, trivial⟩ rfl rfl
              · replace hx := cond_f c_26 hx
                refine JA.no ⟨by kernel_rfl, by kernel_rfl⟩ (calm_only _) (i := 12) rfl ⟨by kernel_rfl, by kernel_rfl, rfl⟩ rfl rfl rfl rfl (stab_of (Hle.refl _) ⟨⟨0, rfl⟩, trivial⟩) rfl ?_
                refine JA.no ⟨by kernel_rfl, by kernel_rfl⟩ (calm_only _) (i := 13) rfl ⟨by kernel_rfl, by kernel_rfl, rfl⟩ rfl rfl rfl rfl (stab_of (Hle.refl _) ⟨⟨0, rfl⟩, trivial⟩) rfl ?_
                refine JA.no ⟨by kernel_rfl, by kernel_rfl⟩ (calm_only _) (i := 14) rfl ⟨by kernel_rfl, by kernel_rfl, rfl⟩ rfl rfl rfl rfl (stab_of (Hle.refl _) ⟨⟨0, rfl⟩, trivial⟩) rfl ?_
                refine JA.no ⟨by kernel_rfl, by kernel_rfl⟩ (calm_only _) (i := 15) rfl ⟨by kernel_rfl, by kernel_rfl, rfl⟩ rfl rfl rfl rfl (stab_of (Hle.refl _) ⟨⟨0, rfl⟩, trivial⟩) rfl ?_
                refine JA.no ⟨by kernel_rfl, by kernel_rfl⟩ (calm_only _) (i := 16) rfl ⟨by kernel_rfl, by kernel_rfl, rfl⟩ rfl rfl rfl rfl (stab_of (Hle.refl _) ⟨⟨0, rfl⟩, trivial⟩) rfl ?_
                refine JA.no ⟨by kernel_rfl, by kernel_rfl⟩ (calm_only _) (i := 17) rfl ⟨by kernel_rfl, by kernel_rfl, rfl⟩ rfl rfl rfl rfl (stab_of (Hle.refl _) ⟨⟨0, rfl⟩, trivial⟩) rfl ?_
                refine JA.no ⟨by kernel_rfl, by kernel_rfl⟩ (calm_only _) (i := 18) rfl ⟨by kernel_rfl, by kernel_rfl, rfl⟩ rfl rfl rfl rfl (stab_of (Hle.refl _) ⟨⟨0, rfl⟩, trivial⟩) rfl ?_
                refine JA.no ⟨by kernel_rfl, by kernel_rfl⟩ (calm_only _) (i := 19) rfl ⟨by kernel_rfl, by kernel_rfl, rfl⟩ rfl rfl rfl rfl (stab_of (Hle.refl _) ⟨⟨0, rfl⟩, trivial⟩) rfl ?_
                refine JA.val ⟨by kernel_rfl, by kernel_rfl⟩ (calm_only _) (i := 20) rfl ⟨by kernel_rfl, by kernel_rfl, rfl⟩ ⟨_, _, rfl, rfl, rfl⟩ (stab_of (Hle.refl _) ⟨⟨0, rfl⟩, trivial⟩) (R.pickF rfl rfl) rfl ?_
                refine JA.val ⟨by kernel_rfl, by kernel_rfl⟩ (calm_only _) (i := 21) rfl ⟨by kernel_rfl, by kernel_rfl, rfl⟩ trivial (stab_of (Hle.refl _) ⟨⟨0, rfl⟩, trivial⟩) (R.pickF rfl rfl) rfl ?_
                refine JA.doneN (by kernel_rfl) ?_
                refine JN.next ?_
                refine JC.condF rfl ?_
                refine JC.skip ?_
                refine JN.blkN ?_
                refine JN.next ?_
                refine JC.region ?_
                refine JL.val rfl rfl (R.inc rfl rfl (of_decide_eq_true c_10) (IsSlice.lenI ha_2)) ?_
                refine JL.val rfl rfl (R.move rfl) ?_
                refine JL.nil ?_
                replace hx := run_next hd_10 hx
                refine JN.forget 0 ?_
                exact JN.cut ⟨s_7 + 1, rfl, rfl, rfl, hx⟩ ⟨rfl, rfl, rfl, rfl, trivial⟩ rfl rfl
        · replace hx := cond_f c_10 hx
          refine JC.exit ?_
          refine JN.passX ?_
          obtain rfl := run_done hd_10 hx
          refine JN.passX ?_
          refine JN.exitSame ?_
          exact JN.cut ⟨(), rfl, rfl, rfl, rfl⟩ trivial rfl rfl

set_option maxHeartbeats 1000000 in
theorem slices_Grow_Ptr_ok (p_1 : Int) (H : Heaplet) (r : List Ptr) (hx : slices_Grow_Ptr p_1 = some r) :
    Does Try.prog 32 #[.slice none 0 0, .int .i64 p_1] [] H (fun u K' H' => ∃ ao0 : Option Addr, ∃ n0 : Nat, ∃ cap0 : Nat, ∃ K0 : Own, u = .slice ao0 n0 cap0 ∧ K' = [K0] ∧ H = H' ∧ RowOf (New H H) R_Ptr 0 32 5 (.slice ao0 n0 cap0) r K0 ∧ (∀ p ∈ K0, p.1 ∉ ids (List.flatten [])) ∧ True) := by
  refine Does.enterL (vs := [.slice none 0 0, .int .i64 p_1]) (l := [(0, .slice none 0 0), (1, .int .i64 p_1)]) Try.func32 rfl rfl ⟨rfl, rfl, trivial⟩ (fun w hlt => ?_)
  rw [slices_Grow_Ptr.eq_1] at hx
  refine JC.seq ?_
  refine JC.region ?_
  refine JL.val rfl rfl (R.assign rfl) ?_
  refine JL.nil ?_
  refine JN.next ?_
  refine JC.seq ?_
  refine JC.seq ?_
  refine JC.region ?_
  refine JL.val rfl rfl (R.move rfl) ?_
  refine JL.val rfl rfl (R.lss_i rfl rfl) ?_
  refine JL.nil ?_
  refine JN.next ?_
  refine JC.condB rfl (fun c_2 => ?_) (fun c_2 => ?_)
  · replace hx := cond_t c_2 hx
    refine JC.region ?_
    cases hx
  · replace hx := cond_f c_2 hx
    refine JC.skip ?_
    refine JN.next ?_
    refine JC.seq ?_
    refine JC.seq ?_
    refine JC.region ?_
    refine JL.val rfl rfl (R.move rfl) ?_
    refine JL.val rfl rfl (R.move rfl) ?_
    refine JL.val rfl rfl (R.capN ⟨_, U22⟩ rfl) ?_
    refine JL.val rfl rfl (R.move rfl) ?_
    refine JL.val rfl rfl (R.len U22 rfl) ?_
    refine JL.val rfl rfl (R.sub_i rfl rfl) ?_
    refine JL.val rfl rfl (R.sub_i rfl rfl) ?_
    refine JL.val rfl rfl (R.assign rfl) ?_
    refine JL.nil ?_
    refine JN.next ?_
    refine JC.seq ?_
    refine JC.region ?_
    refine JL.val rfl rfl (R.move rfl) ?_
    refine JL.val rfl rfl (R.gtr_i rfl rfl) ?_
    refine JL.nil ?_
    refine JN.next ?_
    obtain ⟨t_3, ht_5, hx⟩ := bnd_some hx
    refine JC.cut (fun l o g => ∃ aor_16 : Option Addr, ∃ nr_16 : Nat, ∃ capr_16 : Nat, ∃ Kr_16 : Own, l = [(0, .slice aor_16 nr_16 capr_16)] ∧ o = [Kr_16] ∧ H = g ∧ RowOf (New H H) R_Ptr w.heap.size 32 5 (.slice aor_16 nr_16 capr_16) t_3 Kr_16) ?_ ?_
    · rintro _ _ _ ⟨aor_16, nr_16, capr_16, Kr_16, rfl, rfl, rfl, hr_16⟩
      refine JN.next ?_
      refine JC.seq ?_
      refine JC.region ?_
      refine JL.val rfl rfl (R.move rfl) ?_
      refine JL.val rfl rfl (R.assign rfl) ?_
      refine JL.nil ?_
      refine JN.next ?_
      refine JC.ret ?_
      refine JN.outP (vs := [.slice aor_16 nr_16 capr_16]) (K := [_]) (rst := []) (.inl rfl) rfl rfl (Res.tmp rfl rfl) (picks 0 rfl picks0) ?_
      obtain rfl := Option.some.inj hx
      exact ⟨aor_16, nr_16, capr_16, Kr_16, rfl, rfl, rfl, (RowOf.weak (Nat.zero_le _) hr_16), (new_ids hr_16 hlt), trivial⟩
    · have hxo_4 := hx; clear hx; have hx := ht_5; clear ht_5
      refine JC.condB rfl (fun c_6 => ?_) (fun c_6 => ?_)
      · replace hx := cond_t c_6 hx
        refine JC.region ?_
        refine JL.val rfl rfl (R.move rfl) ?_
        refine JL.val rfl rfl (R.move rfl) ?_
        refine JL.val rfl rfl (R.capN ⟨_, U22⟩ rfl) ?_
        refine JL.val rfl rfl (R.slcN U22 S32 rfl trivial ⟨_, rfl⟩ rfl) ?_
        refine JL.val rfl rfl (R.move rfl) ?_
        obtain ⟨q_9, hm_8, hc_7, hx⟩ := mks_some hx
        refine JL.appZ (HF := New H H) (R := R_Ptr) (y := Ptr.mk 0 (0 : UInt32) (0 : UInt32) (0 : UInt32) (0 : UInt32)) (n := w64 (p_1 - 0)) U22 U3 I32 rfl rfl (fun _ => rfl) R_Ptr.one hm_8 hc_7 rfl rfl (fun vr_10 Kr_10 hr_10 => ?_)
        obtain ⟨aor_10, capr_10, rfl⟩ := RowOf.val hr_10
        refine JL.val rfl rfl (R.move rfl) ?_
        refine JL.val rfl rfl (R.len U22 rfl) ?_
        obtain ⟨m_13, hm_14, hb_12, hx⟩ := slc_some hx
        obtain ⟨vv_11, cv_11, h1v_11, h2v_11, h3v_11, hsv_11⟩ := RowOf.pre hr_10 hm_14 hb_12
        refine JL.val rfl rfl (R.slc (cap := cv_11) (a := 0) (b := 0) (c := (cv_11 : Int)) (m := q_9) (R := R_Ptr) U22 S32 rfl rfl ⟨_, rfl⟩ (by obtain ⟨ao, n, e, _⟩ := h1v_11; exact ⟨ao, n, e, rfl⟩) ⟨hb_12.1, hb_12.2.1, h2v_11⟩ h3v_11 (.inl rfl)) ?_
        obtain ⟨aov_11, capv_11, rfl⟩ := RowOf.val hsv_11
        refine JL.val rfl rfl (R.assign rfl) ?_
        refine JL.nil ?_
        obtain rfl := Option.some.inj hx
        exact JN.cut ⟨aov_11, m_13.length, capv_11, Kr_10, rfl, rfl, rfl, hsv_11⟩ ⟨rfl, trivial⟩ rfl rfl
      · replace hx := cond_f c_6 hx
        refine JC.skip ?_
        obtain rfl := Option.some.inj hx
        refine JN.seg0 ?_
        exact JN.cut ⟨none, 0, 0, [], rfl, rfl, rfl, (RowOf.nil _ _ _ _ _)⟩ ⟨rfl, trivial⟩ rfl rfl

set_option maxHeartbeats 1000000 in
theorem slices_Concat_Ptr_ok (p_1 : List (List Ptr)) (H : Heaplet) {aoa_2 : Option Addr} {na_2 : Nat} {capa_2 : Nat} (ha_2 : IsSlice H (RSl R_Ptr 5) 1 (.slice aoa_2 na_2 capa_2) p_1) (r : List Ptr) (hx : slices_Concat_Ptr p_1 = some r) :
    Does Try.prog 20 #[.slice aoa_2 na_2 capa_2] [] H (fun u K' H' => ∃ ao0 : Option Addr, ∃ n0 : Nat, ∃ cap0 : Nat, ∃ K0 : Own, u = .slice ao0 n0 cap0 ∧ K' = [K0] ∧ H = H' ∧ RowOf (New H H) R_Ptr 0 32 5 (.slice ao0 n0 cap0) r K0 ∧ (∀ p ∈ K0, p.1 ∉ ids (List.flatten [])) ∧ True) := by
  refine Does.enterL (vs := [.slice aoa_2 na_2 capa_2]) (l := [(0, .slice aoa_2 na_2 capa_2)]) Try.func20 rfl rfl ⟨rfl, trivial⟩ (fun w hlt => ?_)
  rw [slices_Concat_Ptr.eq_1] at hx
  refine JC.seq ?_
  refine JC.region ?_
  refine JL.val rfl rfl (R.assign rfl) ?_
  refine JL.nil ?_
  refine JN.next ?_
  refine JC.seq ?_
  refine JC.region ?_
  refine JL.val rfl rfl (R.assign rfl) ?_
  refine JL.nil ?_
  refine JN.next ?_
  refine JC.seq ?_
  refine JC.seq ?_
  refine JC.region ?_
  refine JL.val rfl rfl (R.move rfl) ?_
  refine JL.val rfl rfl (R.lenL U61 rfl (IsSlice.long ha_2)) ?_
  refine JL.val rfl rfl (R.move rfl) ?_
  refine JL.nil ?_
  refine JN.next ?_
  obtain ⟨t_3, ht_5, hx⟩ := bnd_some hx
  refine JC.cut (fun l o g => l = [(0, .slice aoa_2 na_2 capa_2), (3, .int .i64 t_3)] ∧ o = [] ∧ H = g) ?_ ?_
  · rintro _ _ _ ⟨rfl, rfl, rfl⟩
    refine JN.next ?_
    refine JC.seq ?_
    refine JC.region ?_
    refine JL.val rfl rfl (R.move rfl) ?_
    obtain ⟨x_9, hr_10, hx⟩ := bnd_some hx
    refine JL.callC (vs := [_, _]) (args := [_, _]) (K := []) (rst := []) E32 rfl rfl rfl picks0 (slices_Grow_Ptr_ok t_3 _ _ hr_10) rfl (fun u_11 Ku_11 Hu_11 hRu_11 hleu_11 hfu_11 => ?_)
    obtain ⟨aor_12, nr_12, capr_12, Kr_12, rfl, rfl, rfl, hr_12, hnewr_12, -⟩ := hRu_11
    replace hr_12 := (RowOf.base (RowOf.const (H2 := New H H) R_Ptr.const hr_12) (fun p hp => (hfu_11 p (mem_seg 0 rfl hp)).resolve_left (hnewr_12 p hp)))
    refine JL.val rfl rfl (R.assign rfl) ?_
    refine JL.nil ?_
    refine JN.next ?_
    refine JC.seq ?_
    refine JC.seq ?_
    refine JC.region ?_
    refine JL.val rfl rfl (R.move rfl) ?_
    refine JL.val rfl rfl (R.lenL U61 rfl (IsSlice.long ha_2)) ?_
    refine JL.val rfl rfl (R.move rfl) ?_
    refine JL.nil ?_
    refine JN.next ?_
    obtain ⟨t_13, ht_15, hx⟩ := bnd_some hx
    refine JC.cut (fun l o g => ∃ aor_20 : Option Addr, ∃ nr_20 : Nat, ∃ capr_20 : Nat, ∃ Kr_20 : Own, l = [(6, .slice aor_20 nr_20 capr_20)] ∧ o = [Kr_20] ∧ H = g ∧ RowOf (New H H) R_Ptr w.heap.size 32 5 (.slice aor_20 nr_20 capr_20) t_13 Kr_20) ?_ ?_
    · rintro _ _ _ ⟨aor_20, nr_20, capr_20, Kr_20, rfl, rfl, rfl, hr_20⟩
      refine JN.next ?_
      refine JC.seq ?_
      refine JC.region ?_
      refine JL.val rfl rfl (R.move rfl) ?_
      refine JL.val rfl rfl (R.assign rfl) ?_
      refine JL.nil ?_
      refine JN.next ?_
      refine JC.ret ?_
      refine JN.outP (vs := [.slice aor_20 nr_20 capr_20]) (K := [_]) (rst := []) (.inl rfl) rfl rfl (Res.tmp rfl rfl) (picks 0 rfl picks0) ?_
      obtain rfl := Option.some.inj hx
      exact ⟨aor_20, nr_20, capr_20, Kr_20, rfl, rfl, rfl, (RowOf.weak (Nat.zero_le _) hr_20), (new_ids hr_20 hlt), trivial⟩
    · have hxo_14 := hx; clear hx; have hx := ht_15; clear ht_15
      refine JC.block ?_
      refine JC.loopI (fun n l o g => ∃ s_16 : List Ptr × Nat, ∃ aor_19 : Option Addr, ∃ nr_19 : Nat, ∃ capr_19 : Nat, ∃ Kr_19 : Own, l = [(6, .slice aor_19 nr_19 capr_19), (25, .slice aoa_2 na_2 capa_2), (26, .int .i64 (p_1.length : Int)), (27, .int .i64 ((s_16.2 : Nat) : Int))] ∧ o = [Kr_19] ∧ H = g ∧ run (slices_Concat_Ptr_l2 p_1) n s_16 = some t_13 ∧ RowOf (New H H) R_Ptr w.heap.size 32 5 (.slice aor_19 nr_19 capr_19) s_16.1 Kr_19) FUEL ?_ ⟨(x_9, 0), aor_12, nr_12, capr_12, Kr_12, rfl, rfl, rfl, hx, hr_12⟩ ⟨rfl, rfl, rfl, rfl, trivial⟩ ?_
      · rintro _ _ _ ⟨s_16, aor_19, nr_19, capr_19, Kr_19, rfl, rfl, rfl, hn_17, hr_19⟩
        exact run_zero hn_17
      · rintro n_18 _ _ _ ⟨s_16, aor_19, nr_19, capr_19, Kr_19, rfl, rfl, rfl, hn_17, hr_19⟩
        clear hx; obtain ⟨oo_21, hx, hd_20⟩ := run_some hn_17
        rw [slices_Concat_Ptr_l2.eq_1] at hx
        refine JC.seq ?_
        refine JC.region ?_
        refine JL.val rfl rfl (R.lss_i rfl rfl) ?_
        refine JL.nil ?_
        refine JN.next ?_
        refine JC.seq ?_
        refine JC.condB rfl (fun c_20 => ?_) (fun c_20 => ?_)
        · replace hx := cond_t c_20 hx
          refine JC.skip ?_
          refine JN.next ?_
          refine JC.seq ?_
          refine JC.block ?_
          refine JC.seq ?_
          refine JC.region ?_
          obtain ⟨y_21, hN_22, hx⟩ := idx_some hx
          obtain ⟨b_23, o_24, cs_25, hE_26, hR_27, hl_28, hc_29⟩ := IsSlice.elem ha_2 hN_22
          obtain ⟨v_30, rfl, hs_31⟩ := hR_27
          obtain ⟨aov_30, capv_30, rfl⟩ := IsSlice.val hs_31
          refine JL.val rfl rfl (R.ix U61 S22 rfl rfl hE_26) ?_
          refine JL.val rfl rfl (R.ldH S22 rfl (hc_29 0 _ rfl)) ?_
          refine JL.val rfl rfl (R.assign rfl) ?_
          refine JL.nil ?_
          refine JN.next ?_
          refine JC.region ?_
          refine JL.val rfl rfl (R.move rfl) ?_
          refine JL.val rfl rfl (R.move rfl) ?_
          obtain ⟨q_32, hm_33, hl_34, hx⟩ := app_some hx
          refine JL.appF (HF := (New H H)) 0 U22 I32 rfl rfl hr_19 rfl (SrcF.sliceC R_Ptr.const R_Ptr.one U22 hs_31) hm_33 hl_34 rfl (Nat.le_refl _) rfl (fun vr_35 Kr_35 hr_35 => ?_)
          obtain ⟨aor_35, capr_35, rfl⟩ := RowOf.val hr_35
          refine JL.val rfl rfl (R.assign rfl) ?_
          refine JL.nil ?_
          refine JN.blkN ?_
          refine JN.next ?_
          refine JC.region ?_
          refine JL.val rfl rfl (R.inc rfl rfl (of_decide_eq_true c_20) (IsSlice.lenI ha_2)) ?_
          refine JL.val rfl rfl (R.move rfl) ?_
          refine JL.nil ?_
          replace hx := run_next hd_20 hx
          exact JN.cut ⟨(q_32, s_16.2 + 1), aor_35, q_32.length, capr_35, Kr_35, rfl, rfl, rfl, hx, hr_35⟩ ⟨rfl, rfl, rfl, rfl, trivial⟩ rfl rfl
        · replace hx := cond_f c_20 hx
          refine JC.exit ?_
          refine JN.passX ?_
          obtain rfl := run_done hd_20 hx
          refine JN.passX ?_
          refine JN.exitSame ?_
          exact JN.cut ⟨aor_19, nr_19, capr_19, Kr_19, rfl, rfl, rfl, hr_19⟩ ⟨rfl, trivial⟩ rfl rfl
  · have hxo_4 := hx; clear hx; have hx := ht_5; clear ht_5
    refine JC.block ?_
    refine JC.loopI (fun n l o g => ∃ s_6 : Int × Nat, l = [(0, .slice aoa_2 na_2 capa_2), (3, .int .i64 s_6.1), (9, .slice aoa_2 na_2 capa_2), (10, .int .i64 (p_1.length : Int)), (11, .int .i64 ((s_6.2 : Nat) : Int))] ∧ o = [] ∧ H = g ∧ run (slices_Concat_Ptr_l1 p_1) n s_6 = some t_3) FUEL ?_ ⟨(0, 0), rfl, rfl, rfl, hx⟩ ⟨rfl, rfl, rfl, rfl, rfl, trivial⟩ ?_
    · rintro _ _ _ ⟨s_6, rfl, rfl, rfl, hn_7⟩
      exact run_zero hn_7
    · rintro n_8 _ _ _ ⟨s_6, rfl, rfl, rfl, hn_7⟩
      clear hx; obtain ⟨oo_10, hx, hd_9⟩ := run_some hn_7
      rw [slices_Concat_Ptr_l1.eq_1] at hx
      refine JC.seq ?_
      refine JC.region ?_
      refine JL.val rfl rfl (R.lss_i rfl rfl) ?_
      refine JL.nil ?_
      refine JN.next ?_
      refine JC.seq ?_
      refine JC.condB rfl (fun c_9 => ?_) (fun c_9 => ?_)
      · replace hx := cond_t c_9 hx
        refine JC.skip ?_
        refine JN.next ?_
        refine JC.seq ?_
        refine JC.block ?_
        refine JC.seq ?_
        refine JC.region ?_
        obtain ⟨y_10, hN_11, hx⟩ := idx_some hx
        obtain ⟨b_12, o_13, cs_14, hE_15, hR_16, hl_17, hc_18⟩ := IsSlice.elem ha_2 hN_11
        obtain ⟨v_19, rfl, hs_20⟩ := hR_16
        obtain ⟨aov_19, capv_19, rfl⟩ := IsSlice.val hs_20
        refine JL.val rfl rfl (R.ix U61 S22 rfl rfl hE_15) ?_
        refine JL.val rfl rfl (R.ldH S22 rfl (hc_18 0 _ rfl)) ?_
        refine JL.val rfl rfl (R.assign rfl) ?_
        refine JL.nil ?_
        refine JN.next ?_
        refine JC.seq ?_
        refine JC.region ?_
        refine JL.val rfl rfl (R.move rfl) ?_
        refine JL.val rfl rfl (R.move rfl) ?_
        refine JL.val rfl rfl (R.lenL U22 rfl (IsSlice.long hs_20)) ?_
        refine JL.val rfl rfl (R.add_i rfl rfl) ?_
        refine JL.val rfl rfl (R.assign rfl) ?_
        refine JL.nil ?_
        refine JN.next ?_
        refine JC.seq ?_
        refine JC.region ?_
        refine JL.val rfl rfl (R.move rfl) ?_
        refine JL.val rfl rfl (R.lss_i rfl rfl) ?_
        refine JL.nil ?_
        refine JN.next ?_
        refine JC.condB rfl (fun c_21 => ?_) (fun c_21 => ?_)
        · replace hx := cond_t c_21 hx
          refine JC.region ?_
          cases hx
        · replace hx := cond_f c_21 hx
          refine JC.skip ?_
          refine JN.blkN ?_
          refine JN.next ?_
          refine JC.region ?_
          refine JL.val rfl rfl (R.inc rfl rfl (of_decide_eq_true c_9) (IsSlice.lenI ha_2)) ?_
          refine JL.val rfl rfl (R.move rfl) ?_
          refine JL.nil ?_
          replace hx := run_next hd_9 hx
          exact JN.cut ⟨(w64 (s_6.1 + (y_10.length : Int)), s_6.2 + 1), rfl, rfl, rfl, hx⟩ ⟨rfl, rfl, rfl, rfl, rfl, trivial⟩ rfl rfl
      · replace hx := cond_f c_9 hx
        refine JC.exit ?_
        refine JN.passX ?_
        obtain rfl := run_done hd_9 hx
        refine JN.passX ?_
        refine JN.exitSame ?_
        exact JN.cut ⟨rfl, rfl, rfl⟩ ⟨rfl, rfl, trivial⟩ rfl rfl

theorem slices_SortFunc_Ptr_dead_order_ok (p_1 : List Ptr) (H : Heaplet) {ao : Option Addr} {n cap : Nat} {K : Own} (hr : RowOf (New H H) R_Ptr 0 32 5 (.slice ao n cap) p_1 K) (r : List Ptr) (hx : slices_SortFunc_Ptr_dead_order p_1 = some r) :
    Does Try.prog 21 #[.slice ao n cap, .func (.func 22) #[] #[]] [K] H (fun u K' H' => ∃ K0 : Own, u = .tuple #[] ∧ K' = [K0] ∧ H = H' ∧ RowOf (New H H') R_Ptr 0 32 5 (.slice ao n cap) r K0 ∧ True) := by
  rw [slices_SortFunc_Ptr_dead_order.eq_1] at hx
  split at hx
  case isFalse => cases hx
  rename_i hlen
  obtain rfl := Option.some.inj hx
  have h := sort_does (enc := enc_Ptr) (R := R_Ptr) Try.sort21 (by decide) Try.isAgg32 Try.sizeOf32 (fun _ _ _ => Iff.rfl) (fun _ => rfl) enc_Ptr_one (fun x y => (dead_order x y).getD 0) dead_order_swo (g := 22)
    (enters_of Try.func22 (by kernel_rfl) rfl)
    (fun x y => by
      obtain ⟨z, hz⟩ := dead_order_tot x y
      refine Does.mono (dead_order_ok x y (fun _ _ => none) z hz) (fun v K' H' hR => ?_)
      obtain ⟨rfl, -⟩ := hR
      simp [hz]) (H := H) hr hlen
  refine Does.mono h (fun v K' H' hR => ?_)
  obtain ⟨K1, rfl, rfl, rfl, h1, -⟩ := hR
  exact ⟨K1, rfl, rfl, rfl, h1, trivial⟩

theorem slices_Clone_Ptr_ok (p_1 : List Ptr) (H : Heaplet) {ao : Option Addr} {n cap : Nat} (hs : IsSlice H R_Ptr 5 (.slice ao n cap) p_1) (r : List Ptr) (hx : slices_Clone_Ptr p_1 = some r) :
    Does Try.prog 24 #[.slice ao n cap] [] H (fun u K' H' => ∃ ao0 : Option Addr, ∃ n0 : Nat, ∃ cap0 : Nat, ∃ K0 : Own, u = .slice ao0 n0 cap0 ∧ K' = [K0] ∧ H = H' ∧ RowOf (New H H') R_Ptr 0 32 5 (.slice ao0 n0 cap0) r K0 ∧ (∀ p ∈ K0, p.1 ∉ ids (List.flatten [])) ∧ True) := by
  rw [slices_Clone_Ptr.eq_1] at hx
  obtain ⟨q, hq, hl, hx⟩ := app_some hx
  obtain rfl := Option.some.inj hx
  refine Does.enter (vs := [.slice ao n cap]) (l := [(0, .slice ao n cap)]) Try.func24 rfl rfl ⟨rfl, trivial⟩ (fun w => ?_)
  refine JC.seq ?_
  refine JC.region ?_
  refine JL.val rfl rfl (R.assign rfl) ?_
  refine JL.nil ?_
  refine JN.next ?_
  refine JC.seq ?_
  refine JC.seq ?_
  refine JC.region ?_
  refine JL.val rfl rfl (R.move rfl) ?_
  refine JL.val rfl rfl (R.eqlNil U22 rfl rfl) ?_
  refine JL.nil ?_
  refine JN.next ?_
  cases ao with
  | none =>
    have hp := hs.none_nil
    subst hp
    simp only [List.append_nil] at hq
    subst hq
    refine JC.condT rfl ?_
    refine JC.seq ?_
    refine JC.region ?_
    refine JL.val rfl rfl (R.assign rfl) ?_
    refine JL.nil ?_
    refine JN.next ?_
    refine JC.ret ?_
    refine JN.passR ?_
    refine JN.seg0 ?_
    refine JN.outP (vs := [.slice none 0 0]) (K := [_]) (rst := []) (.inl rfl) rfl rfl (Res.tmp rfl rfl) (picks 0 rfl picks0) ?_
    exact ⟨none, 0, 0, [], rfl, rfl, rfl, RowOf.nil _ _ _ _ _, (fun p hp => by cases hp), trivial⟩
  | some a =>
    refine JC.condF rfl ?_
    refine JC.skip ?_
    refine JN.next ?_
    refine JC.seq ?_
    refine JC.region ?_
    refine JL.bslF (HF := New H H) (R := R_Ptr) (ls := []) (vs := []) U22 I32 rfl rfl rfl R_Ptr.one rfl rfl rfl (by simp [maxLen]) rfl (fun v1 K1 h1 => ?_)
    obtain ⟨ao1, cap1, rfl⟩ := RowOf.val h1
    refine JL.val rfl rfl (R.move rfl) ?_
    refine JL.appF (HF := New H H) 0 U22 I32 rfl rfl h1 rfl (SrcF.sliceC R_Ptr.const R_Ptr.one U22 hs) hq hl rfl (Nat.le_refl _) rfl (fun v2 K2 h2 => ?_)
    obtain ⟨ao2, cap2, rfl⟩ := RowOf.val h2
    refine JL.val rfl rfl (R.assign rfl) ?_
    refine JL.nil ?_
    refine JN.next ?_
    refine JC.ret ?_
    refine JN.outP (vs := [.slice ao2 _ cap2]) (K := [_]) (rst := []) (.inl rfl) rfl rfl (Res.tmp rfl rfl) (picks 0 rfl picks0) ?_
    exact ⟨_, _, _, _, rfl, rfl, rfl, RowOf.weak (Nat.zero_le _) h2, (fun p hp hm => by cases hm), trivial⟩

set_option maxHeartbeats 1000000 in
theorem dead_Join_1_ok (p_1 : Ptr) (p_2 : Ptr) (H : Heaplet) (r : Bool) (hx : dead_Join_1 p_1 p_2 = some r) :
    Does Try.prog 25 #[.agg #[.int .i64 p_1.At, .int .u32 (p_1.Birth.toNat : Int), .int .u32 (p_1.Iv.toNat : Int), .int .u32 (p_1.Tag.toNat : Int), .int .u32 (p_1.Sum.toNat : Int)], .agg #[.int .i64 p_2.At, .int .u32 (p_2.Birth.toNat : Int), .int .u32 (p_2.Iv.toNat : Int), .int .u32 (p_2.Tag.toNat : Int), .int .u32 (p_2.Sum.toNat : Int)]] [] H (fun u K' H' => u = .bool r ∧ K' = [] ∧ H = H' ∧ True) := by
  refine Does.enterL (vs := [.agg #[.int .i64 p_1.At, .int .u32 (p_1.Birth.toNat : Int), .int .u32 (p_1.Iv.toNat : Int), .int .u32 (p_1.Tag.toNat : Int), .int .u32 (p_1.Sum.toNat : Int)], .agg #[.int .i64 p_2.At, .int .u32 (p_2.Birth.toNat : Int), .int .u32 (p_2.Iv.toNat : Int), .int .u32 (p_2.Tag.toNat : Int), .int .u32 (p_2.Sum.toNat : Int)]]) (l := [(0, .agg #[.int .i64 p_1.At, .int .u32 (p_1.Birth.toNat : Int), .int .u32 (p_1.Iv.toNat : Int), .int .u32 (p_1.Tag.toNat : Int), .int .u32 (p_1.Sum.toNat : Int)]), (1, .agg #[.int .i64 p_2.At, .int .u32 (p_2.Birth.toNat : Int), .int .u32 (p_2.Iv.toNat : Int), .int .u32 (p_2.Tag.toNat : Int), .int .u32 (p_2.Sum.toNat : Int)])]) Try.func25 rfl rfl ⟨rfl, rfl, trivial⟩ (fun w hlt => ?_)
  rw [dead_Join_1.eq_1] at hx
  refine JC.seq ?_
  refine JC.region ?_
  refine JL.box rfl rfl (fun b_3 hb_3 => ?_)
  refine JL.box rfl rfl (fun b_4 hb_4 => ?_)
  refine JL.val rfl rfl (R.assign rfl) ?_
  refine JL.nil ?_
  refine JN.next ?_
  refine JC.seq ?_
  refine JC.region ?_
  refine JL.val rfl rfl (R.fa F32_0 rfl) ?_
  refine JL.val rfl rfl (R.ldo 1 S3 rfl rfl rfl) ?_
  refine JL.val rfl rfl (R.fa F32_0 rfl) ?_
  refine JL.val rfl rfl (R.ldo 0 S3 rfl rfl rfl) ?_
  refine JL.val rfl rfl (R.eql_i rfl rfl) ?_
  refine JL.val rfl rfl (R.assign rfl) ?_
  refine JL.nil ?_
  refine JN.next ?_
  refine JC.ret ?_
  refine JN.outP (vs := [.bool (decide (p_1.At = p_2.At))]) (K := []) (rst := [_, _]) (.inl rfl) rfl rfl (Res.tmp rfl rfl) picks0 ?_
  obtain rfl := Option.some.inj hx
  exact ⟨rfl, rfl, rfl, trivial⟩

set_option maxHeartbeats 1000000 in
theorem slices_CompactFunc_Ptr_ok (p_1 : List Ptr) (H : Heaplet) {aor_2 : Option Addr} {nr_2 : Nat} {capr_2 : Nat} {Kr_2 : Own} (hr_2 : RowOf H R_Ptr 0 32 5 (.slice aor_2 nr_2 capr_2) p_1 Kr_2) (r : List Ptr) (hx : slices_CompactFunc_Ptr p_1 = some r) :
    Does Try.prog 23 #[.slice aor_2 nr_2 capr_2, .func (.func 25) #[] #[]] [Kr_2] H (fun u K' H' => ∃ ao0 : Option Addr, ∃ n0 : Nat, ∃ cap0 : Nat, ∃ K0 : Own, u = .slice ao0 n0 cap0 ∧ K' = [K0] ∧ H = H' ∧ RowOf (New H H) R_Ptr 0 32 5 (.slice ao0 n0 cap0) r K0 ∧ True) := by
  refine Does.enterL (vs := [.slice aor_2 nr_2 capr_2, .func (.func 25) #[] #[]]) (l := [(0, .slice aor_2 nr_2 capr_2), (1, .func (.func 25) #[] #[])]) Try.func23 rfl rfl ⟨rfl, rfl, trivial⟩ (fun w hlt => ?_)
  replace hr_2 := RowOf.const (H2 := New H H) R_Ptr.const hr_2
  rw [slices_CompactFunc_Ptr.eq_1] at hx
  refine JC.seq ?_
  refine JC.region ?_
  refine JL.val rfl rfl (R.assign rfl) ?_
  refine JL.nil ?_
  refine JN.next ?_
  refine JC.seq ?_
  refine JC.seq ?_
  refine JC.region ?_
  refine JL.val rfl rfl (R.move rfl) ?_
  refine JL.val rfl rfl (R.lenL U22 rfl (RowOf.long hr_2)) ?_
  refine JL.val rfl rfl (R.lss_i rfl rfl) ?_
  refine JL.nil ?_
  refine JN.next ?_
  refine JC.condB rfl (fun c_3 => ?_) (fun c_3 => ?_)
  · replace hx := cond_t c_3 hx
    refine JC.seq ?_
    refine JC.region ?_
    refine JL.val rfl rfl (R.move rfl) ?_
    refine JL.val rfl rfl (R.assign rfl) ?_
    refine JL.nil ?_
    refine JN.next ?_
    refine JC.ret ?_
    refine JN.passR ?_
    refine JN.outP (vs := [.slice aor_2 nr_2 capr_2]) (K := [_]) (rst := []) (.inl rfl) rfl rfl (Res.tmp rfl rfl) (picks 0 rfl picks0) ?_
    obtain rfl := Option.some.inj hx
    exact ⟨aor_2, nr_2, capr_2, Kr_2, rfl, rfl, rfl, (RowOf.weak (Nat.zero_le _) hr_2), trivial⟩
  · replace hx := cond_f c_3 hx
    refine JC.skip ?_
    refine JN.next ?_
    refine JC.seq ?_
    refine JC.seq ?_
    refine JC.region ?_
    refine JL.val rfl rfl (R.assign rfl) ?_
    refine JL.nil ?_
    refine JN.next ?_
    obtain ⟨t_4, ht_6, hx⟩ := bnd_some hx
    refine JC.cut (fun l o g => ∃ t_4a : Unit, l = [(0, .slice aor_2 nr_2 capr_2)] ∧ o = [Kr_2] ∧ H = g ∧ t_4 = .inl t_4a) ?_ ?_
    · rintro _ _ _ ⟨t_4a, rfl, rfl, rfl, rfl⟩
      simp only [Sum.elim_inl] at hx
      refine JN.next ?_
      refine JC.seq ?_
      refine JC.region ?_
      refine JL.val rfl rfl (R.move rfl) ?_
      refine JL.val rfl rfl (R.assign rfl) ?_
      refine JL.nil ?_
      refine JN.next ?_
      refine JC.ret ?_
      refine JN.outP (vs := [.slice aor_2 nr_2 capr_2]) (K := [_]) (rst := []) (.inl rfl) rfl rfl (Res.tmp rfl rfl) (picks 0 rfl picks0) ?_
      obtain rfl := Option.some.inj hx
      exact ⟨aor_2, nr_2, capr_2, Kr_2, rfl, rfl, rfl, (RowOf.weak (Nat.zero_le _) hr_2), trivial⟩
    · have hxo_5 := hx; clear hx; have hx := ht_6; clear ht_6
      refine JC.block ?_
      refine JC.loopI (fun n l o g => ∃ s_7 : Nat, l = [(0, .slice aor_2 nr_2 capr_2), (1, .func (.func 25) #[] #[]), (5, .int .i64 ((s_7 : Nat) : Int))] ∧ o = [Kr_2] ∧ H = g ∧ run (slices_CompactFunc_Ptr_l2 p_1) n s_7 = some t_4) FUEL ?_ ⟨1, rfl, rfl, rfl, hx⟩ ⟨rfl, rfl, rfl, trivial⟩ ?_
      · rintro _ _ _ ⟨s_7, rfl, rfl, rfl, hn_8⟩
        exact run_zero hn_8
      · rintro n_9 _ _ _ ⟨s_7, rfl, rfl, rfl, hn_8⟩
        clear hx; obtain ⟨oo_11, hx, hd_10⟩ := run_some hn_8
        rw [slices_CompactFunc_Ptr_l2.eq_1] at hx
        refine JC.seq ?_
        refine JC.seq ?_
        refine JC.region ?_
        refine JL.val rfl rfl (R.move rfl) ?_
        refine JL.val rfl rfl (R.move rfl) ?_
        refine JL.val rfl rfl (R.lenL U22 rfl (RowOf.long hr_2)) ?_
        refine JL.val rfl rfl (R.lss_i rfl rfl) ?_
        refine JL.nil ?_
        refine JN.next ?_
        refine JC.condB rfl (fun c_10 => ?_) (fun c_10 => ?_)
        · replace hx := cond_t c_10 hx
          refine JC.skip ?_
          refine JN.next ?_
          refine JC.seq ?_
          refine JC.block ?_
          refine JC.seq ?_
          refine JC.draw (so := [_]) 11 rfl Mixed ⟨⟨0, rfl⟩, trivial⟩ ?_
          refine JA.val ⟨by kernel_rfl, by kernel_rfl⟩ (calm_only _) (i := 0) rfl ⟨by kernel_rfl, by kernel_rfl, rfl⟩ trivial (stab_of (Hle.refl _) ⟨⟨0, rfl⟩, trivial⟩) (R.move rfl) rfl ?_
          refine JA.val ⟨by kernel_rfl, by kernel_rfl⟩ (calm_only _) (i := 1) rfl ⟨by kernel_rfl, by kernel_rfl, rfl⟩ trivial (stab_of (Hle.refl _) ⟨⟨0, rfl⟩, trivial⟩) (R.move rfl) rfl ?_
          refine JA.val ⟨by kernel_rfl, by kernel_rfl⟩ (calm_only _) (i := 2) rfl ⟨by kernel_rfl, by kernel_rfl, rfl⟩ trivial (stab_of (Hle.refl _) ⟨⟨0, rfl⟩, trivial⟩) (R.move rfl) rfl ?_
          obtain ⟨y_11, hN_12, hx⟩ := idx_some hx
          obtain ⟨b_13, o_14, cs_15, cur_20, hK_21, hE_16, hR_17, hl_18, hc_19⟩ := RowOf.elem hr_2 hN_12
          subst hK_21
          obtain rfl := hR_17
          refine JA.val ⟨by kernel_rfl, by kernel_rfl⟩ (calm_only _) (i := 3) rfl ⟨by kernel_rfl, by kernel_rfl, rfl⟩ trivial (stab_of (Hle.refl _) ⟨⟨0, rfl⟩, trivial⟩) (R.ix U22 S32 rfl rfl hE_16) rfl ?_
          refine JA.val ⟨by kernel_rfl, by kernel_rfl⟩ (calm_only _) (i := 4) rfl ⟨by kernel_rfl, by kernel_rfl, rfl⟩ trivial (stab_of (Hle.refl _) ⟨⟨0, rfl⟩, trivial⟩) (R.ldoE 0 (cs := [.int .i64 y_11.At, .int .u32 (y_11.Birth.toNat : Int), .int .u32 (y_11.Iv.toNat : Int), .int .u32 (y_11.Tag.toNat : Int), .int .u32 (y_11.Sum.toNat : Int)]) (k := 0) (vs := [.int .i64 y_11.At, .int .u32 (y_11.Birth.toNat : Int), .int .u32 (y_11.Iv.toNat : Int), .int .u32 (y_11.Tag.toNat : Int), .int .u32 (y_11.Sum.toNat : Int)]) S32 rfl rfl hc_19 rfl rfl) rfl ?_
          refine JA.val ⟨by kernel_rfl, by kernel_rfl⟩ (calm_only _) (i := 5) rfl ⟨by kernel_rfl, by kernel_rfl, rfl⟩ trivial (stab_of (Hle.refl _) ⟨⟨0, rfl⟩, trivial⟩) (R.move rfl) rfl ?_
          refine JA.val ⟨by kernel_rfl, by kernel_rfl⟩ (calm_only _) (i := 6) rfl ⟨by kernel_rfl, by kernel_rfl, rfl⟩ trivial (stab_of (Hle.refl _) ⟨⟨0, rfl⟩, trivial⟩) (R.move rfl) rfl ?_
          refine JA.val ⟨by kernel_rfl, by kernel_rfl⟩ (calm_only _) (i := 7) rfl ⟨by kernel_rfl, by kernel_rfl, rfl⟩ trivial (stab_of (Hle.refl _) ⟨⟨0, rfl⟩, trivial⟩) (R.sub_i rfl rfl) rfl ?_
          obtain ⟨y_22, hN_23, hx⟩ := idx_some hx
          obtain ⟨b_24, o_25, cs_26, cur_31, hK_32, hE_27, hR_28, hl_29, hc_30⟩ := RowOf.elem hr_2 hN_23
          obtain ⟨rfl, rfl⟩ : b_13 = b_24 ∧ cur_20 = cur_31 := by simpa using hK_32
          obtain rfl := hR_28
          refine JA.val ⟨by kernel_rfl, by kernel_rfl⟩ (calm_only _) (i := 8) rfl ⟨by kernel_rfl, by kernel_rfl, rfl⟩ trivial (stab_of (Hle.refl _) ⟨⟨0, rfl⟩, trivial⟩) (R.ix U22 S32 rfl rfl hE_27) rfl ?_
          refine JA.val ⟨by kernel_rfl, by kernel_rfl⟩ (calm_only _) (i := 9) rfl ⟨by kernel_rfl, by kernel_rfl, rfl⟩ trivial (stab_of (Hle.refl _) ⟨⟨0, rfl⟩, trivial⟩) (R.ldoE 0 (cs := [.int .i64 y_22.At, .int .u32 (y_22.Birth.toNat : Int), .int .u32 (y_22.Iv.toNat : Int), .int .u32 (y_22.Tag.toNat : Int), .int .u32 (y_22.Sum.toNat : Int)]) (k := 0) (vs := [.int .i64 y_22.At, .int .u32 (y_22.Birth.toNat : Int), .int .u32 (y_22.Iv.toNat : Int), .int .u32 (y_22.Tag.toNat : Int), .int .u32 (y_22.Sum.toNat : Int)]) S32 rfl rfl hc_30 rfl rfl) rfl ?_
          refine JA.one (i := 10) (by kernel_rfl) ?_
          refine JO.step rfl trivial rfl (fun K hK => ?_)
          obtain ⟨x_33, hr_34, hx⟩ := bnd_some hx
          refine JL.callC (vs := [_, _]) (args := [_, _]) (K := []) (rst := [_]) E25 rfl rfl rfl picks0 (dead_Join_1_ok y_11 y_22 _ _ hr_34) rfl (fun u_35 Ku_35 Hu_35 hRu_35 hleu_35 hfu_35 => ?_)
          obtain ⟨rfl, rfl, rfl, -⟩ := hRu_35
          refine JL.nil ?_
          refine hK _ _ _ (stab_of (Hle.refl _) ⟨⟨0, rfl⟩, trivial⟩) ?_
          refine JA.doneN (by kernel_rfl) ?_
          refine JN.next ?_
          refine JC.condB rfl (fun c_36 => ?_) (fun c_36 => ?_)
          · replace hx := cond_t c_36 hx
            refine JC.seq ?_
            refine JC.region ?_
            refine JL.val rfl rfl (R.move rfl) ?_
            refine JL.val rfl rfl (R.move rfl) ?_
            obtain ⟨hb_38, hx⟩ := chk_some hx
            obtain ⟨vv_37, cv_37, h1v_37, h2v_37, h3v_37, hsv_37, hlv_37⟩ := RowOf.cutv hr_2 hb_38
            refine JL.val rfl rfl (R.slc (cap := cv_37) (a := ((s_7 : Nat) : Int)) (b := (p_1.length : Int)) (c := (cv_37 : Int)) (m := p_1) (R := R_Ptr) U22 S32 rfl ⟨_, rfl⟩ rfl (by obtain ⟨ao, n, e, _⟩ := h1v_37; exact ⟨ao, n, e, rfl⟩) ⟨hb_38.1, hb_38.2.1, h2v_37⟩ h3v_37 (.inl rfl)) ?_
            refine JL.val rfl rfl (R.assign rfl) ?_
            refine JL.nil ?_
            refine JN.next ?_
            refine JC.seq ?_
            refine JC.seq ?_
            refine JC.region ?_
            refine JL.val rfl rfl (R.assign rfl) ?_
            refine JL.nil ?_
            refine JN.next ?_
            obtain ⟨t_39, ht_41, hx⟩ := bnd_some hx
            refine JC.cut (fun l o g => ∃ Kr_46 : Own, l = [(0, .slice aor_2 nr_2 capr_2), (5, .int .i64 t_39.2)] ∧ o = [Kr_46] ∧ H = g ∧ RowOf (New H H) R_Ptr 0 32 5 (.slice aor_2 nr_2 capr_2) t_39.1 Kr_46) ?_ ?_
            · rintro _ _ _ ⟨Kr_46, rfl, rfl, rfl, hr_46⟩
              refine JN.next ?_
              refine JC.seq ?_
              refine JC.region ?_
              refine JL.val rfl rfl (R.move rfl) ?_
              refine JL.val rfl rfl (R.move rfl) ?_
              obtain ⟨hb_48, hx⟩ := chk_some hx
              obtain ⟨vv_47, cv_47, h1v_47, h2v_47, h3v_47, hsv_47, hlv_47⟩ := RowOf.cutv hr_46 hb_48
              refine JL.val rfl rfl (R.slc (cap := cv_47) (a := t_39.2) (b := (t_39.1.length : Int)) (c := (cv_47 : Int)) (m := t_39.1) (R := R_Ptr) U22 S32 rfl ⟨_, rfl⟩ rfl (by obtain ⟨ao, n, e, _⟩ := h1v_47; exact ⟨ao, n, e, rfl⟩) ⟨hb_48.1, hb_48.2.1, h2v_47⟩ h3v_47 (.inl rfl)) ?_
              obtain ⟨m_49, hm_50, hx⟩ := clrO_some hx
              refine JL.clearR 0 (y := Ptr.mk 0 (0 : UInt32) (0 : UInt32) (0 : UInt32) (0 : UInt32)) U22 I32 rfl hr_46 rfl hsv_47 (fun _ => rfl) R_Ptr.one hm_50 (fun Kr_51 hr_51 hlr_51 => ?_)
              refine JL.nil ?_
              refine JN.next ?_
              refine JC.seq ?_
              refine JC.region ?_
              refine JL.val rfl rfl (R.move rfl) ?_
              refine JL.val rfl rfl (R.move rfl) ?_
              obtain ⟨m_54, hm_55, hb_53, hx⟩ := slc_some hx
              obtain ⟨vv_52, cv_52, h1v_52, h2v_52, h3v_52, hsv_52⟩ := RowOf.pre hr_51 hm_55 hb_53
              refine JL.val rfl rfl (R.slc (cap := cv_52) (a := 0) (b := t_39.2) (c := (cv_52 : Int)) (m := m_49) (R := R_Ptr) U22 S32 rfl rfl ⟨_, rfl⟩ (by obtain ⟨ao, n, e, _⟩ := h1v_52; exact ⟨ao, n, e, rfl⟩) ⟨hb_53.1, hb_53.2.1, h2v_52⟩ h3v_52 (.inl rfl)) ?_
              obtain ⟨aov_52, capv_52, rfl⟩ := RowOf.val hsv_52
              refine JL.val rfl rfl (R.assign rfl) ?_
              refine JL.nil ?_
              refine JN.next ?_
              refine JC.ret ?_
              refine JN.blkR ?_
              refine JN.passR ?_
              obtain rfl := run_done hd_10 hx
              refine JN.passR ?_
              refine JN.blkR ?_
              clear hx; have hx := hxo_5
              simp only [Sum.elim_inl, Sum.elim_inr] at hx
              refine JN.passR ?_
              refine JN.passR ?_
              refine JN.outP (vs := [.slice aov_52 m_54.length capv_52]) (K := [_]) (rst := []) (.inl rfl) rfl rfl (Res.tmp rfl rfl) (picks 0 rfl picks0) ?_
              obtain rfl := Option.some.inj hx
              exact ⟨aov_52, m_54.length, capv_52, Kr_51, rfl, rfl, rfl, (RowOf.weak (Nat.zero_le _) hsv_52), trivial⟩
            · have hxo_40 := hx; clear hx; have hx := ht_41; clear ht_41
              refine JC.block ?_
              refine JC.loopI (fun n l o g => ∃ s_42 : List Ptr × Int × Int, ∃ Kr_45 : Own, l = [(0, .slice aor_2 nr_2 capr_2), (1, .func (.func 25) #[] #[]), (5, .int .i64 s_42.2.1), (6, vv_37), (7, .int .i64 s_42.2.2)] ∧ o = [Kr_45] ∧ H = g ∧ run (slices_CompactFunc_Ptr_l1 p_1 s_7) n s_42 = some t_39 ∧ RowOf (New H H) R_Ptr 0 32 5 (.slice aor_2 nr_2 capr_2) s_42.1 Kr_45) FUEL ?_ ⟨(p_1, ((s_7 : Nat) : Int), 1), [(b_13, .cells cur_20 32 (0, 0))], rfl, rfl, rfl, hx, hr_2⟩ ⟨rfl, rfl, rfl, rfl, rfl, trivial⟩ ?_
              · rintro _ _ _ ⟨s_42, Kr_45, rfl, rfl, rfl, hn_43, hr_45⟩
                exact run_zero hn_43
              · rintro n_44 _ _ _ ⟨s_42, Kr_45, rfl, rfl, rfl, hn_43, hr_45⟩
                clear hx; obtain ⟨oo_47, hx, hd_46⟩ := run_some hn_43
                rw [slices_CompactFunc_Ptr_l1.eq_1] at hx
                refine JC.seq ?_
                refine JC.seq ?_
                refine JC.region ?_
                refine JL.val rfl rfl (R.move rfl) ?_
                refine JL.val rfl rfl (R.move rfl) ?_
                refine JL.val rfl rfl (R.lenE U22 rfl hlv_37) ?_
                refine JL.val rfl rfl (R.lss_i rfl rfl) ?_
                refine JL.nil ?_
                refine JN.next ?_
                refine JC.condB rfl (fun c_46 => ?_) (fun c_46 => ?_)
                · replace hx := cond_t c_46 hx
                  refine JC.skip ?_
                  refine JN.next ?_
                  refine JC.seq ?_
                  refine JC.block ?_
                  refine JC.seq ?_
                  refine JC.draw (so := [_]) 12 rfl Mixed ⟨⟨0, rfl⟩, trivial⟩ ?_
                  refine JA.val ⟨by kernel_rfl, by kernel_rfl⟩ (calm_only _) (i := 0) rfl ⟨by kernel_rfl, by kernel_rfl, rfl⟩ trivial (stab_of (Hle.refl _) ⟨⟨0, rfl⟩, trivial⟩) (R.move rfl) rfl ?_
                  refine JA.val ⟨by kernel_rfl, by kernel_rfl⟩ (calm_only _) (i := 1) rfl ⟨by kernel_rfl, by kernel_rfl, rfl⟩ trivial (stab_of (Hle.refl _) ⟨⟨0, rfl⟩, trivial⟩) (R.move rfl) rfl ?_
                  refine JA.val ⟨by kernel_rfl, by kernel_rfl⟩ (calm_only _) (i := 2) rfl ⟨by kernel_rfl, by kernel_rfl, rfl⟩ trivial (stab_of (Hle.refl _) ⟨⟨0, rfl⟩, trivial⟩) (R.move rfl) rfl ?_
                  obtain ⟨hp_47, hx⟩ := chk_some hx
                  obtain ⟨y_48, hN_49, hx⟩ := idx_some hx
                  obtain ⟨b_50, o_51, cs_52, cur_57, hK_58, hE_53, hR_54, hl_55, hc_56⟩ := RowOf.elem hr_45 hN_49
                  subst hK_58
                  obtain rfl := hR_54
                  refine JA.val ⟨by kernel_rfl, by kernel_rfl⟩ (calm_only _) (i := 3) rfl ⟨by kernel_rfl, by kernel_rfl, rfl⟩ trivial (stab_of (Hle.refl _) ⟨⟨0, rfl⟩, trivial⟩) (R.ix U22 S32 rfl rfl (ElemAt.sub hsv_37 hE_53 (i := s_42.2.2) (by have := hb_38; have := hp_47; omega) (by have := hb_38; have := hp_47; omega))) rfl ?_
                  refine JA.val ⟨by kernel_rfl, by kernel_rfl⟩ (calm_only _) (i := 4) rfl ⟨by kernel_rfl, by kernel_rfl, rfl⟩ trivial (stab_of (Hle.refl _) ⟨⟨0, rfl⟩, trivial⟩) (R.ldoE 0 (cs := [.int .i64 y_48.At, .int .u32 (y_48.Birth.toNat : Int), .int .u32 (y_48.Iv.toNat : Int), .int .u32 (y_48.Tag.toNat : Int), .int .u32 (y_48.Sum.toNat : Int)]) (k := 0) (vs := [.int .i64 y_48.At, .int .u32 (y_48.Birth.toNat : Int), .int .u32 (y_48.Iv.toNat : Int), .int .u32 (y_48.Tag.toNat : Int), .int .u32 (y_48.Sum.toNat : Int)]) S32 rfl rfl hc_56 rfl rfl) rfl ?_
                  refine JA.val ⟨by kernel_rfl, by kernel_rfl⟩ (calm_only _) (i := 5) rfl ⟨by kernel_rfl, by kernel_rfl, rfl⟩ trivial (stab_of (Hle.refl _) ⟨⟨0, rfl⟩, trivial⟩) (R.move rfl) rfl ?_
                  refine JA.val ⟨by kernel_rfl, by kernel_rfl⟩ (calm_only _) (i := 6) rfl ⟨by kernel_rfl, by kernel_rfl, rfl⟩ trivial (stab_of (Hle.refl _) ⟨⟨0, rfl⟩, trivial⟩) (R.move rfl) rfl ?_
                  refine JA.val ⟨by kernel_rfl, by kernel_rfl⟩ (calm_only _) (i := 7) rfl ⟨by kernel_rfl, by kernel_rfl, rfl⟩ trivial (stab_of (Hle.refl _) ⟨⟨0, rfl⟩, trivial⟩) (R.sub_i rfl rfl) rfl ?_
                  obtain ⟨hp_59, hx⟩ := chk_some hx
                  obtain ⟨y_60, hN_61, hx⟩ := idx_some hx
                  obtain ⟨b_62, o_63, cs_64, cur_69, hK_70, hE_65, hR_66, hl_67, hc_68⟩ := RowOf.elem hr_45 hN_61
                  obtain ⟨rfl, rfl⟩ : b_50 = b_62 ∧ cur_57 = cur_69 := by simpa using hK_70
                  obtain rfl := hR_66
                  refine JA.val ⟨by kernel_rfl, by kernel_rfl⟩ (calm_only _) (i := 8) rfl ⟨by kernel_rfl, by kernel_rfl, rfl⟩ trivial (stab_of (Hle.refl _) ⟨⟨0, rfl⟩, trivial⟩) (R.ix U22 S32 rfl rfl (ElemAt.sub hsv_37 hE_65 (i := w64 (s_42.2.2 - 1)) (by have := hb_38; have := hp_59; omega) (by have := hb_38; have := hp_59; omega))) rfl ?_
                  refine JA.val ⟨by kernel_rfl, by kernel_rfl⟩ (calm_only _) (i := 9) rfl ⟨by kernel_rfl, by kernel_rfl, rfl⟩ trivial (stab_of (Hle.refl _) ⟨⟨0, rfl⟩, trivial⟩) (R.ldoE 0 (cs := [.int .i64 y_60.At, .int .u32 (y_60.Birth.toNat : Int), .int .u32 (y_60.Iv.toNat : Int), .int .u32 (y_60.Tag.toNat : Int), .int .u32 (y_60.Sum.toNat : Int)]) (k := 0) (vs := [.int .i64 y_60.At, .int .u32 (y_60.Birth.toNat : Int), .int .u32 (y_60.Iv.toNat : Int), .int .u32 (y_60.Tag.toNat : Int), .int .u32 (y_60.Sum.toNat : Int)]) S32 rfl rfl hc_68 rfl rfl) rfl ?_
                  refine JA.one (i := 10) (by kernel_rfl) ?_
                  refine JO.step rfl trivial rfl (fun K hK => ?_)
                  obtain ⟨x_71, hr_72, hx⟩ := bnd_some hx
                  refine JL.callC (vs := [_, _]) (args := [_, _]) (K := []) (rst := [_]) E25 rfl rfl rfl picks0 (dead_Join_1_ok y_48 y_60 _ _ hr_72) rfl (fun u_73 Ku_73 Hu_73 hRu_73 hleu_73 hfu_73 => ?_)
                  obtain ⟨rfl, rfl, rfl, -⟩ := hRu_73
                  refine JL.nil ?_
                  refine hK _ _ _ (stab_of (Hle.refl _) ⟨⟨0, rfl⟩, trivial⟩) ?_
                  refine JA.val ⟨by kernel_rfl, by kernel_rfl⟩ (calm_only _) (i := 11) rfl ⟨by kernel_rfl, by kernel_rfl, rfl⟩ trivial (stab_of (Hle.refl _) ⟨⟨0, rfl⟩, trivial⟩) (R.not rfl) rfl ?_
                  refine JA.doneN (by kernel_rfl) ?_
                  refine JN.next ?_
                  refine JC.condB rfl (fun c_74 => ?_) (fun c_74 => ?_)
                  · replace hx := cond_t c_74 hx
                    refine JC.seq ?_
                    refine JC.region ?_
                    refine JL.val rfl rfl (R.move rfl) ?_
                    refine JL.val rfl rfl (R.move rfl) ?_
                    refine JL.val rfl rfl (R.move rfl) ?_
                    refine JL.val rfl rfl (R.move rfl) ?_
                    obtain ⟨hp_75, hx⟩ := chk_some hx
                    obtain ⟨y_76, hN_77, hx⟩ := idx_some hx
                    obtain ⟨b_78, o_79, cs_80, cur_85, hK_86, hE_81, hR_82, hl_83, hc_84⟩ := RowOf.elem hr_45 hN_77
                    obtain ⟨rfl, rfl⟩ : b_50 = b_78 ∧ cur_57 = cur_85 := by simpa using hK_86
                    obtain rfl := hR_82
                    refine JL.val rfl rfl (R.ix U22 S32 rfl rfl (ElemAt.sub hsv_37 hE_81 (i := s_42.2.2) (by have := hb_38; have := hp_75; omega) (by have := hb_38; have := hp_75; omega))) ?_
                    refine JL.val rfl rfl (R.ldoE 0 (cs := [.int .i64 y_76.At, .int .u32 (y_76.Birth.toNat : Int), .int .u32 (y_76.Iv.toNat : Int), .int .u32 (y_76.Tag.toNat : Int), .int .u32 (y_76.Sum.toNat : Int)]) (k := 0) (vs := [.int .i64 y_76.At, .int .u32 (y_76.Birth.toNat : Int), .int .u32 (y_76.Iv.toNat : Int), .int .u32 (y_76.Tag.toNat : Int), .int .u32 (y_76.Sum.toNat : Int)]) S32 rfl rfl hc_84 rfl rfl) ?_
                    obtain ⟨hp_87, hx⟩ := chk_some hx
                    obtain ⟨b_88, o_89, hE_90⟩ := RowOf.place hr_45 hp_87
                    refine JL.val rfl rfl (R.ix U22 S32 rfl rfl hE_90) ?_
                    obtain ⟨m_91, hm_92, hi_93, hx⟩ := setI_some hx
                    refine JL.stE 0 (k := s_42.2.1) (y := y_76) S32 rfl hr_45 rfl hE_90 rfl rfl (rfl) R_Ptr.one hm_92 (fun Kr_94 hr_94 hlr_94 => ?_)
                    refine JL.nil ?_
                    refine JN.next ?_
                    refine JC.region ?_
                    refine JL.val rfl rfl (R.move rfl) ?_
                    refine JL.val rfl rfl (R.add_i rfl rfl) ?_
                    refine JL.val rfl rfl (R.assign rfl) ?_
                    refine JL.nil ?_
                    refine JN.blkN ?_
                    refine JN.next ?_
                    refine JC.region ?_
                    refine JL.val rfl rfl (R.move rfl) ?_
                    refine JL.val rfl rfl (R.add_i rfl rfl) ?_
                    refine JL.val rfl rfl (R.assign rfl) ?_
                    refine JL.nil ?_
                    replace hx := run_next hd_46 hx
                    exact JN.cut ⟨(m_91, w64 (s_42.2.1 + 1), w64 (s_42.2.2 + 1)), Kr_94, rfl, rfl, rfl, hx, hr_94⟩ ⟨rfl, rfl, rfl, rfl, rfl, trivial⟩ rfl rfl
                  · replace hx := cond_f c_74 hx
                    refine JC.skip ?_
                    refine JN.blkN ?_
                    refine JN.next ?_
                    refine JC.region ?_
                    refine JL.val rfl rfl (R.move rfl) ?_
                    refine JL.val rfl rfl (R.add_i rfl rfl) ?_
                    refine JL.val rfl rfl (R.assign rfl) ?_
                    refine JL.nil ?_
                    replace hx := run_next hd_46 hx
                    exact JN.cut ⟨(s_42.1, s_42.2.1, w64 (s_42.2.2 + 1)), [(b_50, .cells cur_57 32 (0, 0))], rfl, rfl, rfl, hx, hr_45⟩ ⟨rfl, rfl, rfl, rfl, rfl, trivial⟩ rfl rfl
                · replace hx := cond_f c_46 hx
                  refine JC.exit ?_
                  refine JN.passX ?_
                  obtain rfl := run_done hd_46 hx
                  refine JN.passX ?_
                  refine JN.exitSame ?_
                  exact JN.cut ⟨Kr_45, rfl, rfl, rfl, hr_45⟩ ⟨rfl, rfl, trivial⟩ rfl rfl
          · replace hx := cond_f c_36 hx
            refine JC.skip ?_
            refine JN.blkN ?_
            refine JN.next ?_
            refine JC.region ?_
            refine JL.val rfl rfl (R.move rfl) ?_
            refine JL.val rfl rfl (R.inc rfl rfl (of_decide_eq_true c_10) (RowOf.lenI hr_2)) ?_
            refine JL.val rfl rfl (R.assign rfl) ?_
            refine JL.nil ?_
            replace hx := run_next hd_10 hx
            exact JN.cut ⟨s_7 + 1, rfl, rfl, rfl, hx⟩ ⟨rfl, rfl, rfl, trivial⟩ rfl rfl
        · replace hx := cond_f c_10 hx
          refine JC.exit ?_
          refine JN.passX ?_
          obtain rfl := run_done hd_10 hx
          refine JN.passX ?_
          refine JN.exitSame ?_
          exact JN.cut ⟨(), rfl, rfl, rfl, rfl⟩ ⟨rfl, trivial⟩ rfl rfl

set_option maxHeartbeats 1000000 in
theorem dead_Join_ok (p_1 : List Ptr) (p_3 : List Ptr) (H : Heaplet) {aoa_2 : Option Addr} {na_2 : Nat} {capa_2 : Nat} {aoa_4 : Option Addr} {na_4 : Nat} {capa_4 : Nat} (ha_2 : IsSlice H R_Ptr 5 (.slice aoa_2 na_2 capa_2) p_1) (ha_4 : IsSlice H R_Ptr 5 (.slice aoa_4 na_4 capa_4) p_3) (r : List Ptr × Int) (hx : dead_Join p_1 p_3 = some r) :
    Does Try.prog 8 #[.slice aoa_2 na_2 capa_2, .slice aoa_4 na_4 capa_4] [] H (fun u K' H' => ∃ ao0 : Option Addr, ∃ n0 : Nat, ∃ cap0 : Nat, u = .tuple #[.slice ao0 n0 cap0, .int .i64 r.2] ∧ K' = [] ∧ IsSlice (New H H') R_Ptr 5 (.slice ao0 n0 cap0) r.1 ∧ True) := by
  refine Does.enterL (vs := [.slice aoa_2 na_2 capa_2, .slice aoa_4 na_4 capa_4]) (l := [(0, .slice aoa_2 na_2 capa_2), (1, .slice aoa_4 na_4 capa_4)]) Try.func8 rfl rfl ⟨rfl, rfl, trivial⟩ (fun w hlt => ?_)
  rw [dead_Join.eq_1] at hx
  refine JC.seq ?_
  refine JC.region ?_
  refine JL.val rfl rfl (R.assign rfl) ?_
  refine JL.val rfl rfl (R.assign rfl) ?_
  refine JL.nil ?_
  refine JN.next ?_
  refine JC.seq ?_
  refine JC.seq ?_
  refine JC.region ?_
  refine JL.val rfl rfl (R.move rfl) ?_
  obtain ⟨x_5, hr_6, hx⟩ := bnd_some hx
  refine JL.callC (vs := [_]) (args := [_]) (K := []) (rst := []) E10 rfl rfl rfl picks0 (dead_Check_ok p_1 _ ha_2 _ hr_6) rfl (fun u_7 Ku_7 Hu_7 hRu_7 hleu_7 hfu_7 => ?_)
  obtain ⟨rfl, rfl, rfl, -⟩ := hRu_7
  refine JL.val rfl rfl (R.neq_i rfl rfl) ?_
  refine JL.val rfl rfl (R.move rfl) ?_
  refine JL.gSplit (t := 10) rfl (fun c_8 => ?_) (fun c_8 => ?_)
  · replace hx := cond_t c_8 hx
    refine JL.gNo rfl rfl rfl rfl rfl ?_
    refine JL.gNo rfl rfl rfl rfl rfl ?_
    refine JL.gNo rfl rfl rfl rfl rfl ?_
    refine JL.val rfl rfl (R.pickT rfl rfl) ?_
    refine JL.nil ?_
    refine JN.next ?_
    refine JC.condT rfl ?_
    refine JC.seq ?_
    refine JC.region ?_
    refine JL.val rfl rfl (R.assign rfl) ?_
    refine JL.val rfl rfl (R.assign rfl) ?_
    refine JL.nil ?_
    refine JN.next ?_
    refine JC.ret ?_
    refine JN.passR ?_
    refine JN.outP (vs := [.slice none 0 0, .int .i64 8]) (K := []) (rst := []) (.inl rfl) rfl rfl (Res.tmp rfl (Res.tmp rfl rfl)) picks0 ?_
    obtain rfl := Option.some.inj hx
    exact ⟨none, 0, 0, rfl, rfl, (IsSlice.nil _ _ _), trivial⟩
  · replace hx := cond_f c_8 hx
    refine JL.gYes rfl rfl rfl ?_
    refine JL.val rfl rfl (R.move rfl) ?_
    refine JL.gYes rfl rfl rfl ?_
    obtain ⟨x_9, hr_10, hx⟩ := bnd_some hx
    refine JL.callC (vs := [_]) (args := [_]) (K := []) (rst := []) E10 rfl rfl rfl picks0 (dead_Check_ok p_3 _ ha_4 _ hr_10) rfl (fun u_11 Ku_11 Hu_11 hRu_11 hleu_11 hfu_11 => ?_)
    obtain ⟨rfl, rfl, rfl, -⟩ := hRu_11
    refine JL.gYes rfl rfl rfl ?_
    refine JL.val rfl rfl (R.neq_i rfl rfl) ?_
    refine JL.val rfl rfl (R.pickF rfl rfl) ?_
    refine JL.nil ?_
    refine JN.next ?_
    refine JC.condB rfl (fun c_12 => ?_) (fun c_12 => ?_)
    · replace hx := cond_t c_12 hx
      refine JC.seq ?_
      refine JC.region ?_
      refine JL.val rfl rfl (R.assign rfl) ?_
      refine JL.val rfl rfl (R.assign rfl) ?_
      refine JL.nil ?_
      refine JN.next ?_
      refine JC.ret ?_
      refine JN.passR ?_
      refine JN.outP (vs := [.slice none 0 0, .int .i64 8]) (K := []) (rst := []) (.inl rfl) rfl rfl (Res.tmp rfl (Res.tmp rfl rfl)) picks0 ?_
      obtain rfl := Option.some.inj hx
      exact ⟨none, 0, 0, rfl, rfl, (IsSlice.nil _ _ _), trivial⟩
    · replace hx := cond_f c_12 hx
      refine JC.skip ?_
      refine JN.next ?_
      refine JC.seq ?_
      refine JC.region ?_
      refine JL.val rfl rfl (R.move rfl) ?_
      refine JL.val rfl rfl (R.move rfl) ?_
      refine JL.bslF (HF := H) (R := (RSl R_Ptr 5)) (ls := [p_1, p_3]) (vs := [.slice aoa_2 na_2 capa_2, .slice aoa_4 na_4 capa_4]) U61 I22 rfl rfl (⟨_, _, rfl, rfl, ⟨_, rfl, ha_2⟩, ⟨_, _, rfl, rfl, ⟨_, rfl, ha_4⟩, rfl⟩⟩) RSl.one rfl rfl rfl (by simp [maxLen]) rfl (fun vr_13 Kr_13 hr_13 => ?_)
      obtain ⟨aor_13, capr_13, rfl⟩ := RowOf.val hr_13
      refine JL.pub 0 (RSl.mono R_Ptr.mono) rfl hr_13 (Nat.le_refl _) (fun H_14 hleH_14 hsH_14 => ?_)
      refine JL.forget 0 ?_
      obtain ⟨x_15, hr_16, hx⟩ := bnd_some hx
      refine JL.callC (vs := [_]) (args := [_]) (K := []) (rst := []) E20 rfl rfl rfl picks0 (slices_Concat_Ptr_ok ([p_1, p_3]) _ hsH_14 _ hr_16) rfl (fun u_17 Ku_17 Hu_17 hRu_17 hleu_17 hfu_17 => ?_)
      obtain ⟨aor_18, nr_18, capr_18, Kr_18, rfl, rfl, rfl, hr_18, hnewr_18, -⟩ := hRu_17
      replace hr_18 := (RowOf.base (RowOf.const (H2 := New H H_14) R_Ptr.const hr_18) (fun p hp => (hfu_17 p (mem_seg 0 rfl hp)).resolve_left (hnewr_18 p hp)))
      refine JL.val rfl rfl (R.assign rfl) ?_
      refine JL.nil ?_
      refine JN.next ?_
      refine JC.seq ?_
      refine JC.region ?_
      refine JL.val rfl rfl (R.move rfl) ?_
      obtain ⟨x_19, hr_20, hx⟩ := bnd_some hx
      refine JL.callC (vs := [_, _]) (args := [_, _]) (K := [_]) (rst := []) E21 rfl rfl rfl (picks 0 rfl picks0) (slices_SortFunc_Ptr_dead_order_ok x_15 _ (RowOf.weak (Nat.zero_le _) (RowOf.const R_Ptr.const hr_18)) _ hr_20) rfl (fun u_21 Ku_21 Hu_21 hRu_21 hleu_21 hfu_21 => ?_)
      obtain ⟨Kr_22, rfl, rfl, rfl, hr_22, -⟩ := hRu_21
      replace hr_22 := (RowOf.up (RowOf.const (H2 := New H H_14) R_Ptr.const hr_22) (fun p hp => hfu_21 p (mem_seg 0 rfl hp)) (ids_cons (RowOf.ge hr_18) ids_nil))
      refine JL.nil ?_
      refine JN.next ?_
      refine JC.seq ?_
      refine JC.seq ?_
      refine JC.region ?_
      refine JL.val rfl rfl (R.move rfl) ?_
      refine JL.pubN 0 R_Ptr.mono rfl hr_22 (Nat.le_refl _) (fun H_23 hleH_23 hsH_23 => ?_)
      refine JL.forget 0 ?_
      obtain ⟨x_24, hr_25, hx⟩ := bnd_some hx
      refine JL.callC (vs := [_]) (args := [_]) (K := []) (rst := []) E24 rfl rfl rfl picks0 (slices_Clone_Ptr_ok x_19 _ (hsH_23.old R_Ptr.mono) _ hr_25) rfl (fun u_26 Ku_26 Hu_26 hRu_26 hleu_26 hfu_26 => ?_)
      obtain ⟨aor_27, nr_27, capr_27, Kr_27, rfl, rfl, rfl, hr_27, hnewr_27, -⟩ := hRu_26
      replace hr_27 := (RowOf.base (RowOf.const (H2 := New H H_23) R_Ptr.const hr_27) (fun p hp => (hfu_26 p (mem_seg 0 rfl hp)).resolve_left (hnewr_27 p hp)))
      obtain ⟨x_28, hr_29, hx⟩ := bnd_some hx
      refine JL.callC (vs := [_, _]) (args := [_, _]) (K := [_]) (rst := []) E23 rfl rfl rfl (picks 0 rfl picks0) (slices_CompactFunc_Ptr_ok x_24 _ (RowOf.weak (Nat.zero_le _) (RowOf.const R_Ptr.const hr_27)) _ hr_29) rfl (fun u_30 Ku_30 Hu_30 hRu_30 hleu_30 hfu_30 => ?_)
      obtain ⟨aor_31, nr_31, capr_31, Kr_31, rfl, rfl, rfl, hr_31, -⟩ := hRu_30
      replace hr_31 := (RowOf.up (RowOf.const (H2 := New H H_23) R_Ptr.const hr_31) (fun p hp => hfu_30 p (mem_seg 0 rfl hp)) (ids_cons (RowOf.ge hr_27) ids_nil))
      refine JL.val rfl rfl (R.lenL U22 rfl (RowOf.long hr_31)) ?_
      refine JL.val rfl rfl (R.move rfl) ?_
      refine JL.val rfl rfl (R.lenL U22 rfl (IsSlice.long hsH_23)) ?_
      refine JL.val rfl rfl (R.lss_i rfl rfl) ?_
      refine JL.nil ?_
      refine JN.next ?_
      refine JC.condB rfl (fun c_32 => ?_) (fun c_32 => ?_)
      · replace hx := cond_t c_32 hx
        refine JC.seq ?_
        refine JC.region ?_
        refine JL.val rfl rfl (R.assign rfl) ?_
        refine JL.val rfl rfl (R.assign rfl) ?_
        refine JL.nil ?_
        refine JN.next ?_
        refine JC.ret ?_
        refine JN.passR ?_
        refine JN.outP (vs := [.slice none 0 0, .int .i64 2]) (K := []) (rst := [_]) (.inl rfl) rfl rfl (Res.tmp rfl (Res.tmp rfl rfl)) picks0 ?_
        obtain rfl := Option.some.inj hx
        exact ⟨none, 0, 0, rfl, rfl, (IsSlice.nil _ _ _), trivial⟩
      · replace hx := cond_f c_32 hx
        refine JC.skip ?_
        refine JN.next ?_
        refine JC.seq ?_
        refine JC.seq ?_
        refine JC.region ?_
        refine JL.val rfl rfl (R.move rfl) ?_
        refine JL.val rfl rfl (R.lenL U22 rfl (IsSlice.long hsH_23)) ?_
        refine JL.val rfl rfl (R.gtr_i rfl rfl) ?_
        refine JL.nil ?_
        refine JN.next ?_
        refine JC.condB rfl (fun c_33 => ?_) (fun c_33 => ?_)
        · replace hx := cond_t c_33 hx
          refine JC.seq ?_
          refine JC.region ?_
          refine JL.val rfl rfl (R.assign rfl) ?_
          refine JL.val rfl rfl (R.assign rfl) ?_
          refine JL.nil ?_
          refine JN.next ?_
          refine JC.ret ?_
          refine JN.passR ?_
          refine JN.outP (vs := [.slice none 0 0, .int .i64 9]) (K := []) (rst := [_]) (.inl rfl) rfl rfl (Res.tmp rfl (Res.tmp rfl rfl)) picks0 ?_
          obtain rfl := Option.some.inj hx
          exact ⟨none, 0, 0, rfl, rfl, (IsSlice.nil _ _ _), trivial⟩
        · replace hx := cond_f c_33 hx
          refine JC.skip ?_
          refine JN.next ?_
          refine JC.seq ?_
          refine JC.region ?_
          refine JL.val rfl rfl (R.move rfl) ?_
          refine JL.val rfl rfl (R.assign rfl) ?_
          refine JL.val rfl rfl (R.assign rfl) ?_
          refine JL.nil ?_
          refine JN.next ?_
          refine JC.ret ?_
          refine JN.outP (vs := [.slice aor_18 nr_18 capr_18, .int .i64 0]) (K := []) (rst := [_]) (.inl rfl) rfl rfl (Res.tmp rfl (Res.tmp rfl rfl)) picks0 ?_
          obtain rfl := Option.some.inj hx
          exact ⟨aor_18, nr_18, capr_18, rfl, rfl, hsH_23, trivial⟩

set_option maxHeartbeats 1000000 in
theorem dead_Add_ok (p_1 : List Ptr) (p_3 : Ptr) (H : Heaplet) {aoa_2 : Option Addr} {na_2 : Nat} {capa_2 : Nat} (ha_2 : IsSlice H R_Ptr 5 (.slice aoa_2 na_2 capa_2) p_1) (r : List Ptr × Int) (hx : dead_Add p_1 p_3 = some r) :
    Does Try.prog 11 #[.slice aoa_2 na_2 capa_2, .agg #[.int .i64 p_3.At, .int .u32 (p_3.Birth.toNat : Int), .int .u32 (p_3.Iv.toNat : Int), .int .u32 (p_3.Tag.toNat : Int), .int .u32 (p_3.Sum.toNat : Int)]] [] H (fun u K' H' => ∃ ao0 : Option Addr, ∃ n0 : Nat, ∃ cap0 : Nat, u = .tuple #[.slice ao0 n0 cap0, .int .i64 r.2] ∧ K' = [] ∧ IsSlice (New H H') R_Ptr 5 (.slice ao0 n0 cap0) r.1 ∧ True) := by
  refine Does.enterL (vs := [.slice aoa_2 na_2 capa_2, .agg #[.int .i64 p_3.At, .int .u32 (p_3.Birth.toNat : Int), .int .u32 (p_3.Iv.toNat : Int), .int .u32 (p_3.Tag.toNat : Int), .int .u32 (p_3.Sum.toNat : Int)]]) (l := [(0, .slice aoa_2 na_2 capa_2), (1, .agg #[.int .i64 p_3.At, .int .u32 (p_3.Birth.toNat : Int), .int .u32 (p_3.Iv.toNat : Int), .int .u32 (p_3.Tag.toNat : Int), .int .u32 (p_3.Sum.toNat : Int)])]) Try.func11 rfl rfl ⟨rfl, rfl, trivial⟩ (fun w hlt => ?_)
  rw [dead_Add.eq_1] at hx
  refine JC.seq ?_
  refine JC.region ?_
  refine JL.box rfl rfl (fun b_4 hb_4 => ?_)
  refine JL.val rfl rfl (R.assign rfl) ?_
  refine JL.val rfl rfl (R.assign rfl) ?_
  refine JL.nil ?_
  refine JN.next ?_
  refine JC.seq ?_
  refine JC.seq ?_
  refine JC.region ?_
  refine JL.val rfl rfl (R.ldoN 0 (vs := [.int .i64 p_3.At, .int .u32 (p_3.Birth.toNat : Int), .int .u32 (p_3.Iv.toNat : Int), .int .u32 (p_3.Tag.toNat : Int), .int .u32 (p_3.Sum.toNat : Int)]) S32 rfl rfl rfl rfl) ?_
  refine JL.bslF (HF := (New H H)) (R := R_Ptr) (ls := [p_3]) (vs := [.agg #[.int .i64 p_3.At, .int .u32 (p_3.Birth.toNat : Int), .int .u32 (p_3.Iv.toNat : Int), .int .u32 (p_3.Tag.toNat : Int), .int .u32 (p_3.Sum.toNat : Int)]]) U22 I32 rfl rfl (⟨_, _, rfl, rfl, rfl, rfl⟩) R_Ptr.one rfl rfl rfl (by simp [maxLen]) rfl (fun vr_5 Kr_5 hr_5 => ?_)
  obtain ⟨aor_5, capr_5, rfl⟩ := RowOf.val hr_5
  refine JL.pubN 0 R_Ptr.mono rfl hr_5 (Nat.le_refl _) (fun H_6 hleH_6 hsH_6 => ?_)
  refine JL.forget 0 ?_
  obtain ⟨x_7, hr_8, hx⟩ := bnd_some hx
  refine JL.callC (vs := [_]) (args := [_]) (K := []) (rst := [_]) E10 rfl rfl rfl picks0 (dead_Check_ok ([p_3]) _ (hsH_6.old R_Ptr.mono) _ hr_8) rfl (fun u_9 Ku_9 Hu_9 hRu_9 hleu_9 hfu_9 => ?_)
  obtain ⟨rfl, rfl, rfl, -⟩ := hRu_9
  refine JL.val rfl rfl (R.neq_i rfl rfl) ?_
  refine JL.nil ?_
  refine JN.next ?_
  refine JC.condB rfl (fun c_10 => ?_) (fun c_10 => ?_)
  · replace hx := cond_t c_10 hx
    refine JC.seq ?_
    refine JC.region ?_
    refine JL.val rfl rfl (R.assign rfl) ?_
    refine JL.val rfl rfl (R.assign rfl) ?_
    refine JL.nil ?_
    refine JN.next ?_
    refine JC.ret ?_
    refine JN.passR ?_
    refine JN.outP (vs := [.slice none 0 0, .int .i64 8]) (K := []) (rst := [_]) (.inl rfl) rfl rfl (Res.tmp rfl (Res.tmp rfl rfl)) picks0 ?_
    obtain rfl := Option.some.inj hx
    exact ⟨none, 0, 0, rfl, rfl, (IsSlice.nil _ _ _), trivial⟩
  · replace hx := cond_f c_10 hx
    refine JC.skip ?_
    refine JN.next ?_
    refine JC.seq ?_
    refine JC.region ?_
    refine JL.val rfl rfl (R.move rfl) ?_
    refine JL.val rfl rfl (R.ldoN 0 (vs := [.int .i64 p_3.At, .int .u32 (p_3.Birth.toNat : Int), .int .u32 (p_3.Iv.toNat : Int), .int .u32 (p_3.Tag.toNat : Int), .int .u32 (p_3.Sum.toNat : Int)]) S32 rfl rfl rfl rfl) ?_
    refine JL.bslF (HF := (New H H_6)) (R := R_Ptr) (ls := [p_3]) (vs := [.agg #[.int .i64 p_3.At, .int .u32 (p_3.Birth.toNat : Int), .int .u32 (p_3.Iv.toNat : Int), .int .u32 (p_3.Tag.toNat : Int), .int .u32 (p_3.Sum.toNat : Int)]]) U22 I32 rfl rfl (⟨_, _, rfl, rfl, rfl, rfl⟩) R_Ptr.one rfl rfl rfl (by simp [maxLen]) rfl (fun vr_11 Kr_11 hr_11 => ?_)
    obtain ⟨aor_11, capr_11, rfl⟩ := RowOf.val hr_11
    refine JL.pubN 0 R_Ptr.mono rfl hr_11 (Nat.le_refl _) (fun H_12 hleH_12 hsH_12 => ?_)
    refine JL.forget 0 ?_
    obtain ⟨x_13, hr_14, hx⟩ := bnd_some hx
    refine JL.callC (vs := [_, _]) (args := [_, _]) (K := []) (rst := [_]) E8 rfl rfl rfl picks0 (dead_Join_ok p_1 ([p_3]) _ (ha_2.mono R_Ptr.mono (hleH_6.trans hleH_12)) (hsH_12.old R_Ptr.mono) _ hr_14) rfl (fun u_15 Ku_15 Hu_15 hRu_15 hleu_15 hfu_15 => ?_)
    obtain ⟨aoz_16, nz_16, capz_16, rfl, rfl, hz_16, -⟩ := hRu_15
    replace hz_16 := IsSlice.mono R_Ptr.mono (New.call (hleH_6.trans hleH_12)) hz_16
    refine JL.val rfl rfl (R.extract rfl rfl) ?_
    refine JL.val rfl rfl (R.extract rfl rfl) ?_
    refine JL.val rfl rfl (R.assign rfl) ?_
    refine JL.val rfl rfl (R.assign rfl) ?_
    refine JL.nil ?_
    refine JN.next ?_
    refine JC.ret ?_
    refine JN.outP (vs := [.slice aoz_16 nz_16 capz_16, .int .i64 x_13.2]) (K := []) (rst := [_]) (.inl rfl) rfl rfl (Res.tmp rfl (Res.tmp rfl rfl)) picks0 ?_
    obtain rfl := Option.some.inj hx
    exact ⟨aoz_16, nz_16, capz_16, rfl, rfl, hz_16, trivial⟩

set_option maxHeartbeats 1000000 in
theorem law16_alive_ok (H : Heaplet) (r : Bool) (hx : law16_alive = some r) :
    Does Try.prog 7 #[] [] H (fun u K' H' => u = .bool r ∧ K' = [] ∧ True) := by
  refine Does.enterL (vs := []) (l := []) Try.func7 rfl rfl trivial (fun w hlt => ?_)
  rw [law16_alive.eq_1] at hx
  refine JC.seq ?_
  refine JC.region ?_
  refine JL.val rfl rfl (R.assign rfl) ?_
  refine JL.nil ?_
  refine JN.next ?_
  refine JC.seq ?_
  refine JC.region ?_
  obtain ⟨x_1, hr_2, hx⟩ := bnd_some hx
  refine JL.callC (vs := [_, _]) (args := [_, _]) (K := []) (rst := []) E19 rfl rfl rfl picks0 (law16_at_ok 20 (1 : UInt32) _ _ hr_2) rfl (fun u_3 Ku_3 Hu_3 hRu_3 hleu_3 hfu_3 => ?_)
  obtain ⟨rfl, rfl, rfl, -⟩ := hRu_3
  obtain ⟨x_4, hr_5, hx⟩ := bnd_some hx
  refine JL.callC (vs := [_, _]) (args := [_, _]) (K := []) (rst := []) E19 rfl rfl rfl picks0 (law16_at_ok 30 (1 : UInt32) _ _ hr_5) rfl (fun u_6 Ku_6 Hu_6 hRu_6 hleu_6 hfu_6 => ?_)
  obtain ⟨rfl, rfl, rfl, -⟩ := hRu_6
  refine JL.bslF (HF := (New H H)) (R := R_Ptr) (ls := [x_1, x_4]) (vs := [.agg #[.int .i64 x_1.At, .int .u32 (x_1.Birth.toNat : Int), .int .u32 (x_1.Iv.toNat : Int), .int .u32 (x_1.Tag.toNat : Int), .int .u32 (x_1.Sum.toNat : Int)], .agg #[.int .i64 x_4.At, .int .u32 (x_4.Birth.toNat : Int), .int .u32 (x_4.Iv.toNat : Int), .int .u32 (x_4.Tag.toNat : Int), .int .u32 (x_4.Sum.toNat : Int)]]) U22 I32 rfl rfl (⟨_, _, rfl, rfl, rfl, ⟨_, _, rfl, rfl, rfl, rfl⟩⟩) R_Ptr.one rfl rfl rfl (by simp [maxLen]) rfl (fun vr_7 Kr_7 hr_7 => ?_)
  obtain ⟨aor_7, capr_7, rfl⟩ := RowOf.val hr_7
  obtain ⟨x_8, hr_9, hx⟩ := bnd_some hx
  refine JL.callC (vs := [_, _]) (args := [_, _]) (K := []) (rst := [_]) E19 rfl rfl rfl picks0 (law16_at_ok 25 (1 : UInt32) _ _ hr_9) rfl (fun u_10 Ku_10 Hu_10 hRu_10 hleu_10 hfu_10 => ?_)
  obtain ⟨rfl, rfl, rfl, -⟩ := hRu_10
  refine JL.pubN 0 R_Ptr.mono rfl hr_7 (Nat.le_refl _) (fun H_11 hleH_11 hsH_11 => ?_)
  refine JL.forget 0 ?_
  obtain ⟨x_12, hr_13, hx⟩ := bnd_some hx
  refine JL.callC (vs := [_, _]) (args := [_, _]) (K := []) (rst := []) E11 rfl rfl rfl picks0 (dead_Add_ok ([x_1, x_4]) x_8 _ (hsH_11.old R_Ptr.mono) _ hr_13) rfl (fun u_14 Ku_14 Hu_14 hRu_14 hleu_14 hfu_14 => ?_)
  obtain ⟨aoz_15, nz_15, capz_15, rfl, rfl, hz_15, -⟩ := hRu_14
  replace hz_15 := IsSlice.mono R_Ptr.mono (New.call hleH_11) hz_15
  refine JL.val rfl rfl (R.move rfl) ?_
  refine JL.val rfl rfl (R.extract rfl rfl) ?_
  refine JL.val rfl rfl (R.extract rfl rfl) ?_
  refine JL.val rfl rfl (R.assign rfl) ?_
  refine JL.val rfl rfl (R.assign rfl) ?_
  refine JL.nil ?_
  refine JN.next ?_
  refine JC.seq ?_
  obtain ⟨t_16, ht_18, hx⟩ := bnd_some hx
  refine JC.cut (fun l o g => l = [(0, .bool t_16)] ∧ o = [] ∧ Hu_14 = g) ?_ ?_
  · rintro _ _ _ ⟨rfl, rfl, rfl⟩
    refine JN.next ?_
    refine JC.ret ?_
    refine JN.outP (vs := [.bool t_16]) (K := []) (rst := []) (.inl rfl) rfl rfl (Res.tmp rfl rfl) picks0 ?_
    obtain rfl := Option.some.inj hx
    exact ⟨rfl, rfl, trivial⟩
  · have hxo_17 := hx; clear hx; have hx := ht_18; clear ht_18
    refine JC.region ?_
    refine JL.val rfl rfl (R.move rfl) ?_
    refine JL.val rfl rfl (R.eql_i rfl rfl) ?_
    refine JL.val rfl rfl (R.move rfl) ?_
    refine JL.gSplit (t := 13) rfl (fun c_19 => ?_) (fun c_19 => ?_)
    · replace hx := cond_t c_19 hx
      refine JL.gYes rfl rfl rfl ?_
      refine JL.val rfl rfl (R.move rfl) ?_
      refine JL.gYes rfl rfl rfl ?_
      refine JL.val rfl rfl (R.lenL U22 rfl (IsSlice.long hz_15)) ?_
      refine JL.gYes rfl rfl rfl ?_
      refine JL.val rfl rfl (R.eql_i rfl rfl) ?_
      refine JL.val rfl rfl (R.pickT rfl rfl) ?_
      refine JL.val rfl rfl (R.move rfl) ?_
      refine JL.gSplit (t := 18) rfl (fun c_20 => ?_) (fun c_20 => ?_)
      · replace hx := cond_t c_20 hx
        refine JL.gYes rfl rfl rfl ?_
        refine JL.val rfl rfl (R.move rfl) ?_
        refine JL.gYes rfl rfl rfl ?_
        obtain ⟨y_21, hN_22, hx⟩ := idx_some hx
        obtain ⟨b_23, o_24, cs_25, hE_26, hR_27, hl_28, hc_29⟩ := IsSlice.elem hz_15 hN_22
        obtain rfl := hR_27
        refine JL.val rfl rfl (R.ix U22 S32 rfl rfl hE_26) ?_
        refine JL.gYes rfl rfl rfl ?_
        refine JL.val rfl rfl (R.fa F32_0 rfl) ?_
        refine JL.gYes rfl rfl rfl ?_
        refine JL.val rfl rfl (R.ldH S3 rfl ((fun j u e => New.le _ _ _ _ _ (hc_29 j u e)) 0 _ rfl)) ?_
        refine JL.gYes rfl rfl rfl ?_
        refine JL.val rfl rfl (R.eql_i rfl rfl) ?_
        refine JL.val rfl rfl (R.pickT rfl rfl) ?_
        refine JL.val rfl rfl (R.move rfl) ?_
        refine JL.gSplit (t := 25) rfl (fun c_30 => ?_) (fun c_30 => ?_)
        · replace hx := cond_t c_30 hx
          refine JL.gYes rfl rfl rfl ?_
          refine JL.val rfl rfl (R.move rfl) ?_
          refine JL.gYes rfl rfl rfl ?_
          obtain ⟨y_31, hN_32, hx⟩ := idx_some hx
          obtain ⟨b_33, o_34, cs_35, hE_36, hR_37, hl_38, hc_39⟩ := IsSlice.elem hz_15 hN_32
          obtain rfl := hR_37
          refine JL.val rfl rfl (R.ix U22 S32 rfl rfl hE_36) ?_
          refine JL.gYes rfl rfl rfl ?_
          refine JL.val rfl rfl (R.fa F32_0 rfl) ?_
          refine JL.gYes rfl rfl rfl ?_
          refine JL.val rfl rfl (R.ldH S3 rfl ((fun j u e => New.le _ _ _ _ _ (hc_39 j u e)) 0 _ rfl)) ?_
          refine JL.gYes rfl rfl rfl ?_
          refine JL.val rfl rfl (R.eql_i rfl rfl) ?_
          refine JL.val rfl rfl (R.pickT rfl rfl) ?_
          refine JL.val rfl rfl (R.move rfl) ?_
          refine JL.gSplit (t := 32) rfl (fun c_40 => ?_) (fun c_40 => ?_)
          · replace hx := cond_t c_40 hx
            refine JL.gYes rfl rfl rfl ?_
            refine JL.val rfl rfl (R.move rfl) ?_
            refine JL.gYes rfl rfl rfl ?_
            obtain ⟨y_41, hN_42, hx⟩ := idx_some hx
            obtain ⟨b_43, o_44, cs_45, hE_46, hR_47, hl_48, hc_49⟩ := IsSlice.elem hz_15 hN_42
            obtain rfl := hR_47
            refine JL.val rfl rfl (R.ix U22 S32 rfl rfl hE_46) ?_
            refine JL.gYes rfl rfl rfl ?_
            refine JL.val rfl rfl (R.fa F32_0 rfl) ?_
            refine JL.gYes rfl rfl rfl ?_
            refine JL.val rfl rfl (R.ldH S3 rfl ((fun j u e => New.le _ _ _ _ _ (hc_49 j u e)) 0 _ rfl)) ?_
            refine JL.gYes rfl rfl rfl ?_
            refine JL.val rfl rfl (R.eql_i rfl rfl) ?_
            refine JL.val rfl rfl (R.pickT rfl rfl) ?_
            refine JL.val rfl rfl (R.assign rfl) ?_
            refine JL.nil ?_
            obtain rfl := Option.some.inj hx
            exact JN.cut ⟨rfl, rfl, rfl⟩ ⟨rfl, trivial⟩ rfl rfl
          · replace hx := cond_f c_40 hx
            refine JL.gNo rfl rfl rfl rfl rfl ?_
            refine JL.gNo rfl rfl rfl rfl rfl ?_
            refine JL.gNo rfl rfl rfl rfl rfl ?_
            refine JL.gNo rfl rfl rfl rfl rfl ?_
            refine JL.gNo rfl rfl rfl rfl rfl ?_
            refine JL.val rfl rfl (R.pickF rfl rfl) ?_
            refine JL.val rfl rfl (R.assign rfl) ?_
            refine JL.nil ?_
            obtain rfl := Option.some.inj hx
            exact JN.cut ⟨rfl, rfl, rfl⟩ ⟨rfl, trivial⟩ rfl rfl
        · replace hx := cond_f c_30 hx
          refine JL.gNo rfl rfl rfl rfl rfl ?_
          refine JL.gNo rfl rfl rfl rfl rfl ?_
          refine JL.gNo rfl rfl rfl rfl rfl ?_
          refine JL.gNo rfl rfl rfl rfl rfl ?_
          refine JL.gNo rfl rfl rfl rfl rfl ?_
          refine JL.val rfl rfl (R.pickF rfl rfl) ?_
          refine JL.val rfl rfl (R.move rfl) ?_
          refine JL.gNo rfl rfl rfl rfl rfl ?_
          refine JL.gNo rfl rfl rfl rfl rfl ?_
          refine JL.gNo rfl rfl rfl rfl rfl ?_
          refine JL.gNo rfl rfl rfl rfl rfl ?_
          refine JL.gNo rfl rfl rfl rfl rfl ?_
          refine JL.val rfl rfl (R.pickF rfl rfl) ?_
          refine JL.val rfl rfl (R.assign rfl) ?_
          refine JL.nil ?_
          obtain rfl := Option.some.inj hx
          exact JN.cut ⟨rfl, rfl, rfl⟩ ⟨rfl, trivial⟩ rfl rfl
      · replace hx := cond_f c_20 hx
        refine JL.gNo rfl rfl rfl rfl rfl ?_
        refine JL.gNo rfl rfl rfl rfl rfl ?_
        refine JL.gNo rfl rfl rfl rfl rfl ?_
        refine JL.gNo rfl rfl rfl rfl rfl ?_
        refine JL.gNo rfl rfl rfl rfl rfl ?_
        refine JL.val rfl rfl (R.pickF rfl rfl) ?_
        refine JL.val rfl rfl (R.move rfl) ?_
        refine JL.gNo rfl rfl rfl rfl rfl ?_
        refine JL.gNo rfl rfl rfl rfl rfl ?_
        refine JL.gNo rfl rfl rfl rfl rfl ?_
        refine JL.gNo rfl rfl rfl rfl rfl ?_
        refine JL.gNo rfl rfl rfl rfl rfl ?_
        refine JL.val rfl rfl (R.pickF rfl rfl) ?_
        refine JL.val rfl rfl (R.move rfl) ?_
        refine JL.gNo rfl rfl rfl rfl rfl ?_
        refine JL.gNo rfl rfl rfl rfl rfl ?_
        refine JL.gNo rfl rfl rfl rfl rfl ?_
        refine JL.gNo rfl rfl rfl rfl rfl ?_
        refine JL.gNo rfl rfl rfl rfl rfl ?_
        refine JL.val rfl rfl (R.pickF rfl rfl) ?_
        refine JL.val rfl rfl (R.assign rfl) ?_
        refine JL.nil ?_
        obtain rfl := Option.some.inj hx
        exact JN.cut ⟨rfl, rfl, rfl⟩ ⟨rfl, trivial⟩ rfl rfl
    · replace hx := cond_f c_19 hx
      refine JL.gNo rfl rfl rfl rfl rfl ?_
      refine JL.gNo rfl rfl rfl rfl rfl ?_
      refine JL.gNo rfl rfl rfl rfl rfl ?_
      refine JL.val rfl rfl (R.pickF rfl rfl) ?_
      refine JL.val rfl rfl (R.move rfl) ?_
      refine JL.gNo rfl rfl rfl rfl rfl ?_
      refine JL.gNo rfl rfl rfl rfl rfl ?_
      refine JL.gNo rfl rfl rfl rfl rfl ?_
      refine JL.gNo rfl rfl rfl rfl rfl ?_
      refine JL.gNo rfl rfl rfl rfl rfl ?_
      refine JL.val rfl rfl (R.pickF rfl rfl) ?_
      refine JL.val rfl rfl (R.move rfl) ?_
      refine JL.gNo rfl rfl rfl rfl rfl ?_
      refine JL.gNo rfl rfl rfl rfl rfl ?_
      refine JL.gNo rfl rfl rfl rfl rfl ?_
      refine JL.gNo rfl rfl rfl rfl rfl ?_
      refine JL.gNo rfl rfl rfl rfl rfl ?_
      refine JL.val rfl rfl (R.pickF rfl rfl) ?_
      refine JL.val rfl rfl (R.move rfl) ?_
      refine JL.gNo rfl rfl rfl rfl rfl ?_
      refine JL.gNo rfl rfl rfl rfl rfl ?_
      refine JL.gNo rfl rfl rfl rfl rfl ?_
      refine JL.gNo rfl rfl rfl rfl rfl ?_
      refine JL.gNo rfl rfl rfl rfl rfl ?_
      refine JL.val rfl rfl (R.pickF rfl rfl) ?_
      refine JL.val rfl rfl (R.assign rfl) ?_
      refine JL.nil ?_
      obtain rfl := Option.some.inj hx
      exact JN.cut ⟨rfl, rfl, rfl⟩ ⟨rfl, trivial⟩ rfl rfl

set_option maxHeartbeats 1000000 in
theorem law16_same_ok (p_1 : List Ptr) (p_3 : List Ptr) (H : Heaplet) {aoa_2 : Option Addr} {na_2 : Nat} {capa_2 : Nat} {aoa_4 : Option Addr} {na_4 : Nat} {capa_4 : Nat} (ha_2 : IsSlice H R_Ptr 5 (.slice aoa_2 na_2 capa_2) p_1) (ha_4 : IsSlice H R_Ptr 5 (.slice aoa_4 na_4 capa_4) p_3) (r : Bool) (hx : law16_same p_1 p_3 = some r) :
    Does Try.prog 9 #[.slice aoa_2 na_2 capa_2, .slice aoa_4 na_4 capa_4] [] H (fun u K' H' => u = .bool r ∧ K' = [] ∧ H = H' ∧ True) := by
  refine Does.enterL (vs := [.slice aoa_2 na_2 capa_2, .slice aoa_4 na_4 capa_4]) (l := [(0, .slice aoa_2 na_2 capa_2), (1, .slice aoa_4 na_4 capa_4)]) Try.func9 rfl rfl ⟨rfl, rfl, trivial⟩ (fun w hlt => ?_)
  rw [law16_same.eq_1] at hx
  refine JC.seq ?_
  refine JC.region ?_
  refine JL.val rfl rfl (R.assign rfl) ?_
  refine JL.nil ?_
  refine JN.next ?_
  refine JC.seq ?_
  refine JC.seq ?_
  refine JC.region ?_
  refine JL.val rfl rfl (R.assign rfl) ?_
  refine JL.nil ?_
  refine JN.next ?_
  obtain ⟨t_5, ht_7, hx⟩ := bnd_some hx
  refine JC.cut (fun l o g => ∃ t_5a : Unit, l = [(0, .slice aoa_2 na_2 capa_2), (1, .slice aoa_4 na_4 capa_4)] ∧ o = [] ∧ H = g ∧ t_5 = .inl t_5a) ?_ ?_
  · rintro _ _ _ ⟨t_5a, rfl, rfl, rfl, rfl⟩
    simp only [Sum.elim_inl] at hx
    refine JN.next ?_
    refine JC.seq ?_
    refine JC.region ?_
    refine JL.val rfl rfl (R.move rfl) ?_
    refine JL.val rfl rfl (R.lenL U22 rfl (IsSlice.long ha_2)) ?_
    refine JL.val rfl rfl (R.move rfl) ?_
    refine JL.val rfl rfl (R.lenL U22 rfl (IsSlice.long ha_4)) ?_
    refine JL.val rfl rfl (R.eql_i rfl rfl) ?_
    refine JL.val rfl rfl (R.assign rfl) ?_
    refine JL.nil ?_
    refine JN.next ?_
    refine JC.ret ?_
    refine JN.outP (vs := [.bool (decide ((p_1.length : Int) = (p_3.length : Int)))]) (K := []) (rst := []) (.inl rfl) rfl rfl (Res.tmp rfl rfl) picks0 ?_
    obtain rfl := Option.some.inj hx
    exact ⟨rfl, rfl, rfl, trivial⟩
  · have hxo_6 := hx; clear hx; have hx := ht_7; clear ht_7
    refine JC.block ?_
    refine JC.loopI (fun n l o g => ∃ s_8 : Nat, l = [(0, .slice aoa_2 na_2 capa_2), (1, .slice aoa_4 na_4 capa_4), (5, .int .i64 ((s_8 : Nat) : Int))] ∧ o = [] ∧ H = g ∧ run (law16_same_l1 p_1 p_3) n s_8 = some t_5) FUEL ?_ ⟨0, rfl, rfl, rfl, hx⟩ ⟨rfl, rfl, rfl, trivial⟩ ?_
    · rintro _ _ _ ⟨s_8, rfl, rfl, rfl, hn_9⟩
      exact run_zero hn_9
    · rintro n_10 _ _ _ ⟨s_8, rfl, rfl, rfl, hn_9⟩
      clear hx; obtain ⟨oo_12, hx, hd_11⟩ := run_some hn_9
      rw [law16_same_l1.eq_1] at hx
      refine JC.seq ?_
      refine JC.seq ?_
      refine JC.region ?_
      refine JL.val rfl rfl (R.move rfl) ?_
      refine JL.val rfl rfl (R.move rfl) ?_
      refine JL.val rfl rfl (R.lenL U22 rfl (IsSlice.long ha_2)) ?_
      refine JL.val rfl rfl (R.lss_i rfl rfl) ?_
      refine JL.val rfl rfl (R.move rfl) ?_
      refine JL.gSplit (t := 10) rfl (fun c_11 => ?_) (fun c_11 => ?_)
      · replace hx := cond_t c_11 hx
        refine JL.gYes rfl rfl rfl ?_
        refine JL.val rfl rfl (R.move rfl) ?_
        refine JL.gYes rfl rfl rfl ?_
        refine JL.val rfl rfl (R.move rfl) ?_
        refine JL.gYes rfl rfl rfl ?_
        refine JL.val rfl rfl (R.lenL U22 rfl (IsSlice.long ha_4)) ?_
        refine JL.gYes rfl rfl rfl ?_
        refine JL.val rfl rfl (R.lss_i rfl rfl) ?_
        refine JL.val rfl rfl (R.pickT rfl rfl) ?_
        refine JL.nil ?_
        refine JN.next ?_
        refine JC.condB rfl (fun c_12 => ?_) (fun c_12 => ?_)
        · replace hx := cond_t c_12 hx
          refine JC.skip ?_
          refine JN.next ?_
          refine JC.seq ?_
          refine JC.block ?_
          refine JC.seq ?_
          refine JC.draw (so := []) 9 rfl Mixed trivial ?_
          refine JA.val ⟨by kernel_rfl, by kernel_rfl⟩ (calm_only _) (i := 0) rfl ⟨by kernel_rfl, by kernel_rfl, rfl⟩ trivial (stab_of (Hle.refl _) trivial) (R.move rfl) rfl ?_
          refine JA.val ⟨by kernel_rfl, by kernel_rfl⟩ (calm_only _) (i := 1) rfl ⟨by kernel_rfl, by kernel_rfl, rfl⟩ trivial (stab_of (Hle.refl _) trivial) (R.move rfl) rfl ?_
          obtain ⟨y_13, hN_14, hx⟩ := idx_some hx
          obtain ⟨b_15, o_16, cs_17, hE_18, hR_19, hl_20, hc_21⟩ := IsSlice.elem ha_2 hN_14
          obtain rfl := hR_19
          refine JA.val ⟨by kernel_rfl, by kernel_rfl⟩ (calm_only _) (i := 2) rfl ⟨by kernel_rfl, by kernel_rfl, rfl⟩ trivial (stab_of (Hle.refl _) trivial) (R.ix U22 S32 rfl rfl hE_18) rfl ?_
          refine JA.val ⟨by kernel_rfl, by kernel_rfl⟩ (calm_only _) (i := 3) rfl ⟨by kernel_rfl, by kernel_rfl, rfl⟩ trivial (stab_of (Hle.refl _) trivial) (R.ldHE (cs := [.int .i64 y_13.At, .int .u32 (y_13.Birth.toNat : Int), .int .u32 (y_13.Iv.toNat : Int), .int .u32 (y_13.Tag.toNat : Int), .int .u32 (y_13.Sum.toNat : Int)]) (k := 0) (vs := [.int .i64 y_13.At, .int .u32 (y_13.Birth.toNat : Int), .int .u32 (y_13.Iv.toNat : Int), .int .u32 (y_13.Tag.toNat : Int), .int .u32 (y_13.Sum.toNat : Int)]) S32 rfl hc_21 rfl rfl) rfl ?_
          refine JA.val ⟨by kernel_rfl, by kernel_rfl⟩ (calm_only _) (i := 4) rfl ⟨by kernel_rfl, by kernel_rfl, rfl⟩ trivial (stab_of (Hle.refl _) trivial) (R.move rfl) rfl ?_
          refine JA.val ⟨by kernel_rfl, by kernel_rfl⟩ (calm_only _) (i := 5) rfl ⟨by kernel_rfl, by kernel_rfl, rfl⟩ trivial (stab_of (Hle.refl _) trivial) (R.move rfl) rfl ?_
          obtain ⟨y_22, hN_23, hx⟩ := idx_some hx
          obtain ⟨b_24, o_25, cs_26, hE_27, hR_28, hl_29, hc_30⟩ := IsSlice.elem ha_4 hN_23
          obtain rfl := hR_28
          refine JA.val ⟨by kernel_rfl, by kernel_rfl⟩ (calm_only _) (i := 6) rfl ⟨by kernel_rfl, by kernel_rfl, rfl⟩ trivial (stab_of (Hle.refl _) trivial) (R.ix U22 S32 rfl rfl hE_27) rfl ?_
          refine JA.val ⟨by kernel_rfl, by kernel_rfl⟩ (calm_only _) (i := 7) rfl ⟨by kernel_rfl, by kernel_rfl, rfl⟩ trivial (stab_of (Hle.refl _) trivial) (R.ldHE (cs := [.int .i64 y_22.At, .int .u32 (y_22.Birth.toNat : Int), .int .u32 (y_22.Iv.toNat : Int), .int .u32 (y_22.Tag.toNat : Int), .int .u32 (y_22.Sum.toNat : Int)]) (k := 0) (vs := [.int .i64 y_22.At, .int .u32 (y_22.Birth.toNat : Int), .int .u32 (y_22.Iv.toNat : Int), .int .u32 (y_22.Tag.toNat : Int), .int .u32 (y_22.Sum.toNat : Int)]) S32 rfl hc_30 rfl rfl) rfl ?_
          refine JA.val ⟨by kernel_rfl, by kernel_rfl⟩ (calm_only _) (i := 8) rfl ⟨by kernel_rfl, by kernel_rfl, rfl⟩ trivial (stab_of (Hle.refl _) trivial) (R.neqAgg QU32 QP32 QG32 QF32 rfl rfl (EqF.i (by decide) S3 U3 rfl rfl (EqF.u32 (a := y_13.Birth) (b := y_22.Birth) (by decide) S30 U30 rfl rfl (EqF.u32 (a := y_13.Iv) (b := y_22.Iv) (by decide) S30 U30 rfl rfl (EqF.u32 (a := y_13.Tag) (b := y_22.Tag) (by decide) S30 U30 rfl rfl (EqF.u32 (a := y_13.Sum) (b := y_22.Sum) (by decide) S30 U30 rfl rfl EqF.nil)))))) rfl ?_
          refine JA.doneN (by kernel_rfl) ?_
          refine JN.next ?_
          refine JC.condB rfl (fun c_31 => ?_) (fun c_31 => ?_)
          · replace hx := cond_t c_31 hx
            refine JC.seq ?_
            refine JC.region ?_
            refine JL.val rfl rfl (R.assign rfl) ?_
            refine JL.nil ?_
            refine JN.next ?_
            refine JC.ret ?_
            refine JN.blkR ?_
            refine JN.passR ?_
            obtain rfl := run_done hd_11 hx
            refine JN.passR ?_
            refine JN.blkR ?_
            clear hx; have hx := hxo_6
            simp only [Sum.elim_inl, Sum.elim_inr] at hx
            refine JN.passR ?_
            refine JN.passR ?_
            refine JN.outP (vs := [.bool false]) (K := []) (rst := []) (.inl rfl) rfl rfl (Res.tmp rfl rfl) picks0 ?_
            obtain rfl := Option.some.inj hx
            exact ⟨rfl, rfl, rfl, trivial⟩
          · replace hx := cond_f c_31 hx
            refine JC.skip ?_
            refine JN.blkN ?_
            refine JN.next ?_
            refine JC.region ?_
            refine JL.val rfl rfl (R.move rfl) ?_
            refine JL.val rfl rfl (R.inc rfl rfl (of_decide_eq_true c_11) (IsSlice.lenI ha_2)) ?_
            refine JL.val rfl rfl (R.assign rfl) ?_
            refine JL.nil ?_
            replace hx := run_next hd_11 hx
            exact JN.cut ⟨s_8 + 1, rfl, rfl, rfl, hx⟩ ⟨rfl, rfl, rfl, trivial⟩ rfl rfl
        · replace hx := cond_f c_12 hx
          refine JC.exit ?_
          refine JN.passX ?_
          obtain rfl := run_done hd_11 hx
          refine JN.passX ?_
          refine JN.exitSame ?_
          exact JN.cut ⟨(), rfl, rfl, rfl, rfl⟩ ⟨rfl, rfl, trivial⟩ rfl rfl
      · replace hx := cond_f c_11 hx
        refine JL.gNo rfl rfl rfl rfl rfl ?_
        refine JL.gNo rfl rfl rfl rfl rfl ?_
        refine JL.gNo rfl rfl rfl rfl rfl ?_
        refine JL.gNo rfl rfl rfl rfl rfl ?_
        refine JL.val rfl rfl (R.pickF rfl rfl) ?_
        refine JL.nil ?_
        refine JN.next ?_
        refine JC.condF rfl ?_
        refine JC.exit ?_
        refine JN.passX ?_
        obtain rfl := run_done hd_11 hx
        refine JN.passX ?_
        refine JN.exitSame ?_
        exact JN.cut ⟨(), rfl, rfl, rfl, rfl⟩ ⟨rfl, rfl, trivial⟩ rfl rfl

set_option maxHeartbeats 1000000 in
theorem law16_DeadJoins_ok (p_1 : List Ptr) (p_3 : List Ptr) (p_5 : List Ptr) (H : Heaplet) {aoa_2 : Option Addr} {na_2 : Nat} {capa_2 : Nat} {aoa_4 : Option Addr} {na_4 : Nat} {capa_4 : Nat} {aoa_6 : Option Addr} {na_6 : Nat} {capa_6 : Nat} (ha_2 : IsSlice H R_Ptr 5 (.slice aoa_2 na_2 capa_2) p_1) (ha_4 : IsSlice H R_Ptr 5 (.slice aoa_4 na_4 capa_4) p_3) (ha_6 : IsSlice H R_Ptr 5 (.slice aoa_6 na_6 capa_6) p_5) (r : Bool) (hx : law16_DeadJoins p_1 p_3 p_5 = some r) :
    Does Try.prog 3 #[.slice aoa_2 na_2 capa_2, .slice aoa_4 na_4 capa_4, .slice aoa_6 na_6 capa_6] [] H (fun u K' H' => u = .bool r ∧ K' = [] ∧ True) := by
  refine Does.enterL (vs := [.slice aoa_2 na_2 capa_2, .slice aoa_4 na_4 capa_4, .slice aoa_6 na_6 capa_6]) (l := [(0, .slice aoa_2 na_2 capa_2), (1, .slice aoa_4 na_4 capa_4), (2, .slice aoa_6 na_6 capa_6)]) Try.func3 rfl rfl ⟨rfl, rfl, rfl, trivial⟩ (fun w hlt => ?_)
  rw [law16_DeadJoins.eq_1] at hx
  refine JC.seq ?_
  refine JC.region ?_
  refine JL.val rfl rfl (R.assign rfl) ?_
  refine JL.nil ?_
  refine JN.next ?_
  refine JC.seq ?_
  refine JC.region ?_
  obtain ⟨x_7, hr_8, hx⟩ := bnd_some hx
  refine JL.callC (vs := []) (args := []) (K := []) (rst := []) E7 rfl rfl rfl picks0 (law16_alive_ok _ _ hr_8) rfl (fun u_9 Ku_9 Hu_9 hRu_9 hleu_9 hfu_9 => ?_)
  obtain ⟨rfl, rfl, -⟩ := hRu_9
  refine JL.val rfl rfl (R.assign rfl) ?_
  refine JL.nil ?_
  refine JN.next ?_
  refine JC.seq ?_
  refine JC.seq ?_
  refine JC.region ?_
  refine JL.val rfl rfl (R.move rfl) ?_
  refine JL.val rfl rfl (R.lenL U22 rfl (IsSlice.long ha_2)) ?_
  refine JL.val rfl rfl (R.gtr_i rfl rfl) ?_
  refine JL.val rfl rfl (R.move rfl) ?_
  refine JL.gSplit (t := 24) rfl (fun c_10 => ?_) (fun c_10 => ?_)
  · replace hx := cond_t c_10 hx
    refine JL.gNo rfl rfl rfl rfl rfl ?_
    refine JL.gNo rfl rfl rfl rfl rfl ?_
    refine JL.gNo rfl rfl rfl rfl rfl ?_
    refine JL.val rfl rfl (R.pickT rfl rfl) ?_
    refine JL.val rfl rfl (R.move rfl) ?_
    refine JL.gNo rfl rfl rfl rfl rfl ?_
    refine JL.gNo rfl rfl rfl rfl rfl ?_
    refine JL.gNo rfl rfl rfl rfl rfl ?_
    refine JL.val rfl rfl (R.pickT rfl rfl) ?_
    refine JL.nil ?_
    refine JN.next ?_
    refine JC.condT rfl ?_
    refine JC.seq ?_
    refine JC.region ?_
    refine JL.val rfl rfl (R.move rfl) ?_
    refine JL.val rfl rfl (R.assign rfl) ?_
    refine JL.nil ?_
    refine JN.next ?_
    refine JC.ret ?_
    refine JN.passR ?_
    refine JN.outP (vs := [.bool x_7]) (K := []) (rst := []) (.inl rfl) rfl rfl (Res.tmp rfl rfl) picks0 ?_
    obtain rfl := Option.some.inj hx
    exact ⟨rfl, rfl, trivial⟩
  · replace hx := cond_f c_10 hx
    refine JL.gYes rfl rfl rfl ?_
    refine JL.val rfl rfl (R.move rfl) ?_
    refine JL.gYes rfl rfl rfl ?_
    refine JL.val rfl rfl (R.lenL U22 rfl (IsSlice.long ha_4)) ?_
    refine JL.gYes rfl rfl rfl ?_
    refine JL.val rfl rfl (R.gtr_i rfl rfl) ?_
    refine JL.val rfl rfl (R.pickF rfl rfl) ?_
    refine JL.val rfl rfl (R.move rfl) ?_
    refine JL.gSplit (t := 29) rfl (fun c_11 => ?_) (fun c_11 => ?_)
    · replace hx := cond_t c_11 hx
      refine JL.gNo rfl rfl rfl rfl rfl ?_
      refine JL.gNo rfl rfl rfl rfl rfl ?_
      refine JL.gNo rfl rfl rfl rfl rfl ?_
      refine JL.val rfl rfl (R.pickT rfl rfl) ?_
      refine JL.nil ?_
      refine JN.next ?_
      refine JC.condT rfl ?_
      refine JC.seq ?_
      refine JC.region ?_
      refine JL.val rfl rfl (R.move rfl) ?_
      refine JL.val rfl rfl (R.assign rfl) ?_
      refine JL.nil ?_
      refine JN.next ?_
      refine JC.ret ?_
      refine JN.passR ?_
      refine JN.outP (vs := [.bool x_7]) (K := []) (rst := []) (.inl rfl) rfl rfl (Res.tmp rfl rfl) picks0 ?_
      obtain rfl := Option.some.inj hx
      exact ⟨rfl, rfl, trivial⟩
    · replace hx := cond_f c_11 hx
      refine JL.gYes rfl rfl rfl ?_
      refine JL.val rfl rfl (R.move rfl) ?_
      refine JL.gYes rfl rfl rfl ?_
      refine JL.val rfl rfl (R.lenL U22 rfl (IsSlice.long ha_6)) ?_
      refine JL.gYes rfl rfl rfl ?_
      refine JL.val rfl rfl (R.gtr_i rfl rfl) ?_
      refine JL.val rfl rfl (R.pickF rfl rfl) ?_
      refine JL.nil ?_
      refine JN.next ?_
      refine JC.condB rfl (fun c_12 => ?_) (fun c_12 => ?_)
      · replace hx := cond_t c_12 hx
        refine JC.seq ?_
        refine JC.region ?_
        refine JL.val rfl rfl (R.move rfl) ?_
        refine JL.val rfl rfl (R.assign rfl) ?_
        refine JL.nil ?_
        refine JN.next ?_
        refine JC.ret ?_
        refine JN.passR ?_
        refine JN.outP (vs := [.bool x_7]) (K := []) (rst := []) (.inl rfl) rfl rfl (Res.tmp rfl rfl) picks0 ?_
        obtain rfl := Option.some.inj hx
        exact ⟨rfl, rfl, trivial⟩
      · replace hx := cond_f c_12 hx
        refine JC.skip ?_
        refine JN.next ?_
        refine JC.seq ?_
        refine JC.region ?_
        refine JL.val rfl rfl (R.move rfl) ?_
        refine JL.val rfl rfl (R.move rfl) ?_
        obtain ⟨x_13, hr_14, hx⟩ := bnd_some hx
        refine JL.callC (vs := [_, _]) (args := [_, _]) (K := []) (rst := []) E8 rfl rfl rfl picks0 (dead_Join_ok p_1 p_3 _ (ha_2.mono R_Ptr.mono hleu_9) (ha_4.mono R_Ptr.mono hleu_9) _ hr_14) rfl (fun u_15 Ku_15 Hu_15 hRu_15 hleu_15 hfu_15 => ?_)
        obtain ⟨aoz_16, nz_16, capz_16, rfl, rfl, hz_16, -⟩ := hRu_15
        replace hz_16 := IsSlice.mono R_Ptr.mono (New.call hleu_9) hz_16
        refine JL.val rfl rfl (R.move rfl) ?_
        refine JL.val rfl rfl (R.extract rfl rfl) ?_
        refine JL.val rfl rfl (R.extract rfl rfl) ?_
        refine JL.val rfl rfl (R.assign rfl) ?_
        refine JL.val rfl rfl (R.assign rfl) ?_
        refine JL.nil ?_
        refine JN.next ?_
        refine JC.seq ?_
        refine JC.region ?_
        refine JL.val rfl rfl (R.move rfl) ?_
        refine JL.val rfl rfl (R.move rfl) ?_
        obtain ⟨x_17, hr_18, hx⟩ := bnd_some hx
        refine JL.callC (vs := [_, _]) (args := [_, _]) (K := []) (rst := []) E8 rfl rfl rfl picks0 (dead_Join_ok p_3 p_1 _ (ha_4.mono R_Ptr.mono (hleu_9.trans hleu_15)) (ha_2.mono R_Ptr.mono (hleu_9.trans hleu_15)) _ hr_18) rfl (fun u_19 Ku_19 Hu_19 hRu_19 hleu_19 hfu_19 => ?_)
        obtain ⟨aoz_20, nz_20, capz_20, rfl, rfl, hz_20, -⟩ := hRu_19
        replace hz_20 := IsSlice.mono R_Ptr.mono (New.call (hleu_9.trans hleu_15)) hz_20
        refine JL.val rfl rfl (R.move rfl) ?_
        refine JL.val rfl rfl (R.extract rfl rfl) ?_
        refine JL.val rfl rfl (R.extract rfl rfl) ?_
        refine JL.val rfl rfl (R.assign rfl) ?_
        refine JL.val rfl rfl (R.assign rfl) ?_
        refine JL.nil ?_
        refine JN.next ?_
        refine JC.seq ?_
        obtain ⟨t_21, ht_23, hx⟩ := bnd_some hx
        refine JC.cut (fun l o g => ∃ t_21a : Unit, l = [(0, .slice aoa_2 na_2 capa_2), (1, .slice aoa_4 na_4 capa_4), (2, .slice aoa_6 na_6 capa_6), (7, .bool x_7), (8, .slice aoz_16 nz_16 capz_16), (9, .int .i64 x_13.2)] ∧ o = [] ∧ Hu_19 = g ∧ t_21 = .inl t_21a) ?_ ?_
        · rintro _ _ _ ⟨t_21a, rfl, rfl, rfl, rfl⟩
          simp only [Sum.elim_inl] at hx
          refine JN.next ?_
          refine JC.seq ?_
          refine JC.region ?_
          refine JL.val rfl rfl (R.move rfl) ?_
          obtain ⟨x_31, hr_32, hx⟩ := bnd_some hx
          refine JL.callC (vs := [_, _]) (args := [_, _]) (K := []) (rst := []) E8 rfl rfl rfl picks0 (dead_Join_ok p_1 ([] : List Ptr) _ (ha_2.mono R_Ptr.mono (hleu_9.trans (hleu_15.trans hleu_19))) (IsSlice.nil _ _ _) _ hr_32) rfl (fun u_33 Ku_33 Hu_33 hRu_33 hleu_33 hfu_33 => ?_)
          obtain ⟨aoz_34, nz_34, capz_34, rfl, rfl, hz_34, -⟩ := hRu_33
          replace hz_34 := IsSlice.mono R_Ptr.mono (New.call (hleu_9.trans (hleu_15.trans hleu_19))) hz_34
          refine JL.val rfl rfl (R.move rfl) ?_
          refine JL.val rfl rfl (R.extract rfl rfl) ?_
          refine JL.val rfl rfl (R.extract rfl rfl) ?_
          refine JL.val rfl rfl (R.assign rfl) ?_
          refine JL.val rfl rfl (R.assign rfl) ?_
          refine JL.nil ?_
          refine JN.next ?_
          refine JC.seq ?_
          obtain ⟨t_35, ht_37, hx⟩ := bnd_some hx
          refine JC.cut (fun l o g => ∃ t_35a : Unit, l = [(0, .slice aoa_2 na_2 capa_2), (1, .slice aoa_4 na_4 capa_4), (2, .slice aoa_6 na_6 capa_6), (7, .bool x_7), (8, .slice aoz_16 nz_16 capz_16), (9, .int .i64 x_13.2)] ∧ o = [] ∧ Hu_33 = g ∧ t_35 = .inl t_35a) ?_ ?_
          · rintro _ _ _ ⟨t_35a, rfl, rfl, rfl, rfl⟩
            simp only [Sum.elim_inl] at hx
            refine JN.next ?_
            refine JC.seq ?_
            refine JC.seq ?_
            refine JC.region ?_
            refine JL.val rfl rfl (R.move rfl) ?_
            refine JL.val rfl rfl (R.neq_i rfl rfl) ?_
            refine JL.nil ?_
            refine JN.next ?_
            refine JC.condB rfl (fun c_47 => ?_) (fun c_47 => ?_)
            · replace hx := cond_t c_47 hx
              refine JC.seq ?_
              obtain ⟨t_48, ht_50, hx⟩ := bnd_some hx
              refine JC.cut (fun l o g => l = [(6, .bool t_48)] ∧ o = [] ∧ Hu_33 = g) ?_ ?_
              · rintro _ _ _ ⟨rfl, rfl, rfl⟩
                refine JN.next ?_
                refine JC.ret ?_
                refine JN.passR ?_
                refine JN.outP (vs := [.bool t_48]) (K := []) (rst := []) (.inl rfl) rfl rfl (Res.tmp rfl rfl) picks0 ?_
                obtain rfl := Option.some.inj hx
                exact ⟨rfl, rfl, trivial⟩
              · have hxo_49 := hx; clear hx; have hx := ht_50; clear ht_50
                refine JC.region ?_
                refine JL.val rfl rfl (R.move rfl) ?_
                refine JL.val rfl rfl (R.move rfl) ?_
                refine JL.gSplit (t := 91) rfl (fun c_51 => ?_) (fun c_51 => ?_)
                · replace hx := cond_t c_51 hx
                  refine JL.gYes rfl rfl rfl ?_
                  refine JL.val rfl rfl (R.move rfl) ?_
                  refine JL.gYes rfl rfl rfl ?_
                  refine JL.val rfl rfl (R.lenL U22 rfl (IsSlice.long hz_16)) ?_
                  refine JL.gYes rfl rfl rfl ?_
                  refine JL.val rfl rfl (R.eql_i rfl rfl) ?_
                  refine JL.val rfl rfl (R.pickT rfl rfl) ?_
                  refine JL.val rfl rfl (R.assign rfl) ?_
                  refine JL.nil ?_
                  obtain rfl := Option.some.inj hx
                  exact JN.cut ⟨rfl, rfl, rfl⟩ ⟨rfl, trivial⟩ rfl rfl
                · replace hx := cond_f c_51 hx
                  refine JL.gNo rfl rfl rfl rfl rfl ?_
                  refine JL.gNo rfl rfl rfl rfl rfl ?_
                  refine JL.gNo rfl rfl rfl rfl rfl ?_
                  refine JL.val rfl rfl (R.pickF rfl rfl) ?_
                  refine JL.val rfl rfl (R.assign rfl) ?_
                  refine JL.nil ?_
                  obtain rfl := Option.some.inj hx
                  exact JN.cut ⟨rfl, rfl, rfl⟩ ⟨rfl, trivial⟩ rfl rfl
            · replace hx := cond_f c_47 hx
              refine JC.skip ?_
              refine JN.next ?_
              refine JC.seq ?_
              refine JC.region ?_
              refine JL.val rfl rfl (R.move rfl) ?_
              refine JL.val rfl rfl (R.move rfl) ?_
              obtain ⟨x_52, hr_53, hx⟩ := bnd_some hx
              refine JL.callC (vs := [_, _]) (args := [_, _]) (K := []) (rst := []) E8 rfl rfl rfl picks0 (dead_Join_ok x_13.1 p_5 _ ((hz_16.mono R_Ptr.mono (New.mono (hleu_19.trans hleu_33))).old R_Ptr.mono) (ha_6.mono R_Ptr.mono (hleu_9.trans (hleu_15.trans (hleu_19.trans hleu_33)))) _ hr_53) rfl (fun u_54 Ku_54 Hu_54 hRu_54 hleu_54 hfu_54 => ?_)
              obtain ⟨aoz_55, nz_55, capz_55, rfl, rfl, hz_55, -⟩ := hRu_54
              replace hz_55 := IsSlice.mono R_Ptr.mono (New.call (hleu_9.trans (hleu_15.trans (hleu_19.trans hleu_33)))) hz_55
              refine JL.val rfl rfl (R.move rfl) ?_
              refine JL.val rfl rfl (R.extract rfl rfl) ?_
              refine JL.val rfl rfl (R.extract rfl rfl) ?_
              refine JL.val rfl rfl (R.assign rfl) ?_
              refine JL.val rfl rfl (R.assign rfl) ?_
              refine JL.nil ?_
              refine JN.next ?_
              refine JC.seq ?_
              refine JC.region ?_
              refine JL.val rfl rfl (R.move rfl) ?_
              refine JL.val rfl rfl (R.move rfl) ?_
              obtain ⟨x_56, hr_57, hx⟩ := bnd_some hx
              refine JL.callC (vs := [_, _]) (args := [_, _]) (K := []) (rst := []) E8 rfl rfl rfl picks0 (dead_Join_ok p_3 p_5 _ (ha_4.mono R_Ptr.mono (hleu_9.trans (hleu_15.trans (hleu_19.trans (hleu_33.trans hleu_54))))) (ha_6.mono R_Ptr.mono (hleu_9.trans (hleu_15.trans (hleu_19.trans (hleu_33.trans hleu_54))))) _ hr_57) rfl (fun u_58 Ku_58 Hu_58 hRu_58 hleu_58 hfu_58 => ?_)
              obtain ⟨aoz_59, nz_59, capz_59, rfl, rfl, hz_59, -⟩ := hRu_58
              replace hz_59 := IsSlice.mono R_Ptr.mono (New.call (hleu_9.trans (hleu_15.trans (hleu_19.trans (hleu_33.trans hleu_54))))) hz_59
              refine JL.val rfl rfl (R.move rfl) ?_
              refine JL.val rfl rfl (R.extract rfl rfl) ?_
              refine JL.val rfl rfl (R.extract rfl rfl) ?_
              refine JL.val rfl rfl (R.assign rfl) ?_
              refine JL.val rfl rfl (R.assign rfl) ?_
              refine JL.nil ?_
              refine JN.next ?_
              refine JC.seq ?_
              refine JC.seq ?_
              refine JC.region ?_
              refine JL.val rfl rfl (R.move rfl) ?_
              refine JL.val rfl rfl (R.neq_i rfl rfl) ?_
              refine JL.val rfl rfl (R.move rfl) ?_
              refine JL.gSplit (t := 110) rfl (fun c_60 => ?_) (fun c_60 => ?_)
              · replace hx := cond_t c_60 hx
                refine JL.gNo rfl rfl rfl rfl rfl ?_
                refine JL.gNo rfl rfl rfl rfl rfl ?_
                refine JL.val rfl rfl (R.pickT rfl rfl) ?_
                refine JL.nil ?_
                refine JN.next ?_
                refine JC.condT rfl ?_
                refine JC.seq ?_
                obtain ⟨t_61, ht_63, hx⟩ := bnd_some hx
                refine JC.cut (fun l o g => l = [(6, .bool t_61)] ∧ o = [] ∧ Hu_58 = g) ?_ ?_
                · rintro _ _ _ ⟨rfl, rfl, rfl⟩
                  refine JN.next ?_
                  refine JC.ret ?_
                  refine JN.passR ?_
                  refine JN.outP (vs := [.bool t_61]) (K := []) (rst := []) (.inl rfl) rfl rfl (Res.tmp rfl rfl) picks0 ?_
                  obtain rfl := Option.some.inj hx
                  exact ⟨rfl, rfl, trivial⟩
                · have hxo_62 := hx; clear hx; have hx := ht_63; clear ht_63
                  refine JC.region ?_
                  refine JL.val rfl rfl (R.move rfl) ?_
                  refine JL.val rfl rfl (R.move rfl) ?_
                  refine JL.gSplit (t := 115) rfl (fun c_64 => ?_) (fun c_64 => ?_)
                  · replace hx := cond_t c_64 hx
                    refine JL.gYes rfl rfl rfl ?_
                    refine JL.val rfl rfl (R.move rfl) ?_
                    refine JL.gYes rfl rfl rfl ?_
                    refine JL.val rfl rfl (R.neq_i rfl rfl) ?_
                    refine JL.val rfl rfl (R.pickT rfl rfl) ?_
                    refine JL.val rfl rfl (R.assign rfl) ?_
                    refine JL.nil ?_
                    obtain rfl := Option.some.inj hx
                    exact JN.cut ⟨rfl, rfl, rfl⟩ ⟨rfl, trivial⟩ rfl rfl
                  · replace hx := cond_f c_64 hx
                    refine JL.gNo rfl rfl rfl rfl rfl ?_
                    refine JL.gNo rfl rfl rfl rfl rfl ?_
                    refine JL.val rfl rfl (R.pickF rfl rfl) ?_
                    refine JL.val rfl rfl (R.assign rfl) ?_
                    refine JL.nil ?_
                    obtain rfl := Option.some.inj hx
                    exact JN.cut ⟨rfl, rfl, rfl⟩ ⟨rfl, trivial⟩ rfl rfl
              · replace hx := cond_f c_60 hx
                refine JL.gYes rfl rfl rfl ?_
                refine JL.val rfl rfl (R.move rfl) ?_
                refine JL.gYes rfl rfl rfl ?_
                refine JL.val rfl rfl (R.neq_i rfl rfl) ?_
                refine JL.val rfl rfl (R.pickF rfl rfl) ?_
                refine JL.nil ?_
                refine JN.next ?_
                refine JC.condB rfl (fun c_65 => ?_) (fun c_65 => ?_)
                · replace hx := cond_t c_65 hx
                  refine JC.seq ?_
                  obtain ⟨t_66, ht_68, hx⟩ := bnd_some hx
                  refine JC.cut (fun l o g => l = [(6, .bool t_66)] ∧ o = [] ∧ Hu_58 = g) ?_ ?_
                  · rintro _ _ _ ⟨rfl, rfl, rfl⟩
                    refine JN.next ?_
                    refine JC.ret ?_
                    refine JN.passR ?_
                    refine JN.outP (vs := [.bool t_66]) (K := []) (rst := []) (.inl rfl) rfl rfl (Res.tmp rfl rfl) picks0 ?_
                    obtain rfl := Option.some.inj hx
                    exact ⟨rfl, rfl, trivial⟩
                  · have hxo_67 := hx; clear hx; have hx := ht_68; clear ht_68
                    refine JC.region ?_
                    refine JL.val rfl rfl (R.move rfl) ?_
                    refine JL.val rfl rfl (R.move rfl) ?_
                    refine JL.gSplit (t := 115) rfl (fun c_69 => ?_) (fun c_69 => ?_)
                    · replace hx := cond_t c_69 hx
                      refine JL.gYes rfl rfl rfl ?_
                      refine JL.val rfl rfl (R.move rfl) ?_
                      refine JL.gYes rfl rfl rfl ?_
                      refine JL.val rfl rfl (R.neq_i rfl rfl) ?_
                      refine JL.val rfl rfl (R.pickT rfl rfl) ?_
                      refine JL.val rfl rfl (R.assign rfl) ?_
                      refine JL.nil ?_
                      obtain rfl := Option.some.inj hx
                      exact JN.cut ⟨rfl, rfl, rfl⟩ ⟨rfl, trivial⟩ rfl rfl
                    · replace hx := cond_f c_69 hx
                      refine JL.gNo rfl rfl rfl rfl rfl ?_
                      refine JL.gNo rfl rfl rfl rfl rfl ?_
                      refine JL.val rfl rfl (R.pickF rfl rfl) ?_
                      refine JL.val rfl rfl (R.assign rfl) ?_
                      refine JL.nil ?_
                      obtain rfl := Option.some.inj hx
                      exact JN.cut ⟨rfl, rfl, rfl⟩ ⟨rfl, trivial⟩ rfl rfl
                · replace hx := cond_f c_65 hx
                  refine JC.skip ?_
                  refine JN.next ?_
                  refine JC.seq ?_
                  refine JC.region ?_
                  refine JL.val rfl rfl (R.move rfl) ?_
                  refine JL.val rfl rfl (R.move rfl) ?_
                  obtain ⟨x_70, hr_71, hx⟩ := bnd_some hx
                  refine JL.callC (vs := [_, _]) (args := [_, _]) (K := []) (rst := []) E8 rfl rfl rfl picks0 (dead_Join_ok p_1 x_56.1 _ (ha_2.mono R_Ptr.mono (hleu_9.trans (hleu_15.trans (hleu_19.trans (hleu_33.trans (hleu_54.trans hleu_58)))))) (hz_59.old R_Ptr.mono) _ hr_71) rfl (fun u_72 Ku_72 Hu_72 hRu_72 hleu_72 hfu_72 => ?_)
                  obtain ⟨aoz_73, nz_73, capz_73, rfl, rfl, hz_73, -⟩ := hRu_72
                  replace hz_73 := IsSlice.mono R_Ptr.mono (New.call (hleu_9.trans (hleu_15.trans (hleu_19.trans (hleu_33.trans (hleu_54.trans hleu_58)))))) hz_73
                  refine JL.val rfl rfl (R.move rfl) ?_
                  refine JL.val rfl rfl (R.extract rfl rfl) ?_
                  refine JL.val rfl rfl (R.extract rfl rfl) ?_
                  refine JL.val rfl rfl (R.assign rfl) ?_
                  refine JL.val rfl rfl (R.assign rfl) ?_
                  refine JL.nil ?_
                  refine JN.next ?_
                  refine JC.seq ?_
                  obtain ⟨t_74, ht_76, hx⟩ := bnd_some hx
                  refine JC.cut (fun l o g => l = [(6, .bool t_74)] ∧ o = [] ∧ Hu_72 = g) ?_ ?_
                  · rintro _ _ _ ⟨rfl, rfl, rfl⟩
                    refine JN.next ?_
                    refine JC.ret ?_
                    refine JN.outP (vs := [.bool t_74]) (K := []) (rst := []) (.inl rfl) rfl rfl (Res.tmp rfl rfl) picks0 ?_
                    obtain rfl := Option.some.inj hx
                    exact ⟨rfl, rfl, trivial⟩
                  · have hxo_75 := hx; clear hx; have hx := ht_76; clear ht_76
                    refine JC.region ?_
                    refine JL.val rfl rfl (R.move rfl) ?_
                    refine JL.val rfl rfl (R.move rfl) ?_
                    refine JL.gSplit (t := 126) rfl (fun c_77 => ?_) (fun c_77 => ?_)
                    · replace hx := cond_t c_77 hx
                      refine JL.gYes rfl rfl rfl ?_
                      refine JL.val rfl rfl (R.move rfl) ?_
                      refine JL.gYes rfl rfl rfl ?_
                      refine JL.val rfl rfl (R.eql_i rfl rfl) ?_
                      refine JL.val rfl rfl (R.pickT rfl rfl) ?_
                      refine JL.val rfl rfl (R.move rfl) ?_
                      refine JL.gSplit (t := 130) rfl (fun c_78 => ?_) (fun c_78 => ?_)
                      · replace hx := cond_t c_78 hx
                        refine JL.gYes rfl rfl rfl ?_
                        refine JL.val rfl rfl (R.move rfl) ?_
                        refine JL.gYes rfl rfl rfl ?_
                        refine JL.val rfl rfl (R.move rfl) ?_
                        refine JL.gYes rfl rfl rfl ?_
                        obtain ⟨x_79, hr_80, hx⟩ := bnd_some hx
                        refine JL.callC (vs := [_, _]) (args := [_, _]) (K := []) (rst := []) E9 rfl rfl rfl picks0 (law16_same_ok x_52.1 x_70.1 _ ((hz_55.mono R_Ptr.mono (New.mono (hleu_58.trans hleu_72))).old R_Ptr.mono) (hz_73.old R_Ptr.mono) _ hr_80) rfl (fun u_81 Ku_81 Hu_81 hRu_81 hleu_81 hfu_81 => ?_)
                        obtain ⟨rfl, rfl, rfl, -⟩ := hRu_81
                        refine JL.val rfl rfl (R.pickT rfl rfl) ?_
                        refine JL.val rfl rfl (R.assign rfl) ?_
                        refine JL.nil ?_
                        obtain rfl := Option.some.inj hx
                        exact JN.cut ⟨rfl, rfl, rfl⟩ ⟨rfl, trivial⟩ rfl rfl
                      · replace hx := cond_f c_78 hx
                        refine JL.gNo rfl rfl rfl rfl rfl ?_
                        refine JL.gNo rfl rfl rfl rfl rfl ?_
                        refine JL.gNo rfl rfl rfl rfl rfl ?_
                        refine JL.val rfl rfl (R.pickF rfl rfl) ?_
                        refine JL.val rfl rfl (R.assign rfl) ?_
                        refine JL.nil ?_
                        obtain rfl := Option.some.inj hx
                        exact JN.cut ⟨rfl, rfl, rfl⟩ ⟨rfl, trivial⟩ rfl rfl
                    · replace hx := cond_f c_77 hx
                      refine JL.gNo rfl rfl rfl rfl rfl ?_
                      refine JL.gNo rfl rfl rfl rfl rfl ?_
                      refine JL.val rfl rfl (R.pickF rfl rfl) ?_
                      refine JL.val rfl rfl (R.move rfl) ?_
                      refine JL.gNo rfl rfl rfl rfl rfl ?_
                      refine JL.gNo rfl rfl rfl rfl rfl ?_
                      refine JL.gNo rfl rfl rfl rfl rfl ?_
                      refine JL.val rfl rfl (R.pickF rfl rfl) ?_
                      refine JL.val rfl rfl (R.assign rfl) ?_
                      refine JL.nil ?_
                      obtain rfl := Option.some.inj hx
                      exact JN.cut ⟨rfl, rfl, rfl⟩ ⟨rfl, trivial⟩ rfl rfl
          · have hxo_36 := hx; clear hx; have hx := ht_37; clear ht_37
            refine JC.seq ?_
            refine JC.region ?_
            refine JL.val rfl rfl (R.move rfl) ?_
            obtain ⟨x_38, hr_39, hx⟩ := bnd_some hx
            refine JL.callC (vs := [_]) (args := [_]) (K := []) (rst := []) E10 rfl rfl rfl picks0 (dead_Check_ok p_1 _ (ha_2.mono R_Ptr.mono (hleu_9.trans (hleu_15.trans (hleu_19.trans hleu_33)))) _ hr_39) rfl (fun u_40 Ku_40 Hu_40 hRu_40 hleu_40 hfu_40 => ?_)
            obtain ⟨rfl, rfl, rfl, -⟩ := hRu_40
            refine JL.val rfl rfl (R.eql_i rfl rfl) ?_
            refine JL.val rfl rfl (R.move rfl) ?_
            refine JL.gSplit (t := 78) rfl (fun c_41 => ?_) (fun c_41 => ?_)
            · replace hx := cond_t c_41 hx
              refine JL.gYes rfl rfl rfl ?_
              refine JL.val rfl rfl (R.move rfl) ?_
              refine JL.gYes rfl rfl rfl ?_
              refine JL.val rfl rfl (R.neq_i rfl rfl) ?_
              refine JL.gYes rfl rfl rfl ?_
              refine JL.val rfl rfl (R.move rfl) ?_
              refine JL.gSplit (t := 81) rfl (fun c_42 => ?_) (fun c_42 => ?_)
              · replace hx := cond_t c_42 hx
                refine JL.gNo rfl rfl rfl rfl rfl ?_
                refine JL.gNo rfl rfl rfl rfl rfl ?_
                refine JL.gNo rfl rfl rfl rfl rfl ?_
                refine JL.gNo rfl rfl rfl rfl rfl ?_
                refine JL.gYes rfl rfl rfl ?_
                refine JL.val rfl rfl (R.pickT rfl rfl) ?_
                refine JL.val rfl rfl (R.pickT rfl rfl) ?_
                refine JL.nil ?_
                refine JN.next ?_
                refine JC.condT rfl ?_
                refine JC.seq ?_
                refine JC.region ?_
                refine JL.val rfl rfl (R.assign rfl) ?_
                refine JL.nil ?_
                refine JN.next ?_
                refine JC.ret ?_
                obtain rfl := Option.some.inj hx
                clear hx; have hx := hxo_36
                simp only [Sum.elim_inl, Sum.elim_inr] at hx
                refine JN.passR ?_
                refine JN.passR ?_
                refine JN.outP (vs := [.bool false]) (K := []) (rst := []) (.inl rfl) rfl rfl (Res.tmp rfl rfl) picks0 ?_
                obtain rfl := Option.some.inj hx
                exact ⟨rfl, rfl, trivial⟩
              · replace hx := cond_f c_42 hx
                refine JL.gYes rfl rfl rfl ?_
                refine JL.val rfl rfl (R.move rfl) ?_
                refine JL.gYes rfl rfl rfl ?_
                refine JL.val rfl rfl (R.move rfl) ?_
                refine JL.gYes rfl rfl rfl ?_
                obtain ⟨x_43, hr_44, hx⟩ := bnd_some hx
                refine JL.callC (vs := [_, _]) (args := [_, _]) (K := []) (rst := []) E9 rfl rfl rfl picks0 (law16_same_ok x_31.1 p_1 _ (hz_34.old R_Ptr.mono) (ha_2.mono R_Ptr.mono (hleu_9.trans (hleu_15.trans (hleu_19.trans hleu_33)))) _ hr_44) rfl (fun u_45 Ku_45 Hu_45 hRu_45 hleu_45 hfu_45 => ?_)
                obtain ⟨rfl, rfl, rfl, -⟩ := hRu_45
                refine JL.gYes rfl rfl rfl ?_
                refine JL.val rfl rfl (R.not rfl) ?_
                refine JL.gYes rfl rfl rfl ?_
                refine JL.val rfl rfl (R.pickF rfl rfl) ?_
                refine JL.val rfl rfl (R.pickT rfl rfl) ?_
                refine JL.nil ?_
                refine JN.next ?_
                refine JC.condB rfl (fun c_46 => ?_) (fun c_46 => ?_)
                · replace hx := cond_t c_46 hx
                  refine JC.seq ?_
                  refine JC.region ?_
                  refine JL.val rfl rfl (R.assign rfl) ?_
                  refine JL.nil ?_
                  refine JN.next ?_
                  refine JC.ret ?_
                  obtain rfl := Option.some.inj hx
                  clear hx; have hx := hxo_36
                  simp only [Sum.elim_inl, Sum.elim_inr] at hx
                  refine JN.passR ?_
                  refine JN.passR ?_
                  refine JN.outP (vs := [.bool false]) (K := []) (rst := []) (.inl rfl) rfl rfl (Res.tmp rfl rfl) picks0 ?_
                  obtain rfl := Option.some.inj hx
                  exact ⟨rfl, rfl, trivial⟩
                · replace hx := cond_f c_46 hx
                  refine JC.skip ?_
                  obtain rfl := Option.some.inj hx
                  exact JN.cut ⟨(), rfl, rfl, rfl, rfl⟩ ⟨rfl, rfl, rfl, rfl, rfl, rfl, trivial⟩ rfl rfl
            · replace hx := cond_f c_41 hx
              refine JL.gNo rfl rfl rfl rfl rfl ?_
              refine JL.gNo rfl rfl rfl rfl rfl ?_
              refine JL.gNo rfl rfl rfl rfl rfl ?_
              refine JL.gNoU rfl rfl rfl rfl ?_
              refine JL.gNoU rfl rfl rfl rfl ?_
              refine JL.gNoU rfl rfl rfl rfl ?_
              refine JL.gNoU rfl rfl rfl rfl ?_
              refine JL.gNo rfl rfl rfl rfl rfl ?_
              refine JL.val rfl rfl (R.pickF rfl rfl) ?_
              refine JL.nil ?_
              refine JN.next ?_
              refine JC.condF rfl ?_
              refine JC.skip ?_
              obtain rfl := Option.some.inj hx
              exact JN.cut ⟨(), rfl, rfl, rfl, rfl⟩ ⟨rfl, rfl, rfl, rfl, rfl, rfl, trivial⟩ rfl rfl
        · have hxo_22 := hx; clear hx; have hx := ht_23; clear ht_23
          refine JC.seq ?_
          refine JC.region ?_
          refine JL.val rfl rfl (R.move rfl) ?_
          refine JL.val rfl rfl (R.move rfl) ?_
          refine JL.val rfl rfl (R.neq_i rfl rfl) ?_
          refine JL.val rfl rfl (R.move rfl) ?_
          refine JL.gSplit (t := 50) rfl (fun c_24 => ?_) (fun c_24 => ?_)
          · replace hx := cond_t c_24 hx
            refine JL.gNo rfl rfl rfl rfl rfl ?_
            refine JL.gNo rfl rfl rfl rfl rfl ?_
            refine JL.gNo rfl rfl rfl rfl rfl ?_
            refine JL.gNo rfl rfl rfl rfl rfl ?_
            refine JL.val rfl rfl (R.pickT rfl rfl) ?_
            refine JL.val rfl rfl (R.move rfl) ?_
            refine JL.gNo rfl rfl rfl rfl rfl ?_
            refine JL.gNo rfl rfl rfl rfl rfl ?_
            refine JL.gNo rfl rfl rfl rfl rfl ?_
            refine JL.gNoU rfl rfl rfl rfl ?_
            refine JL.gNoU rfl rfl rfl rfl ?_
            refine JL.gNoU rfl rfl rfl rfl ?_
            refine JL.gNoU rfl rfl rfl rfl ?_
            refine JL.gNoU rfl rfl rfl rfl ?_
            refine JL.gNoU rfl rfl rfl rfl ?_
            refine JL.gNoU rfl rfl rfl rfl ?_
            refine JL.gNoU rfl rfl rfl rfl ?_
            refine JL.gNo rfl rfl rfl rfl rfl ?_
            refine JL.val rfl rfl (R.pickT rfl rfl) ?_
            refine JL.nil ?_
            refine JN.next ?_
            refine JC.condT rfl ?_
            refine JC.seq ?_
            refine JC.region ?_
            refine JL.val rfl rfl (R.assign rfl) ?_
            refine JL.nil ?_
            refine JN.next ?_
            refine JC.ret ?_
            obtain rfl := Option.some.inj hx
            clear hx; have hx := hxo_22
            simp only [Sum.elim_inl, Sum.elim_inr] at hx
            refine JN.passR ?_
            refine JN.passR ?_
            refine JN.outP (vs := [.bool false]) (K := []) (rst := []) (.inl rfl) rfl rfl (Res.tmp rfl rfl) picks0 ?_
            obtain rfl := Option.some.inj hx
            exact ⟨rfl, rfl, trivial⟩
          · replace hx := cond_f c_24 hx
            refine JL.gYes rfl rfl rfl ?_
            refine JL.val rfl rfl (R.move rfl) ?_
            refine JL.gYes rfl rfl rfl ?_
            refine JL.val rfl rfl (R.move rfl) ?_
            refine JL.gYes rfl rfl rfl ?_
            obtain ⟨x_25, hr_26, hx⟩ := bnd_some hx
            refine JL.callC (vs := [_, _]) (args := [_, _]) (K := []) (rst := []) E9 rfl rfl rfl picks0 (law16_same_ok x_13.1 x_17.1 _ ((hz_16.mono R_Ptr.mono (New.mono hleu_19)).old R_Ptr.mono) (hz_20.old R_Ptr.mono) _ hr_26) rfl (fun u_27 Ku_27 Hu_27 hRu_27 hleu_27 hfu_27 => ?_)
            obtain ⟨rfl, rfl, rfl, -⟩ := hRu_27
            refine JL.gYes rfl rfl rfl ?_
            refine JL.val rfl rfl (R.not rfl) ?_
            refine JL.val rfl rfl (R.pickF rfl rfl) ?_
            refine JL.val rfl rfl (R.move rfl) ?_
            refine JL.gSplit (t := 56) rfl (fun c_28 => ?_) (fun c_28 => ?_)
            · replace hx := cond_t c_28 hx
              refine JL.gNo rfl rfl rfl rfl rfl ?_
              refine JL.gNo rfl rfl rfl rfl rfl ?_
              refine JL.gNo rfl rfl rfl rfl rfl ?_
              refine JL.gNoU rfl rfl rfl rfl ?_
              refine JL.gNoU rfl rfl rfl rfl ?_
              refine JL.gNoU rfl rfl rfl rfl ?_
              refine JL.gNoU rfl rfl rfl rfl ?_
              refine JL.gNoU rfl rfl rfl rfl ?_
              refine JL.gNoU rfl rfl rfl rfl ?_
              refine JL.gNoU rfl rfl rfl rfl ?_
              refine JL.gNoU rfl rfl rfl rfl ?_
              refine JL.gNo rfl rfl rfl rfl rfl ?_
              refine JL.val rfl rfl (R.pickT rfl rfl) ?_
              refine JL.nil ?_
              refine JN.next ?_
              refine JC.condT rfl ?_
              refine JC.seq ?_
              refine JC.region ?_
              refine JL.val rfl rfl (R.assign rfl) ?_
              refine JL.nil ?_
              refine JN.next ?_
              refine JC.ret ?_
              obtain rfl := Option.some.inj hx
              clear hx; have hx := hxo_22
              simp only [Sum.elim_inl, Sum.elim_inr] at hx
              refine JN.passR ?_
              refine JN.passR ?_
              refine JN.outP (vs := [.bool false]) (K := []) (rst := []) (.inl rfl) rfl rfl (Res.tmp rfl rfl) picks0 ?_
              obtain rfl := Option.some.inj hx
              exact ⟨rfl, rfl, trivial⟩
            · replace hx := cond_f c_28 hx
              refine JL.gYes rfl rfl rfl ?_
              refine JL.val rfl rfl (R.move rfl) ?_
              refine JL.gYes rfl rfl rfl ?_
              refine JL.val rfl rfl (R.eql_i rfl rfl) ?_
              refine JL.gYes rfl rfl rfl ?_
              refine JL.val rfl rfl (R.move rfl) ?_
              refine JL.gSplit (t := 59) rfl (fun c_29 => ?_) (fun c_29 => ?_)
              · replace hx := cond_t c_29 hx
                refine JL.gYes rfl rfl rfl ?_
                refine JL.val rfl rfl (R.move rfl) ?_
                refine JL.gYes rfl rfl rfl ?_
                refine JL.val rfl rfl (R.lenL U22 rfl (IsSlice.long hz_16)) ?_
                refine JL.gYes rfl rfl rfl ?_
                refine JL.val rfl rfl (R.move rfl) ?_
                refine JL.gYes rfl rfl rfl ?_
                refine JL.val rfl rfl (R.lenL U22 rfl (IsSlice.long ha_2)) ?_
                refine JL.gYes rfl rfl rfl ?_
                refine JL.val rfl rfl (R.move rfl) ?_
                refine JL.gYes rfl rfl rfl ?_
                refine JL.val rfl rfl (R.lenL U22 rfl (IsSlice.long ha_4)) ?_
                refine JL.gYes rfl rfl rfl ?_
                refine JL.val rfl rfl (R.add_i rfl rfl) ?_
                refine JL.gYes rfl rfl rfl ?_
                refine JL.val rfl rfl (R.neq_i rfl rfl) ?_
                refine JL.gYes rfl rfl rfl ?_
                refine JL.val rfl rfl (R.pickT rfl rfl) ?_
                refine JL.val rfl rfl (R.pickF rfl rfl) ?_
                refine JL.nil ?_
                refine JN.next ?_
                refine JC.condB rfl (fun c_30 => ?_) (fun c_30 => ?_)
                · replace hx := cond_t c_30 hx
                  refine JC.seq ?_
                  refine JC.region ?_
                  refine JL.val rfl rfl (R.assign rfl) ?_
                  refine JL.nil ?_
                  refine JN.next ?_
                  refine JC.ret ?_
                  obtain rfl := Option.some.inj hx
                  clear hx; have hx := hxo_22
                  simp only [Sum.elim_inl, Sum.elim_inr] at hx
                  refine JN.passR ?_
                  refine JN.passR ?_
                  refine JN.outP (vs := [.bool false]) (K := []) (rst := []) (.inl rfl) rfl rfl (Res.tmp rfl rfl) picks0 ?_
                  obtain rfl := Option.some.inj hx
                  exact ⟨rfl, rfl, trivial⟩
                · replace hx := cond_f c_30 hx
                  refine JC.skip ?_
                  obtain rfl := Option.some.inj hx
                  exact JN.cut ⟨(), rfl, rfl, rfl, rfl⟩ ⟨rfl, rfl, rfl, rfl, rfl, rfl, trivial⟩ rfl rfl
              · replace hx := cond_f c_29 hx
                refine JL.gNo rfl rfl rfl rfl rfl ?_
                refine JL.gNo rfl rfl rfl rfl rfl ?_
                refine JL.gNo rfl rfl rfl rfl rfl ?_
                refine JL.gNo rfl rfl rfl rfl rfl ?_
                refine JL.gNo rfl rfl rfl rfl rfl ?_
                refine JL.gNo rfl rfl rfl rfl rfl ?_
                refine JL.gNo rfl rfl rfl rfl rfl ?_
                refine JL.gNo rfl rfl rfl rfl rfl ?_
                refine JL.gYes rfl rfl rfl ?_
                refine JL.val rfl rfl (R.pickF rfl rfl) ?_
                refine JL.val rfl rfl (R.pickF rfl rfl) ?_
                refine JL.nil ?_
                refine JN.next ?_
                refine JC.condF rfl ?_
                refine JC.skip ?_
                obtain rfl := Option.some.inj hx
                exact JN.cut ⟨(), rfl, rfl, rfl, rfl⟩ ⟨rfl, rfl, rfl, rfl, rfl, rfl, trivial⟩ rfl rfl

set_option maxHeartbeats 1000000 in
theorem dead_Split_ok (p_1 : List Ptr) (p_3 : UInt32) (H : Heaplet) {aoa_2 : Option Addr} {na_2 : Nat} {capa_2 : Nat} (ha_2 : IsSlice H R_Ptr 5 (.slice aoa_2 na_2 capa_2) p_1) (r : List Ptr × List Ptr × Int) (hx : dead_Split p_1 p_3 = some r) :
    Does Try.prog 13 #[.slice aoa_2 na_2 capa_2, .int .u32 (p_3.toNat : Int)] [] H (fun u K' H' => ∃ ao0 : Option Addr, ∃ n0 : Nat, ∃ cap0 : Nat, ∃ K0 : Own, ∃ ao1 : Option Addr, ∃ n1 : Nat, ∃ cap1 : Nat, ∃ K1 : Own, u = .tuple #[.slice ao0 n0 cap0, .slice ao1 n1 cap1, .int .i64 r.2.2] ∧ K' = [K0, K1] ∧ H = H' ∧ RowOf (New H H) R_Ptr 0 32 5 (.slice ao0 n0 cap0) r.1 K0 ∧ (∀ p ∈ K0, p.1 ∉ ids (List.flatten [])) ∧ RowOf (New H H) R_Ptr 0 32 5 (.slice ao1 n1 cap1) r.2.1 K1 ∧ (∀ p ∈ K1, p.1 ∉ ids (List.flatten [])) ∧ True) := by
  refine Does.enterL (vs := [.slice aoa_2 na_2 capa_2, .int .u32 (p_3.toNat : Int)]) (l := [(0, .slice aoa_2 na_2 capa_2), (1, .int .u32 (p_3.toNat : Int))]) Try.func13 rfl rfl ⟨rfl, rfl, trivial⟩ (fun w hlt => ?_)
  rw [dead_Split.eq_1] at hx
  refine JC.seq ?_
  refine JC.region ?_
  refine JL.alloc Z22 rfl (fun b_4 hb_4 => ?_)
  refine JL.alloc Z22 rfl (fun b_5 hb_5 => ?_)
  refine JL.val rfl rfl (R.assign rfl) ?_
  refine JL.nil ?_
  refine JN.next ?_
  refine JC.seq ?_
  refine JC.seq ?_
  refine JC.region ?_
  refine JL.val rfl rfl (R.move rfl) ?_
  obtain ⟨x_6, hr_7, hx⟩ := bnd_some hx
  refine JL.callC (vs := [_]) (args := [_]) (K := []) (rst := [_, _]) E10 rfl rfl rfl picks0 (dead_Check_ok p_1 _ ha_2 _ hr_7) rfl (fun u_8 Ku_8 Hu_8 hRu_8 hleu_8 hfu_8 => ?_)
  obtain ⟨rfl, rfl, rfl, -⟩ := hRu_8
  refine JL.val rfl rfl (R.assign rfl) ?_
  refine JL.nil ?_
  refine JN.next ?_
  refine JC.seq ?_
  refine JC.region ?_
  refine JL.val rfl rfl (R.move rfl) ?_
  refine JL.val rfl rfl (R.neq_i rfl rfl) ?_
  refine JL.nil ?_
  refine JN.next ?_
  refine JC.condB rfl (fun c_9 => ?_) (fun c_9 => ?_)
  · replace hx := cond_t c_9 hx
    refine JC.seq ?_
    refine JC.region ?_
    refine JL.val rfl rfl (R.move rfl) ?_
    refine JL.store 1 S22 rfl rfl rfl rfl rfl (Nat.le_of_ble_eq_true rfl) ?_
    refine JL.store 0 S22 rfl rfl rfl rfl rfl (Nat.le_of_ble_eq_true rfl) ?_
    refine JL.val rfl rfl (R.assign rfl) ?_
    refine JL.nil ?_
    refine JN.next ?_
    refine JC.ret ?_
    refine JN.passR ?_
    refine JN.seg0 ?_
    refine JN.seg0 ?_
    refine JN.outP (vs := [.slice none 0 0, .slice none 0 0, .int .i64 x_6]) (K := [_, _]) (rst := [_, _]) (.inl rfl) rfl rfl (Res.cell1 3 rfl rfl S22 rfl (Res.cell1 2 rfl rfl S22 rfl (Res.tmp rfl rfl))) (picks 0 rfl (picks 0 rfl picks0)) ?_
    obtain rfl := Option.some.inj hx
    exact ⟨none, 0, 0, [], none, 0, 0, [], rfl, rfl, rfl, (RowOf.nil _ _ _ _ _), (fun p hp => by cases hp), (RowOf.nil _ _ _ _ _), (fun p hp => by cases hp), trivial⟩
  · replace hx := cond_f c_9 hx
    refine JC.skip ?_
    refine JN.next ?_
    refine JC.seq ?_
    refine JC.seq ?_
    refine JC.region ?_
    refine JL.val rfl rfl (R.move rfl) ?_
    refine JL.val rfl rfl (R.lenL U22 rfl (IsSlice.long ha_2)) ?_
    refine JL.val rfl rfl (R.move rfl) ?_
    refine JL.nil ?_
    refine JN.next ?_
    obtain ⟨t_10, ht_12, hx⟩ := bnd_some hx
    refine JC.cut (fun l o g => ∃ aor_18 : Option Addr, ∃ nr_18 : Nat, ∃ capr_18 : Nat, ∃ Kr_18 : Own, ∃ aor_19 : Option Addr, ∃ nr_19 : Nat, ∃ capr_19 : Nat, ∃ Kr_19 : Own, l = [(4, .pointer (some ⟨b_4, 0, none⟩)), (5, .pointer (some ⟨b_5, 0, none⟩))] ∧ o = [[(b_4, .cells #[.slice aor_18 nr_18 capr_18] 22 (0, 0))], Kr_18, [(b_5, .cells #[.slice aor_19 nr_19 capr_19] 22 (0, 0))], Kr_19] ∧ H = g ∧ RowOf (New H H) R_Ptr w.heap.size 32 5 (.slice aor_18 nr_18 capr_18) t_10.1 Kr_18 ∧ RowOf (New H H) R_Ptr w.heap.size 32 5 (.slice aor_19 nr_19 capr_19) t_10.2 Kr_19) ?_ ?_
    · rintro _ _ _ ⟨aor_18, nr_18, capr_18, Kr_18, aor_19, nr_19, capr_19, Kr_19, rfl, rfl, rfl, hr_18, hr_19⟩
      refine JN.next ?_
      refine JC.seq ?_
      refine JC.region ?_
      refine JL.val rfl rfl (R.ldo 0 S22 rfl rfl rfl) ?_
      refine JL.val rfl rfl (R.ldo 2 S22 rfl rfl rfl) ?_
      refine JL.store 0 S22 rfl rfl rfl rfl rfl (Nat.le_of_ble_eq_true rfl) ?_
      refine JL.store 2 S22 rfl rfl rfl rfl rfl (Nat.le_of_ble_eq_true rfl) ?_
      refine JL.val rfl rfl (R.assign rfl) ?_
      refine JL.nil ?_
      refine JN.next ?_
      refine JC.ret ?_
      refine JN.outP (vs := [.slice aor_18 nr_18 capr_18, .slice aor_19 nr_19 capr_19, .int .i64 0]) (K := [_, _]) (rst := [_, _]) (.inl rfl) rfl rfl (Res.cell1 0 rfl rfl S22 rfl (Res.cell1 2 rfl rfl S22 rfl (Res.tmp rfl rfl))) (picks 1 rfl (picks 2 rfl picks0)) ?_
      obtain rfl := Option.some.inj hx
      exact ⟨aor_18, nr_18, capr_18, Kr_18, aor_19, nr_19, capr_19, Kr_19, rfl, rfl, rfl, (RowOf.weak (Nat.zero_le _) hr_18), (new_ids hr_18 hlt), (RowOf.weak (Nat.zero_le _) hr_19), (new_ids hr_19 hlt), trivial⟩
    · have hxo_11 := hx; clear hx; have hx := ht_12; clear ht_12
      refine JC.block ?_
      refine JC.seg0 ?_
      refine JC.seg0 ?_
      refine JC.front 2 rfl ?_
      refine JC.front 2 rfl ?_
      refine JC.front 3 rfl ?_
      refine JC.loopI (fun n l o g => ∃ s_13 : List Ptr × List Ptr × Nat, ∃ aor_16 : Option Addr, ∃ nr_16 : Nat, ∃ capr_16 : Nat, ∃ Kr_16 : Own, ∃ aor_17 : Option Addr, ∃ nr_17 : Nat, ∃ capr_17 : Nat, ∃ Kr_17 : Own, l = [(1, .int .u32 (p_3.toNat : Int)), (4, .pointer (some ⟨b_4, 0, none⟩)), (5, .pointer (some ⟨b_5, 0, none⟩)), (16, .slice aoa_2 na_2 capa_2), (17, .int .i64 (p_1.length : Int)), (18, .int .i64 ((s_13.2.2 : Nat) : Int))] ∧ o = [[(b_4, .cells #[.slice aor_16 nr_16 capr_16] 22 (0, 0))], Kr_16, [(b_5, .cells #[.slice aor_17 nr_17 capr_17] 22 (0, 0))], Kr_17] ∧ H = g ∧ run (dead_Split_l1 p_1 p_3) n s_13 = some t_10 ∧ RowOf (New H H) R_Ptr w.heap.size 32 5 (.slice aor_16 nr_16 capr_16) s_13.1 Kr_16 ∧ RowOf (New H H) R_Ptr w.heap.size 32 5 (.slice aor_17 nr_17 capr_17) s_13.2.1 Kr_17) FUEL ?_ ⟨(([] : List Ptr), ([] : List Ptr), 0), none, 0, 0, [], none, 0, 0, [], rfl, rfl, rfl, hx, (RowOf.nil _ _ _ _ _), (RowOf.nil _ _ _ _ _)⟩ ⟨rfl, rfl, rfl, rfl, rfl, rfl, trivial⟩ ?_
      · rintro _ _ _ ⟨s_13, aor_16, nr_16, capr_16, Kr_16, aor_17, nr_17, capr_17, Kr_17, rfl, rfl, rfl, hn_14, hr_16, hr_17⟩
        exact run_zero hn_14
      · rintro n_15 _ _ _ ⟨s_13, aor_16, nr_16, capr_16, Kr_16, aor_17, nr_17, capr_17, Kr_17, rfl, rfl, rfl, hn_14, hr_16, hr_17⟩
        clear hx; obtain ⟨oo_19, hx, hd_18⟩ := run_some hn_14
        rw [dead_Split_l1.eq_1] at hx
        refine JC.seq ?_
        refine JC.region ?_
        refine JL.val rfl rfl (R.lss_i rfl rfl) ?_
        refine JL.nil ?_
        refine JN.next ?_
        refine JC.seq ?_
        refine JC.condB rfl (fun c_18 => ?_) (fun c_18 => ?_)
        · replace hx := cond_t c_18 hx
          refine JC.skip ?_
          refine JN.next ?_
          refine JC.seq ?_
          refine JC.block ?_
          refine JC.seq ?_
          refine JC.region ?_
          obtain ⟨y_19, hN_20, hx⟩ := idx_some hx
          obtain ⟨b_21, o_22, cs_23, hE_24, hR_25, hl_26, hc_27⟩ := IsSlice.elem ha_2 hN_20
          obtain rfl := hR_25
          refine JL.val rfl rfl (R.ix U22 S32 rfl rfl hE_24) ?_
          refine JL.val rfl rfl (R.ldHE (cs := [.int .i64 y_19.At, .int .u32 (y_19.Birth.toNat : Int), .int .u32 (y_19.Iv.toNat : Int), .int .u32 (y_19.Tag.toNat : Int), .int .u32 (y_19.Sum.toNat : Int)]) (k := 0) (vs := [.int .i64 y_19.At, .int .u32 (y_19.Birth.toNat : Int), .int .u32 (y_19.Iv.toNat : Int), .int .u32 (y_19.Tag.toNat : Int), .int .u32 (y_19.Sum.toNat : Int)]) S32 rfl hc_27 rfl rfl) ?_
          refine JL.alloc Z32 rfl (fun b_28 hb_28 => ?_)
          refine JL.store 0 S32 rfl rfl rfl rfl rfl (Nat.le_of_ble_eq_true rfl) ?_
          refine JL.nil ?_
          refine JN.next ?_
          refine JC.seq ?_
          refine JC.region ?_
          refine JL.val rfl rfl (R.assign rfl) ?_
          refine JL.nil ?_
          refine JN.next ?_
          refine JC.seq ?_
          refine JC.seq ?_
          refine JC.region ?_
          refine JL.val rfl rfl (R.fa F32_1 rfl) ?_
          refine JL.val rfl rfl (R.ldo 0 S30 rfl rfl rfl) ?_
          refine JL.val rfl rfl (R.move rfl) ?_
          refine JL.val rfl rfl (R.gtr32 (a := y_19.Birth) (b := p_3) rfl rfl) ?_
          refine JL.nil ?_
          refine JN.next ?_
          refine JC.condB rfl (fun c_29 => ?_) (fun c_29 => ?_)
          · replace hx := cond_t c_29 hx
            refine JC.region ?_
            refine JL.val rfl rfl (R.assign rfl) ?_
            refine JL.nil ?_
            refine JN.next ?_
            refine JC.draw (so := [_, _, _]) 9 rfl Mixed ⟨⟨0, rfl⟩, ⟨1, rfl⟩, ⟨2, rfl⟩, trivial⟩ ?_
            refine JA.val ⟨by kernel_rfl, by kernel_rfl⟩ (calm_only _) (i := 0) rfl ⟨by kernel_rfl, by kernel_rfl, rfl⟩ trivial (stab_of (Hle.refl _) ⟨⟨0, rfl⟩, ⟨1, rfl⟩, ⟨2, rfl⟩, trivial⟩) (R.move rfl) rfl ?_
            refine JA.val ⟨by kernel_rfl, by kernel_rfl⟩ (calm_only _) (i := 1) rfl ⟨by kernel_rfl, by kernel_rfl, rfl⟩ trivial (stab_of (Hle.refl _) ⟨⟨0, rfl⟩, ⟨1, rfl⟩, ⟨2, rfl⟩, trivial⟩) (R.move rfl) rfl ?_
            refine JA.val ⟨by kernel_rfl, by kernel_rfl⟩ (calm_only _) (i := 2) rfl ⟨by kernel_rfl, by kernel_rfl, rfl⟩ trivial (stab_of (Hle.refl _) ⟨⟨0, rfl⟩, ⟨1, rfl⟩, ⟨2, rfl⟩, trivial⟩) (R.nilCheck rfl) rfl ?_
            refine JA.val ⟨by kernel_rfl, by kernel_rfl⟩ (calm_only _) (i := 4) rfl ⟨by kernel_rfl, by kernel_rfl, rfl⟩ trivial (stab_of (Hle.refl _) ⟨⟨0, rfl⟩, ⟨1, rfl⟩, ⟨2, rfl⟩, trivial⟩) (R.ldoN 0 (vs := [.int .i64 y_19.At, .int .u32 (y_19.Birth.toNat : Int), .int .u32 (y_19.Iv.toNat : Int), .int .u32 (y_19.Tag.toNat : Int), .int .u32 (y_19.Sum.toNat : Int)]) S32 rfl rfl rfl rfl) rfl ?_
            refine JA.two (i := 3) (j := 5) (by kernel_rfl) ?_ ?_
            · refine JO.step rfl trivial rfl (fun K hK => ?_)
              refine JL.val rfl rfl (R.ldo 3 S22 rfl rfl rfl) ?_
              refine JL.nil ?_
              refine hK _ _ _ (stab_of (Hle.refl _) ⟨⟨0, rfl⟩, ⟨1, rfl⟩, ⟨2, rfl⟩, trivial⟩) ?_
              refine JA.one (i := 5) (by kernel_rfl) ?_
              refine JO.step rfl trivial rfl (fun K hK => ?_)
              refine JL.bslF (HF := (New H H)) (R := R_Ptr) (ls := [y_19]) (vs := [.agg #[.int .i64 y_19.At, .int .u32 (y_19.Birth.toNat : Int), .int .u32 (y_19.Iv.toNat : Int), .int .u32 (y_19.Tag.toNat : Int), .int .u32 (y_19.Sum.toNat : Int)]]) U22 I32 rfl rfl (⟨_, _, rfl, rfl, rfl, rfl⟩) R_Ptr.one rfl rfl rfl (by simp [maxLen]) rfl (fun vr_30 Kr_30 hr_30 => ?_)
              obtain ⟨aor_30, capr_30, rfl⟩ := RowOf.val hr_30
              refine JL.nil ?_
              refine hK _ _ _ (stab_of (Hle.refl _) ⟨⟨1, rfl⟩, ⟨2, rfl⟩, ⟨3, rfl⟩, trivial⟩) ?_
              refine JA.one (i := 6) (by kernel_rfl) ?_
              refine JO.step rfl trivial rfl (fun K hK => ?_)
              obtain ⟨q_31, hm_32, hl_33, hx⟩ := app_some hx
              refine JL.appF (HF := (New H H)) 5 U22 I32 rfl rfl hr_17 rfl (SrcF.row 0 U22 rfl hr_30) hm_32 hl_33 rfl (Nat.le_refl _) rfl (fun vr_34 Kr_34 hr_34 => ?_)
              obtain ⟨aor_34, capr_34, rfl⟩ := RowOf.val hr_34
              refine JL.nil ?_
              refine hK _ _ _ (stab_of (Hle.refl _) ⟨⟨1, rfl⟩, ⟨2, rfl⟩, ⟨3, rfl⟩, trivial⟩) ?_
              refine JA.val ⟨by kernel_rfl, by kernel_rfl⟩ (calm_only _) (i := 7) rfl ⟨by kernel_rfl, by kernel_rfl, rfl⟩ trivial (stab_of (Hle.refl _) ⟨⟨1, rfl⟩, ⟨2, rfl⟩, ⟨3, rfl⟩, trivial⟩) (R.nilCheck rfl) rfl ?_
              refine JA.one (i := 8) (by kernel_rfl) ?_
              refine JO.step rfl trivial rfl (fun K hK => ?_)
              refine JL.store 4 S22 rfl rfl rfl rfl rfl (Nat.le_of_ble_eq_true rfl) ?_
              refine JL.nil ?_
              refine hK _ _ _ (stab_of (Hle.refl _) ⟨⟨1, rfl⟩, ⟨2, rfl⟩, ⟨3, rfl⟩, trivial⟩) ?_
              refine JA.doneN (by kernel_rfl) ?_
              refine JN.blkN ?_
              refine JN.next ?_
              refine JC.region ?_
              refine JL.val rfl rfl (R.inc rfl rfl (of_decide_eq_true c_18) (IsSlice.lenI ha_2)) ?_
              refine JL.val rfl rfl (R.move rfl) ?_
              refine JL.nil ?_
              replace hx := run_next hd_18 hx
              refine JN.forget 1 ?_
              refine JN.forget 0 ?_
              refine JN.front 3 rfl ?_
              refine JN.front 3 rfl ?_
              refine JN.front 3 rfl ?_
              refine JN.front 3 rfl ?_
              exact JN.cut ⟨(s_13.1, q_31, s_13.2.2 + 1), aor_16, nr_16, capr_16, Kr_16, aor_34, q_31.length, capr_34, Kr_34, rfl, rfl, rfl, hx, hr_16, hr_34⟩ ⟨rfl, rfl, rfl, rfl, rfl, rfl, trivial⟩ rfl rfl
            · refine JO.step rfl trivial rfl (fun K hK => ?_)
              refine JL.bslF (HF := (New H H)) (R := R_Ptr) (ls := [y_19]) (vs := [.agg #[.int .i64 y_19.At, .int .u32 (y_19.Birth.toNat : Int), .int .u32 (y_19.Iv.toNat : Int), .int .u32 (y_19.Tag.toNat : Int), .int .u32 (y_19.Sum.toNat : Int)]]) U22 I32 rfl rfl (⟨_, _, rfl, rfl, rfl, rfl⟩) R_Ptr.one rfl rfl rfl (by simp [maxLen]) rfl (fun vr_35 Kr_35 hr_35 => ?_)
              obtain ⟨aor_35, capr_35, rfl⟩ := RowOf.val hr_35
              refine JL.nil ?_
              refine hK _ _ _ (stab_of (Hle.refl _) ⟨⟨1, rfl⟩, ⟨2, rfl⟩, ⟨3, rfl⟩, trivial⟩) ?_
              refine JA.one (i := 3) (by kernel_rfl) ?_
              refine JO.step rfl trivial rfl (fun K hK => ?_)
              refine JL.val rfl rfl (R.ldo 4 S22 rfl rfl rfl) ?_
              refine JL.nil ?_
              refine hK _ _ _ (stab_of (Hle.refl _) ⟨⟨1, rfl⟩, ⟨2, rfl⟩, ⟨3, rfl⟩, trivial⟩) ?_
              refine JA.one (i := 6) (by kernel_rfl) ?_
              refine JO.step rfl trivial rfl (fun K hK => ?_)
              obtain ⟨q_36, hm_37, hl_38, hx⟩ := app_some hx
              refine JL.appF (HF := (New H H)) 5 U22 I32 rfl rfl hr_17 rfl (SrcF.row 0 U22 rfl hr_35) hm_37 hl_38 rfl (Nat.le_refl _) rfl (fun vr_39 Kr_39 hr_39 => ?_)
              obtain ⟨aor_39, capr_39, rfl⟩ := RowOf.val hr_39
              refine JL.nil ?_
              refine hK _ _ _ (stab_of (Hle.refl _) ⟨⟨1, rfl⟩, ⟨2, rfl⟩, ⟨3, rfl⟩, trivial⟩) ?_
              refine JA.val ⟨by kernel_rfl, by kernel_rfl⟩ (calm_only _) (i := 7) rfl ⟨by kernel_rfl, by kernel_rfl, rfl⟩ trivial (stab_of (Hle.refl _) ⟨⟨1, rfl⟩, ⟨2, rfl⟩, ⟨3, rfl⟩, trivial⟩) (R.nilCheck rfl) rfl ?_
              refine JA.one (i := 8) (by kernel_rfl) ?_
              refine JO.step rfl trivial rfl (fun K hK => ?_)
              refine JL.store 4 S22 rfl rfl rfl rfl rfl (Nat.le_of_ble_eq_true rfl) ?_
              refine JL.nil ?_
              refine hK _ _ _ (stab_of (Hle.refl _) ⟨⟨1, rfl⟩, ⟨2, rfl⟩, ⟨3, rfl⟩, trivial⟩) ?_
              refine JA.doneN (by kernel_rfl) ?_
              refine JN.blkN ?_
              refine JN.next ?_
              refine JC.region ?_
              refine JL.val rfl rfl (R.inc rfl rfl (of_decide_eq_true c_18) (IsSlice.lenI ha_2)) ?_
              refine JL.val rfl rfl (R.move rfl) ?_
              refine JL.nil ?_
              replace hx := run_next hd_18 hx
              refine JN.forget 1 ?_
              refine JN.forget 0 ?_
              refine JN.front 3 rfl ?_
              refine JN.front 3 rfl ?_
              refine JN.front 3 rfl ?_
              refine JN.front 3 rfl ?_
              exact JN.cut ⟨(s_13.1, q_36, s_13.2.2 + 1), aor_16, nr_16, capr_16, Kr_16, aor_39, q_36.length, capr_39, Kr_39, rfl, rfl, rfl, hx, hr_16, hr_39⟩ ⟨rfl, rfl, rfl, rfl, rfl, rfl, trivial⟩ rfl rfl
          · replace hx := cond_f c_29 hx
            refine JC.skip ?_
            refine JN.next ?_
            refine JC.draw (so := [_, _, _]) 9 rfl Mixed ⟨⟨0, rfl⟩, ⟨3, rfl⟩, ⟨4, rfl⟩, trivial⟩ ?_
            refine JA.val ⟨by kernel_rfl, by kernel_rfl⟩ (calm_only _) (i := 0) rfl ⟨by kernel_rfl, by kernel_rfl, rfl⟩ trivial (stab_of (Hle.refl _) ⟨⟨0, rfl⟩, ⟨3, rfl⟩, ⟨4, rfl⟩, trivial⟩) (R.move rfl) rfl ?_
            refine JA.val ⟨by kernel_rfl, by kernel_rfl⟩ (calm_only _) (i := 1) rfl ⟨by kernel_rfl, by kernel_rfl, rfl⟩ trivial (stab_of (Hle.refl _) ⟨⟨0, rfl⟩, ⟨3, rfl⟩, ⟨4, rfl⟩, trivial⟩) (R.move rfl) rfl ?_
            refine JA.val ⟨by kernel_rfl, by kernel_rfl⟩ (calm_only _) (i := 2) rfl ⟨by kernel_rfl, by kernel_rfl, rfl⟩ trivial (stab_of (Hle.refl _) ⟨⟨0, rfl⟩, ⟨3, rfl⟩, ⟨4, rfl⟩, trivial⟩) (R.nilCheck rfl) rfl ?_
            refine JA.val ⟨by kernel_rfl, by kernel_rfl⟩ (calm_only _) (i := 4) rfl ⟨by kernel_rfl, by kernel_rfl, rfl⟩ trivial (stab_of (Hle.refl _) ⟨⟨0, rfl⟩, ⟨3, rfl⟩, ⟨4, rfl⟩, trivial⟩) (R.ldoN 0 (vs := [.int .i64 y_19.At, .int .u32 (y_19.Birth.toNat : Int), .int .u32 (y_19.Iv.toNat : Int), .int .u32 (y_19.Tag.toNat : Int), .int .u32 (y_19.Sum.toNat : Int)]) S32 rfl rfl rfl rfl) rfl ?_
            refine JA.two (i := 3) (j := 5) (by kernel_rfl) ?_ ?_
            · refine JO.step rfl trivial rfl (fun K hK => ?_)
              refine JL.val rfl rfl (R.ldo 1 S22 rfl rfl rfl) ?_
              refine JL.nil ?_
              refine hK _ _ _ (stab_of (Hle.refl _) ⟨⟨0, rfl⟩, ⟨3, rfl⟩, ⟨4, rfl⟩, trivial⟩) ?_
              refine JA.one (i := 5) (by kernel_rfl) ?_
              refine JO.step rfl trivial rfl (fun K hK => ?_)
              refine JL.bslF (HF := (New H H)) (R := R_Ptr) (ls := [y_19]) (vs := [.agg #[.int .i64 y_19.At, .int .u32 (y_19.Birth.toNat : Int), .int .u32 (y_19.Iv.toNat : Int), .int .u32 (y_19.Tag.toNat : Int), .int .u32 (y_19.Sum.toNat : Int)]]) U22 I32 rfl rfl (⟨_, _, rfl, rfl, rfl, rfl⟩) R_Ptr.one rfl rfl rfl (by simp [maxLen]) rfl (fun vr_40 Kr_40 hr_40 => ?_)
              obtain ⟨aor_40, capr_40, rfl⟩ := RowOf.val hr_40
              refine JL.nil ?_
              refine hK _ _ _ (stab_of (Hle.refl _) ⟨⟨1, rfl⟩, ⟨4, rfl⟩, ⟨5, rfl⟩, trivial⟩) ?_
              refine JA.one (i := 6) (by kernel_rfl) ?_
              refine JO.step rfl trivial rfl (fun K hK => ?_)
              obtain ⟨q_41, hm_42, hl_43, hx⟩ := app_some hx
              refine JL.appF (HF := (New H H)) 3 U22 I32 rfl rfl hr_16 rfl (SrcF.row 0 U22 rfl hr_40) hm_42 hl_43 rfl (Nat.le_refl _) rfl (fun vr_44 Kr_44 hr_44 => ?_)
              obtain ⟨aor_44, capr_44, rfl⟩ := RowOf.val hr_44
              refine JL.nil ?_
              refine hK _ _ _ (stab_of (Hle.refl _) ⟨⟨1, rfl⟩, ⟨4, rfl⟩, ⟨5, rfl⟩, trivial⟩) ?_
              refine JA.val ⟨by kernel_rfl, by kernel_rfl⟩ (calm_only _) (i := 7) rfl ⟨by kernel_rfl, by kernel_rfl, rfl⟩ trivial (stab_of (Hle.refl _) ⟨⟨1, rfl⟩, ⟨4, rfl⟩, ⟨5, rfl⟩, trivial⟩) (R.nilCheck rfl) rfl ?_
              refine JA.one (i := 8) (by kernel_rfl) ?_
              refine JO.step rfl trivial rfl (fun K hK => ?_)
              refine JL.store 2 S22 rfl rfl rfl rfl rfl (Nat.le_of_ble_eq_true rfl) ?_
              refine JL.nil ?_
              refine hK _ _ _ (stab_of (Hle.refl _) ⟨⟨1, rfl⟩, ⟨4, rfl⟩, ⟨5, rfl⟩, trivial⟩) ?_
              refine JA.doneN (by kernel_rfl) ?_
              refine JN.blkN ?_
              refine JN.next ?_
              refine JC.region ?_
              refine JL.val rfl rfl (R.inc rfl rfl (of_decide_eq_true c_18) (IsSlice.lenI ha_2)) ?_
              refine JL.val rfl rfl (R.move rfl) ?_
              refine JL.nil ?_
              replace hx := run_next hd_18 hx
              refine JN.forget 1 ?_
              refine JN.forget 0 ?_
              refine JN.front 3 rfl ?_
              refine JN.front 3 rfl ?_
              refine JN.front 3 rfl ?_
              refine JN.front 3 rfl ?_
              exact JN.cut ⟨(q_41, s_13.2.1, s_13.2.2 + 1), aor_44, q_41.length, capr_44, Kr_44, aor_17, nr_17, capr_17, Kr_17, rfl, rfl, rfl, hx, hr_44, hr_17⟩ ⟨rfl, rfl, rfl, rfl, rfl, rfl, trivial⟩ rfl rfl
            · refine JO.step rfl trivial rfl (fun K hK => ?_)
              refine JL.bslF (HF := (New H H)) (R := R_Ptr) (ls := [y_19]) (vs := [.agg #[.int .i64 y_19.At, .int .u32 (y_19.Birth.toNat : Int), .int .u32 (y_19.Iv.toNat : Int), .int .u32 (y_19.Tag.toNat : Int), .int .u32 (y_19.Sum.toNat : Int)]]) U22 I32 rfl rfl (⟨_, _, rfl, rfl, rfl, rfl⟩) R_Ptr.one rfl rfl rfl (by simp [maxLen]) rfl (fun vr_45 Kr_45 hr_45 => ?_)
              obtain ⟨aor_45, capr_45, rfl⟩ := RowOf.val hr_45
              refine JL.nil ?_
              refine hK _ _ _ (stab_of (Hle.refl _) ⟨⟨1, rfl⟩, ⟨4, rfl⟩, ⟨5, rfl⟩, trivial⟩) ?_
              refine JA.one (i := 3) (by kernel_rfl) ?_
              refine JO.step rfl trivial rfl (fun K hK => ?_)
              refine JL.val rfl rfl (R.ldo 2 S22 rfl rfl rfl) ?_
              refine JL.nil ?_
              refine hK _ _ _ (stab_of (Hle.refl _) ⟨⟨1, rfl⟩, ⟨4, rfl⟩, ⟨5, rfl⟩, trivial⟩) ?_
              refine JA.one (i := 6) (by kernel_rfl) ?_
              refine JO.step rfl trivial rfl (fun K hK => ?_)
              obtain ⟨q_46, hm_47, hl_48, hx⟩ := app_some hx
              refine JL.appF (HF := (New H H)) 3 U22 I32 rfl rfl hr_16 rfl (SrcF.row 0 U22 rfl hr_45) hm_47 hl_48 rfl (Nat.le_refl _) rfl (fun vr_49 Kr_49 hr_49 => ?_)
              obtain ⟨aor_49, capr_49, rfl⟩ := RowOf.val hr_49
              refine JL.nil ?_
              refine hK _ _ _ (stab_of (Hle.refl _) ⟨⟨1, rfl⟩, ⟨4, rfl⟩, ⟨5, rfl⟩, trivial⟩) ?_
              refine JA.val ⟨by kernel_rfl, by kernel_rfl⟩ (calm_only _) (i := 7) rfl ⟨by kernel_rfl, by kernel_rfl, rfl⟩ trivial (stab_of (Hle.refl _) ⟨⟨1, rfl⟩, ⟨4, rfl⟩, ⟨5, rfl⟩, trivial⟩) (R.nilCheck rfl) rfl ?_
              refine JA.one (i := 8) (by kernel_rfl) ?_
              refine JO.step rfl trivial rfl (fun K hK => ?_)
              refine JL.store 2 S22 rfl rfl rfl rfl rfl (Nat.le_of_ble_eq_true rfl) ?_
              refine JL.nil ?_
              refine hK _ _ _ (stab_of (Hle.refl _) ⟨⟨1, rfl⟩, ⟨4, rfl⟩, ⟨5, rfl⟩, trivial⟩) ?_
              refine JA.doneN (by kernel_rfl) ?_
              refine JN.blkN ?_
              refine JN.next ?_
              refine JC.region ?_
              refine JL.val rfl rfl (R.inc rfl rfl (of_decide_eq_true c_18) (IsSlice.lenI ha_2)) ?_
              refine JL.val rfl rfl (R.move rfl) ?_
              refine JL.nil ?_
              replace hx := run_next hd_18 hx
              refine JN.forget 1 ?_
              refine JN.forget 0 ?_
              refine JN.front 3 rfl ?_
              refine JN.front 3 rfl ?_
              refine JN.front 3 rfl ?_
              refine JN.front 3 rfl ?_
              exact JN.cut ⟨(q_46, s_13.2.1, s_13.2.2 + 1), aor_49, q_46.length, capr_49, Kr_49, aor_17, nr_17, capr_17, Kr_17, rfl, rfl, rfl, hx, hr_49, hr_17⟩ ⟨rfl, rfl, rfl, rfl, rfl, rfl, trivial⟩ rfl rfl
        · replace hx := cond_f c_18 hx
          refine JC.exit ?_
          refine JN.passX ?_
          obtain rfl := run_done hd_18 hx
          refine JN.passX ?_
          refine JN.exitSame ?_
          refine JN.front 3 rfl ?_
          refine JN.front 3 rfl ?_
          refine JN.front 3 rfl ?_
          refine JN.front 3 rfl ?_
          exact JN.cut ⟨aor_16, nr_16, capr_16, Kr_16, aor_17, nr_17, capr_17, Kr_17, rfl, rfl, rfl, hr_16, hr_17⟩ ⟨rfl, rfl, trivial⟩ rfl rfl

set_option maxHeartbeats 1000000 in
theorem law16_DeadParts_ok (p_1 : List Ptr) (p_3 : Ptr) (p_4 : UInt32) (H : Heaplet) {aoa_2 : Option Addr} {na_2 : Nat} {capa_2 : Nat} (ha_2 : IsSlice H R_Ptr 5 (.slice aoa_2 na_2 capa_2) p_1) (r : Bool) (hx : law16_DeadParts p_1 p_3 p_4 = some r) :
    Does Try.prog 5 #[.slice aoa_2 na_2 capa_2, .agg #[.int .i64 p_3.At, .int .u32 (p_3.Birth.toNat : Int), .int .u32 (p_3.Iv.toNat : Int), .int .u32 (p_3.Tag.toNat : Int), .int .u32 (p_3.Sum.toNat : Int)], .int .u32 (p_4.toNat : Int)] [] H (fun u K' H' => u = .bool r ∧ K' = [] ∧ True) := by
  refine Does.enterL (vs := [.slice aoa_2 na_2 capa_2, .agg #[.int .i64 p_3.At, .int .u32 (p_3.Birth.toNat : Int), .int .u32 (p_3.Iv.toNat : Int), .int .u32 (p_3.Tag.toNat : Int), .int .u32 (p_3.Sum.toNat : Int)], .int .u32 (p_4.toNat : Int)]) (l := [(0, .slice aoa_2 na_2 capa_2), (1, .agg #[.int .i64 p_3.At, .int .u32 (p_3.Birth.toNat : Int), .int .u32 (p_3.Iv.toNat : Int), .int .u32 (p_3.Tag.toNat : Int), .int .u32 (p_3.Sum.toNat : Int)]), (2, .int .u32 (p_4.toNat : Int))]) Try.func5 rfl rfl ⟨rfl, rfl, rfl, trivial⟩ (fun w hlt => ?_)
  rw [law16_DeadParts.eq_1] at hx
  refine JC.seq ?_
  refine JC.region ?_
  refine JL.box rfl rfl (fun b_5 hb_5 => ?_)
  refine JL.val rfl rfl (R.assign rfl) ?_
  refine JL.nil ?_
  refine JN.next ?_
  refine JC.seq ?_
  refine JC.region ?_
  obtain ⟨x_6, hr_7, hx⟩ := bnd_some hx
  refine JL.callC (vs := []) (args := []) (K := []) (rst := [_]) E7 rfl rfl rfl picks0 (law16_alive_ok _ _ hr_7) rfl (fun u_8 Ku_8 Hu_8 hRu_8 hleu_8 hfu_8 => ?_)
  obtain ⟨rfl, rfl, -⟩ := hRu_8
  refine JL.val rfl rfl (R.assign rfl) ?_
  refine JL.nil ?_
  refine JN.next ?_
  refine JC.seq ?_
  refine JC.seq ?_
  refine JC.region ?_
  refine JL.val rfl rfl (R.move rfl) ?_
  refine JL.val rfl rfl (R.lenL U22 rfl (IsSlice.long ha_2)) ?_
  refine JL.val rfl rfl (R.gtr_i rfl rfl) ?_
  refine JL.val rfl rfl (R.move rfl) ?_
  refine JL.gSplit (t := 24) rfl (fun c_9 => ?_) (fun c_9 => ?_)
  · replace hx := cond_t c_9 hx
    refine JL.gNo rfl rfl rfl rfl rfl ?_
    refine JL.gNo rfl rfl rfl rfl rfl ?_
    refine JL.gNo rfl rfl rfl rfl rfl ?_
    refine JL.val rfl rfl (R.pickT rfl rfl) ?_
    refine JL.nil ?_
    refine JN.next ?_
    refine JC.condT rfl ?_
    refine JC.seq ?_
    refine JC.region ?_
    refine JL.val rfl rfl (R.move rfl) ?_
    refine JL.val rfl rfl (R.assign rfl) ?_
    refine JL.nil ?_
    refine JN.next ?_
    refine JC.ret ?_
    refine JN.passR ?_
    refine JN.outP (vs := [.bool x_6]) (K := []) (rst := [_]) (.inl rfl) rfl rfl (Res.tmp rfl rfl) picks0 ?_
    obtain rfl := Option.some.inj hx
    exact ⟨rfl, rfl, trivial⟩
  · replace hx := cond_f c_9 hx
    refine JL.gYes rfl rfl rfl ?_
    refine JL.val rfl rfl (R.move rfl) ?_
    refine JL.gYes rfl rfl rfl ?_
    obtain ⟨x_10, hr_11, hx⟩ := bnd_some hx
    refine JL.callC (vs := [_]) (args := [_]) (K := []) (rst := [_]) E10 rfl rfl rfl picks0 (dead_Check_ok p_1 _ (ha_2.mono R_Ptr.mono hleu_8) _ hr_11) rfl (fun u_12 Ku_12 Hu_12 hRu_12 hleu_12 hfu_12 => ?_)
    obtain ⟨rfl, rfl, rfl, -⟩ := hRu_12
    refine JL.gYes rfl rfl rfl ?_
    refine JL.val rfl rfl (R.neq_i rfl rfl) ?_
    refine JL.val rfl rfl (R.pickF rfl rfl) ?_
    refine JL.nil ?_
    refine JN.next ?_
    refine JC.condB rfl (fun c_13 => ?_) (fun c_13 => ?_)
    · replace hx := cond_t c_13 hx
      refine JC.seq ?_
      refine JC.region ?_
      refine JL.val rfl rfl (R.move rfl) ?_
      refine JL.val rfl rfl (R.assign rfl) ?_
      refine JL.nil ?_
      refine JN.next ?_
      refine JC.ret ?_
      refine JN.passR ?_
      refine JN.outP (vs := [.bool x_6]) (K := []) (rst := [_]) (.inl rfl) rfl rfl (Res.tmp rfl rfl) picks0 ?_
      obtain rfl := Option.some.inj hx
      exact ⟨rfl, rfl, trivial⟩
    · replace hx := cond_f c_13 hx
      refine JC.skip ?_
      refine JN.next ?_
      refine JC.seq ?_
      refine JC.region ?_
      refine JL.val rfl rfl (R.move rfl) ?_
      refine JL.val rfl rfl (R.move rfl) ?_
      obtain ⟨x_14, hr_15, hx⟩ := bnd_some hx
      refine JL.callC (vs := [_, _]) (args := [_, _]) (K := []) (rst := [_]) E13 rfl rfl rfl picks0 (dead_Split_ok p_1 p_4 _ (ha_2.mono R_Ptr.mono hleu_8) _ hr_15) rfl (fun u_16 Ku_16 Hu_16 hRu_16 hleu_16 hfu_16 => ?_)
      obtain ⟨aor_17, nr_17, capr_17, Kr_17, aor_18, nr_18, capr_18, Kr_18, rfl, rfl, rfl, hr_17, hnewr_17, hr_18, hnewr_18, -⟩ := hRu_16
      replace hr_17 := (RowOf.base (RowOf.const (H2 := New H Hu_8) R_Ptr.const hr_17) (fun p hp => (hfu_16 p (mem_seg 0 rfl hp)).resolve_left (hnewr_17 p hp)))
      replace hr_18 := (RowOf.base (RowOf.const (H2 := New H Hu_8) R_Ptr.const hr_18) (fun p hp => (hfu_16 p (mem_seg 1 rfl hp)).resolve_left (hnewr_18 p hp)))
      refine JL.val rfl rfl (R.move rfl) ?_
      refine JL.val rfl rfl (R.extract rfl rfl) ?_
      refine JL.val rfl rfl (R.extract rfl rfl) ?_
      refine JL.val rfl rfl (R.extract rfl rfl) ?_
      refine JL.val rfl rfl (R.assign rfl) ?_
      refine JL.val rfl rfl (R.assign rfl) ?_
      refine JL.val rfl rfl (R.assign rfl) ?_
      refine JL.nil ?_
      refine JN.next ?_
      refine JC.seq ?_
      refine JC.region ?_
      refine JL.val rfl rfl (R.move rfl) ?_
      refine JL.val rfl rfl (R.move rfl) ?_
      refine JL.pubN 1 R_Ptr.mono rfl hr_18 (Nat.le_refl _) (fun H_19 hleH_19 hsH_19 => ?_)
      refine JL.forget 1 ?_
      refine JL.pubN 0 R_Ptr.mono rfl (hr_17.mono R_Ptr.mono (New.mono hleH_19)) (Nat.le_refl _) (fun H_20 hleH_20 hsH_20 => ?_)
      refine JL.forget 0 ?_
      obtain ⟨x_21, hr_22, hx⟩ := bnd_some hx
      refine JL.callC (vs := [_, _]) (args := [_, _]) (K := []) (rst := [_]) E8 rfl rfl rfl picks0 (dead_Join_ok x_14.2.1 x_14.1 _ ((hsH_19.mono R_Ptr.mono (New.mono hleH_20)).old R_Ptr.mono) (hsH_20.old R_Ptr.mono) _ hr_22) rfl (fun u_23 Ku_23 Hu_23 hRu_23 hleu_23 hfu_23 => ?_)
      obtain ⟨aoz_24, nz_24, capz_24, rfl, rfl, hz_24, -⟩ := hRu_23
      replace hz_24 := IsSlice.mono R_Ptr.mono (New.call (hleu_8.trans (hleH_19.trans hleH_20))) hz_24
      refine JL.val rfl rfl (R.move rfl) ?_
      refine JL.val rfl rfl (R.extract rfl rfl) ?_
      refine JL.val rfl rfl (R.extract rfl rfl) ?_
      refine JL.val rfl rfl (R.assign rfl) ?_
      refine JL.val rfl rfl (R.assign rfl) ?_
      refine JL.nil ?_
      refine JN.next ?_
      refine JC.seq ?_
      refine JC.seq ?_
      refine JC.region ?_
      refine JL.val rfl rfl (R.move rfl) ?_
      refine JL.val rfl rfl (R.neq_i rfl rfl) ?_
      refine JL.val rfl rfl (R.move rfl) ?_
      refine JL.gSplit (t := 45) rfl (fun c_25 => ?_) (fun c_25 => ?_)
      · replace hx := cond_t c_25 hx
        refine JL.gNo rfl rfl rfl rfl rfl ?_
        refine JL.gNo rfl rfl rfl rfl rfl ?_
        refine JL.val rfl rfl (R.pickT rfl rfl) ?_
        refine JL.val rfl rfl (R.move rfl) ?_
        refine JL.gNo rfl rfl rfl rfl rfl ?_
        refine JL.gNo rfl rfl rfl rfl rfl ?_
        refine JL.gNo rfl rfl rfl rfl rfl ?_
        refine JL.gNo rfl rfl rfl rfl rfl ?_
        refine JL.val rfl rfl (R.pickT rfl rfl) ?_
        refine JL.val rfl rfl (R.move rfl) ?_
        refine JL.gNo rfl rfl rfl rfl rfl ?_
        refine JL.gNo rfl rfl rfl rfl rfl ?_
        refine JL.gNo rfl rfl rfl rfl rfl ?_
        refine JL.val rfl rfl (R.pickT rfl rfl) ?_
        refine JL.val rfl rfl (R.move rfl) ?_
        refine JL.gNo rfl rfl rfl rfl rfl ?_
        refine JL.gNo rfl rfl rfl rfl rfl ?_
        refine JL.gNo rfl rfl rfl rfl rfl ?_
        refine JL.val rfl rfl (R.pickT rfl rfl) ?_
        refine JL.nil ?_
        refine JN.next ?_
        refine JC.condT rfl ?_
        refine JC.seq ?_
        refine JC.region ?_
        refine JL.val rfl rfl (R.assign rfl) ?_
        refine JL.nil ?_
        refine JN.next ?_
        refine JC.ret ?_
        refine JN.passR ?_
        refine JN.outP (vs := [.bool false]) (K := []) (rst := [_]) (.inl rfl) rfl rfl (Res.tmp rfl rfl) picks0 ?_
        obtain rfl := Option.some.inj hx
        exact ⟨rfl, rfl, trivial⟩
      · replace hx := cond_f c_25 hx
        refine JL.gYes rfl rfl rfl ?_
        refine JL.val rfl rfl (R.move rfl) ?_
        refine JL.gYes rfl rfl rfl ?_
        refine JL.val rfl rfl (R.neq_i rfl rfl) ?_
        refine JL.val rfl rfl (R.pickF rfl rfl) ?_
        refine JL.val rfl rfl (R.move rfl) ?_
        refine JL.gSplit (t := 49) rfl (fun c_26 => ?_) (fun c_26 => ?_)
        · replace hx := cond_t c_26 hx
          refine JL.gNo rfl rfl rfl rfl rfl ?_
          refine JL.gNo rfl rfl rfl rfl rfl ?_
          refine JL.gNo rfl rfl rfl rfl rfl ?_
          refine JL.gNo rfl rfl rfl rfl rfl ?_
          refine JL.val rfl rfl (R.pickT rfl rfl) ?_
          refine JL.val rfl rfl (R.move rfl) ?_
          refine JL.gNo rfl rfl rfl rfl rfl ?_
          refine JL.gNo rfl rfl rfl rfl rfl ?_
          refine JL.gNo rfl rfl rfl rfl rfl ?_
          refine JL.val rfl rfl (R.pickT rfl rfl) ?_
          refine JL.val rfl rfl (R.move rfl) ?_
          refine JL.gNo rfl rfl rfl rfl rfl ?_
          refine JL.gNo rfl rfl rfl rfl rfl ?_
          refine JL.gNo rfl rfl rfl rfl rfl ?_
          refine JL.val rfl rfl (R.pickT rfl rfl) ?_
          refine JL.nil ?_
          refine JN.next ?_
          refine JC.condT rfl ?_
          refine JC.seq ?_
          refine JC.region ?_
          refine JL.val rfl rfl (R.assign rfl) ?_
          refine JL.nil ?_
          refine JN.next ?_
          refine JC.ret ?_
          refine JN.passR ?_
          refine JN.outP (vs := [.bool false]) (K := []) (rst := [_]) (.inl rfl) rfl rfl (Res.tmp rfl rfl) picks0 ?_
          obtain rfl := Option.some.inj hx
          exact ⟨rfl, rfl, trivial⟩
        · replace hx := cond_f c_26 hx
          refine JL.gYes rfl rfl rfl ?_
          refine JL.val rfl rfl (R.move rfl) ?_
          refine JL.gYes rfl rfl rfl ?_
          refine JL.val rfl rfl (R.move rfl) ?_
          refine JL.gYes rfl rfl rfl ?_
          obtain ⟨x_27, hr_28, hx⟩ := bnd_some hx
          refine JL.callC (vs := [_, _]) (args := [_, _]) (K := []) (rst := [_]) E9 rfl rfl rfl picks0 (law16_same_ok x_21.1 p_1 _ (hz_24.old R_Ptr.mono) (ha_2.mono R_Ptr.mono (hleu_8.trans (hleH_19.trans (hleH_20.trans hleu_23)))) _ hr_28) rfl (fun u_29 Ku_29 Hu_29 hRu_29 hleu_29 hfu_29 => ?_)
          obtain ⟨rfl, rfl, rfl, -⟩ := hRu_29
          refine JL.gYes rfl rfl rfl ?_
          refine JL.val rfl rfl (R.not rfl) ?_
          refine JL.val rfl rfl (R.pickF rfl rfl) ?_
          refine JL.val rfl rfl (R.move rfl) ?_
          refine JL.gSplit (t := 55) rfl (fun c_30 => ?_) (fun c_30 => ?_)
          · replace hx := cond_t c_30 hx
            refine JL.gNo rfl rfl rfl rfl rfl ?_
            refine JL.gNo rfl rfl rfl rfl rfl ?_
            refine JL.gNo rfl rfl rfl rfl rfl ?_
            refine JL.val rfl rfl (R.pickT rfl rfl) ?_
            refine JL.val rfl rfl (R.move rfl) ?_
            refine JL.gNo rfl rfl rfl rfl rfl ?_
            refine JL.gNo rfl rfl rfl rfl rfl ?_
            refine JL.gNo rfl rfl rfl rfl rfl ?_
            refine JL.val rfl rfl (R.pickT rfl rfl) ?_
            refine JL.nil ?_
            refine JN.next ?_
            refine JC.condT rfl ?_
            refine JC.seq ?_
            refine JC.region ?_
            refine JL.val rfl rfl (R.assign rfl) ?_
            refine JL.nil ?_
            refine JN.next ?_
            refine JC.ret ?_
            refine JN.passR ?_
            refine JN.outP (vs := [.bool false]) (K := []) (rst := [_]) (.inl rfl) rfl rfl (Res.tmp rfl rfl) picks0 ?_
            obtain rfl := Option.some.inj hx
            exact ⟨rfl, rfl, trivial⟩
          · replace hx := cond_f c_30 hx
            refine JL.gYes rfl rfl rfl ?_
            refine JL.val rfl rfl (R.move rfl) ?_
            refine JL.gYes rfl rfl rfl ?_
            obtain ⟨x_31, hr_32, hx⟩ := bnd_some hx
            refine JL.callC (vs := [_]) (args := [_]) (K := []) (rst := [_]) E10 rfl rfl rfl picks0 (dead_Check_ok x_14.1 _ ((hsH_20.mono R_Ptr.mono (New.mono hleu_23)).old R_Ptr.mono) _ hr_32) rfl (fun u_33 Ku_33 Hu_33 hRu_33 hleu_33 hfu_33 => ?_)
            obtain ⟨rfl, rfl, rfl, -⟩ := hRu_33
            refine JL.gYes rfl rfl rfl ?_
            refine JL.val rfl rfl (R.neq_i rfl rfl) ?_
            refine JL.val rfl rfl (R.pickF rfl rfl) ?_
            refine JL.val rfl rfl (R.move rfl) ?_
            refine JL.gSplit (t := 60) rfl (fun c_34 => ?_) (fun c_34 => ?_)
            · replace hx := cond_t c_34 hx
              refine JL.gNo rfl rfl rfl rfl rfl ?_
              refine JL.gNo rfl rfl rfl rfl rfl ?_
              refine JL.gNo rfl rfl rfl rfl rfl ?_
              refine JL.val rfl rfl (R.pickT rfl rfl) ?_
              refine JL.nil ?_
              refine JN.next ?_
              refine JC.condT rfl ?_
              refine JC.seq ?_
              refine JC.region ?_
              refine JL.val rfl rfl (R.assign rfl) ?_
              refine JL.nil ?_
              refine JN.next ?_
              refine JC.ret ?_
              refine JN.passR ?_
              refine JN.outP (vs := [.bool false]) (K := []) (rst := [_]) (.inl rfl) rfl rfl (Res.tmp rfl rfl) picks0 ?_
              obtain rfl := Option.some.inj hx
              exact ⟨rfl, rfl, trivial⟩
            · replace hx := cond_f c_34 hx
              refine JL.gYes rfl rfl rfl ?_
              refine JL.val rfl rfl (R.move rfl) ?_
              refine JL.gYes rfl rfl rfl ?_
              obtain ⟨x_35, hr_36, hx⟩ := bnd_some hx
              refine JL.callC (vs := [_]) (args := [_]) (K := []) (rst := [_]) E10 rfl rfl rfl picks0 (dead_Check_ok x_14.2.1 _ ((hsH_19.mono R_Ptr.mono (New.mono (hleH_20.trans hleu_23))).old R_Ptr.mono) _ hr_36) rfl (fun u_37 Ku_37 Hu_37 hRu_37 hleu_37 hfu_37 => ?_)
              obtain ⟨rfl, rfl, rfl, -⟩ := hRu_37
              refine JL.gYes rfl rfl rfl ?_
              refine JL.val rfl rfl (R.neq_i rfl rfl) ?_
              refine JL.val rfl rfl (R.pickF rfl rfl) ?_
              refine JL.nil ?_
              refine JN.next ?_
              refine JC.condB rfl (fun c_38 => ?_) (fun c_38 => ?_)
              · replace hx := cond_t c_38 hx
                refine JC.seq ?_
                refine JC.region ?_
                refine JL.val rfl rfl (R.assign rfl) ?_
                refine JL.nil ?_
                refine JN.next ?_
                refine JC.ret ?_
                refine JN.passR ?_
                refine JN.outP (vs := [.bool false]) (K := []) (rst := [_]) (.inl rfl) rfl rfl (Res.tmp rfl rfl) picks0 ?_
                obtain rfl := Option.some.inj hx
                exact ⟨rfl, rfl, trivial⟩
              · replace hx := cond_f c_38 hx
                refine JC.skip ?_
                refine JN.next ?_
                refine JC.seq ?_
                refine JC.seq ?_
                refine JC.region ?_
                refine JL.val rfl rfl (R.assign rfl) ?_
                refine JL.nil ?_
                refine JN.next ?_
                obtain ⟨t_39, ht_41, hx⟩ := bnd_some hx
                refine JC.cut (fun l o g => ∃ t_39a : Unit, l = [(0, .slice aoa_2 na_2 capa_2), (2, .int .u32 (p_4.toNat : Int)), (4, .pointer (some ⟨b_5, 0, none⟩)), (7, .bool x_6), (9, .slice aor_18 nr_18 capr_18)] ∧ o = [[(b_5, .cells #[.int .i64 p_3.At, .int .u32 (p_3.Birth.toNat : Int), .int .u32 (p_3.Iv.toNat : Int), .int .u32 (p_3.Tag.toNat : Int), .int .u32 (p_3.Sum.toNat : Int)] 32 (0, 0))]] ∧ Hu_23 = g ∧ t_39 = .inl t_39a) ?_ ?_
                · rintro _ _ _ ⟨t_39a, rfl, rfl, rfl, rfl⟩
                  simp only [Sum.elim_inl] at hx
                  refine JN.next ?_
                  refine JC.seq ?_
                  refine JC.seq ?_
                  refine JC.region ?_
                  refine JL.val rfl rfl (R.assign rfl) ?_
                  refine JL.nil ?_
                  refine JN.next ?_
                  obtain ⟨t_45, ht_47, hx⟩ := bnd_some hx
                  refine JC.cut (fun l o g => ∃ t_45a : Unit, l = [(0, .slice aoa_2 na_2 capa_2), (4, .pointer (some ⟨b_5, 0, none⟩)), (7, .bool x_6)] ∧ o = [[(b_5, .cells #[.int .i64 p_3.At, .int .u32 (p_3.Birth.toNat : Int), .int .u32 (p_3.Iv.toNat : Int), .int .u32 (p_3.Tag.toNat : Int), .int .u32 (p_3.Sum.toNat : Int)] 32 (0, 0))]] ∧ Hu_23 = g ∧ t_45 = .inl t_45a) ?_ ?_
                  · rintro _ _ _ ⟨t_45a, rfl, rfl, rfl, rfl⟩
                    simp only [Sum.elim_inl] at hx
                    refine JN.next ?_
                    refine JC.seq ?_
                    refine JC.region ?_
                    refine JL.val rfl rfl (R.move rfl) ?_
                    refine JL.val rfl rfl (R.ldoN 0 (vs := [.int .i64 p_3.At, .int .u32 (p_3.Birth.toNat : Int), .int .u32 (p_3.Iv.toNat : Int), .int .u32 (p_3.Tag.toNat : Int), .int .u32 (p_3.Sum.toNat : Int)]) S32 rfl rfl rfl rfl) ?_
                    obtain ⟨x_51, hr_52, hx⟩ := bnd_some hx
                    refine JL.callC (vs := [_, _]) (args := [_, _]) (K := []) (rst := [_]) E11 rfl rfl rfl picks0 (dead_Add_ok p_1 p_3 _ (ha_2.mono R_Ptr.mono (hleu_8.trans (hleH_19.trans (hleH_20.trans hleu_23)))) _ hr_52) rfl (fun u_53 Ku_53 Hu_53 hRu_53 hleu_53 hfu_53 => ?_)
                    obtain ⟨aoz_54, nz_54, capz_54, rfl, rfl, hz_54, -⟩ := hRu_53
                    replace hz_54 := IsSlice.mono R_Ptr.mono (New.call (hleu_8.trans (hleH_19.trans (hleH_20.trans hleu_23)))) hz_54
                    refine JL.val rfl rfl (R.move rfl) ?_
                    refine JL.val rfl rfl (R.extract rfl rfl) ?_
                    refine JL.val rfl rfl (R.extract rfl rfl) ?_
                    refine JL.val rfl rfl (R.assign rfl) ?_
                    refine JL.val rfl rfl (R.assign rfl) ?_
                    refine JL.nil ?_
                    refine JN.next ?_
                    refine JC.seq ?_
                    refine JC.seq ?_
                    refine JC.region ?_
                    refine JL.val rfl rfl (R.move rfl) ?_
                    refine JL.val rfl rfl (R.neq_i rfl rfl) ?_
                    refine JL.nil ?_
                    refine JN.next ?_
                    refine JC.condB rfl (fun c_55 => ?_) (fun c_55 => ?_)
                    · replace hx := cond_t c_55 hx
                      refine JC.seq ?_
                      obtain ⟨t_56, ht_58, hx⟩ := bnd_some hx
                      refine JC.cut (fun l o g => l = [(6, .bool t_56)] ∧ o = [] ∧ Hu_53 = g) ?_ ?_
                      · rintro _ _ _ ⟨rfl, rfl, rfl⟩
                        refine JN.next ?_
                        refine JC.ret ?_
                        refine JN.passR ?_
                        refine JN.outP (vs := [.bool t_56]) (K := []) (rst := []) (.inl rfl) rfl rfl (Res.tmp rfl rfl) picks0 ?_
                        obtain rfl := Option.some.inj hx
                        exact ⟨rfl, rfl, trivial⟩
                      · have hxo_57 := hx; clear hx; have hx := ht_58; clear ht_58
                        refine JC.region ?_
                        refine JL.val rfl rfl (R.move rfl) ?_
                        refine JL.val rfl rfl (R.move rfl) ?_
                        refine JL.gSplit (t := 100) rfl (fun c_59 => ?_) (fun c_59 => ?_)
                        · replace hx := cond_t c_59 hx
                          refine JL.gYes rfl rfl rfl ?_
                          refine JL.val rfl rfl (R.move rfl) ?_
                          refine JL.gYes rfl rfl rfl ?_
                          refine JL.val rfl rfl (R.lenL U22 rfl (IsSlice.long hz_54)) ?_
                          refine JL.gYes rfl rfl rfl ?_
                          refine JL.val rfl rfl (R.eql_i rfl rfl) ?_
                          refine JL.val rfl rfl (R.pickT rfl rfl) ?_
                          refine JL.val rfl rfl (R.assign rfl) ?_
                          refine JL.nil ?_
                          obtain rfl := Option.some.inj hx
                          refine JN.forget 0 ?_
                          exact JN.cut ⟨rfl, rfl, rfl⟩ ⟨rfl, trivial⟩ rfl rfl
                        · replace hx := cond_f c_59 hx
                          refine JL.gNo rfl rfl rfl rfl rfl ?_
                          refine JL.gNo rfl rfl rfl rfl rfl ?_
                          refine JL.gNo rfl rfl rfl rfl rfl ?_
                          refine JL.val rfl rfl (R.pickF rfl rfl) ?_
                          refine JL.val rfl rfl (R.assign rfl) ?_
                          refine JL.nil ?_
                          obtain rfl := Option.some.inj hx
                          refine JN.forget 0 ?_
                          exact JN.cut ⟨rfl, rfl, rfl⟩ ⟨rfl, trivial⟩ rfl rfl
                    · replace hx := cond_f c_55 hx
                      refine JC.skip ?_
                      refine JN.next ?_
                      refine JC.seq ?_
                      refine JC.region ?_
                      refine JL.val rfl rfl (R.assign rfl) ?_
                      refine JL.val rfl rfl (R.assign rfl) ?_
                      refine JL.nil ?_
                      refine JN.next ?_
                      refine JC.seq ?_
                      refine JC.seq ?_
                      refine JC.region ?_
                      refine JL.val rfl rfl (R.assign rfl) ?_
                      refine JL.nil ?_
                      refine JN.next ?_
                      obtain ⟨t_60, ht_62, hx⟩ := bnd_some hx
                      refine JC.cut (fun l o g => ∃ t_60a : Int × Int, l = [(0, .slice aoa_2 na_2 capa_2), (7, .bool x_6), (15, .slice aoz_54 nz_54 capz_54), (17, .int .i64 t_60a.1), (18, .int .i64 t_60a.2)] ∧ o = [] ∧ Hu_53 = g ∧ t_60 = .inl t_60a) ?_ ?_
                      · rintro _ _ _ ⟨t_60a, rfl, rfl, rfl, rfl⟩
                        simp only [Sum.elim_inl] at hx
                        refine JN.next ?_
                        refine JC.seq ?_
                        obtain ⟨t_66, ht_68, hx⟩ := bnd_some hx
                        refine JC.cut (fun l o g => l = [(6, .bool t_66)] ∧ o = [] ∧ Hu_53 = g) ?_ ?_
                        · rintro _ _ _ ⟨rfl, rfl, rfl⟩
                          refine JN.next ?_
                          refine JC.ret ?_
                          refine JN.outP (vs := [.bool t_66]) (K := []) (rst := []) (.inl rfl) rfl rfl (Res.tmp rfl rfl) picks0 ?_
                          obtain rfl := Option.some.inj hx
                          exact ⟨rfl, rfl, trivial⟩
                        · have hxo_67 := hx; clear hx; have hx := ht_68; clear ht_68
                          refine JC.region ?_
                          refine JL.val rfl rfl (R.move rfl) ?_
                          refine JL.val rfl rfl (R.move rfl) ?_
                          refine JL.gSplit (t := 137) rfl (fun c_69 => ?_) (fun c_69 => ?_)
                          · replace hx := cond_t c_69 hx
                            refine JL.gYes rfl rfl rfl ?_
                            refine JL.val rfl rfl (R.move rfl) ?_
                            refine JL.gYes rfl rfl rfl ?_
                            refine JL.val rfl rfl (R.eql_i rfl rfl) ?_
                            refine JL.val rfl rfl (R.pickT rfl rfl) ?_
                            refine JL.val rfl rfl (R.move rfl) ?_
                            refine JL.gSplit (t := 141) rfl (fun c_70 => ?_) (fun c_70 => ?_)
                            · replace hx := cond_t c_70 hx
                              refine JL.gYes rfl rfl rfl ?_
                              refine JL.val rfl rfl (R.move rfl) ?_
                              refine JL.gYes rfl rfl rfl ?_
                              refine JL.val rfl rfl (R.move rfl) ?_
                              refine JL.gYes rfl rfl rfl ?_
                              refine JL.val rfl rfl (R.lenL U22 rfl (IsSlice.long ha_2)) ?_
                              refine JL.gYes rfl rfl rfl ?_
                              refine JL.val rfl rfl (R.eql_i rfl rfl) ?_
                              refine JL.val rfl rfl (R.pickT rfl rfl) ?_
                              refine JL.val rfl rfl (R.move rfl) ?_
                              refine JL.gSplit (t := 147) rfl (fun c_71 => ?_) (fun c_71 => ?_)
                              · replace hx := cond_t c_71 hx
                                refine JL.gYes rfl rfl rfl ?_
                                refine JL.val rfl rfl (R.move rfl) ?_
                                refine JL.gYes rfl rfl rfl ?_
                                obtain ⟨x_72, hr_73, hx⟩ := bnd_some hx
                                refine JL.callC (vs := [_]) (args := [_]) (K := []) (rst := []) E10 rfl rfl rfl picks0 (dead_Check_ok x_51.1 _ (hz_54.old R_Ptr.mono) _ hr_73) rfl (fun u_74 Ku_74 Hu_74 hRu_74 hleu_74 hfu_74 => ?_)
                                obtain ⟨rfl, rfl, rfl, -⟩ := hRu_74
                                refine JL.gYes rfl rfl rfl ?_
                                refine JL.val rfl rfl (R.eql_i rfl rfl) ?_
                                refine JL.val rfl rfl (R.pickT rfl rfl) ?_
                                refine JL.val rfl rfl (R.assign rfl) ?_
                                refine JL.nil ?_
                                obtain rfl := Option.some.inj hx
                                exact JN.cut ⟨rfl, rfl, rfl⟩ ⟨rfl, trivial⟩ rfl rfl
                              · replace hx := cond_f c_71 hx
                                refine JL.gNo rfl rfl rfl rfl rfl ?_
                                refine JL.gNo rfl rfl rfl rfl rfl ?_
                                refine JL.gNo rfl rfl rfl rfl rfl ?_
                                refine JL.val rfl rfl (R.pickF rfl rfl) ?_
                                refine JL.val rfl rfl (R.assign rfl) ?_
                                refine JL.nil ?_
                                obtain rfl := Option.some.inj hx
                                exact JN.cut ⟨rfl, rfl, rfl⟩ ⟨rfl, trivial⟩ rfl rfl
                            · replace hx := cond_f c_70 hx
                              refine JL.gNo rfl rfl rfl rfl rfl ?_
                              refine JL.gNo rfl rfl rfl rfl rfl ?_
                              refine JL.gNo rfl rfl rfl rfl rfl ?_
                              refine JL.gNo rfl rfl rfl rfl rfl ?_
                              refine JL.val rfl rfl (R.pickF rfl rfl) ?_
                              refine JL.val rfl rfl (R.move rfl) ?_
                              refine JL.gNo rfl rfl rfl rfl rfl ?_
                              refine JL.gNo rfl rfl rfl rfl rfl ?_
                              refine JL.gNo rfl rfl rfl rfl rfl ?_
                              refine JL.val rfl rfl (R.pickF rfl rfl) ?_
                              refine JL.val rfl rfl (R.assign rfl) ?_
                              refine JL.nil ?_
                              obtain rfl := Option.some.inj hx
                              exact JN.cut ⟨rfl, rfl, rfl⟩ ⟨rfl, trivial⟩ rfl rfl
                          · replace hx := cond_f c_69 hx
                            refine JL.gNo rfl rfl rfl rfl rfl ?_
                            refine JL.gNo rfl rfl rfl rfl rfl ?_
                            refine JL.val rfl rfl (R.pickF rfl rfl) ?_
                            refine JL.val rfl rfl (R.move rfl) ?_
                            refine JL.gNo rfl rfl rfl rfl rfl ?_
                            refine JL.gNo rfl rfl rfl rfl rfl ?_
                            refine JL.gNo rfl rfl rfl rfl rfl ?_
                            refine JL.gNo rfl rfl rfl rfl rfl ?_
                            refine JL.val rfl rfl (R.pickF rfl rfl) ?_
                            refine JL.val rfl rfl (R.move rfl) ?_
                            refine JL.gNo rfl rfl rfl rfl rfl ?_
                            refine JL.gNo rfl rfl rfl rfl rfl ?_
                            refine JL.gNo rfl rfl rfl rfl rfl ?_
                            refine JL.val rfl rfl (R.pickF rfl rfl) ?_
                            refine JL.val rfl rfl (R.assign rfl) ?_
                            refine JL.nil ?_
                            obtain rfl := Option.some.inj hx
                            exact JN.cut ⟨rfl, rfl, rfl⟩ ⟨rfl, trivial⟩ rfl rfl
                      · have hxo_61 := hx; clear hx; have hx := ht_62; clear ht_62
                        refine JC.block ?_
                        refine JC.loopI (fun n l o g => ∃ s_63 : Int × Int × Nat, l = [(0, .slice aoa_2 na_2 capa_2), (4, .pointer (some ⟨b_5, 0, none⟩)), (7, .bool x_6), (15, .slice aoz_54 nz_54 capz_54), (17, .int .i64 s_63.1), (18, .int .i64 s_63.2.1), (19, .int .i64 ((s_63.2.2 : Nat) : Int))] ∧ o = [[(b_5, .cells #[.int .i64 p_3.At, .int .u32 (p_3.Birth.toNat : Int), .int .u32 (p_3.Iv.toNat : Int), .int .u32 (p_3.Tag.toNat : Int), .int .u32 (p_3.Sum.toNat : Int)] 32 (0, 0))]] ∧ Hu_53 = g ∧ run (law16_DeadParts_l3 p_1 p_3 x_51) n s_63 = some t_60) FUEL ?_ ⟨(0, 0, 0), rfl, rfl, rfl, hx⟩ ⟨rfl, rfl, rfl, rfl, rfl, rfl, rfl, trivial⟩ ?_
                        · rintro _ _ _ ⟨s_63, rfl, rfl, rfl, hn_64⟩
                          exact run_zero hn_64
                        · rintro n_65 _ _ _ ⟨s_63, rfl, rfl, rfl, hn_64⟩
                          clear hx; obtain ⟨oo_67, hx, hd_66⟩ := run_some hn_64
                          rw [law16_DeadParts_l3.eq_1] at hx
                          refine JC.seq ?_
                          refine JC.seq ?_
                          refine JC.region ?_
                          refine JL.val rfl rfl (R.move rfl) ?_
                          refine JL.val rfl rfl (R.move rfl) ?_
                          refine JL.val rfl rfl (R.lenL U22 rfl (IsSlice.long hz_54)) ?_
                          refine JL.val rfl rfl (R.lss_i rfl rfl) ?_
                          refine JL.nil ?_
                          refine JN.next ?_
                          refine JC.condB rfl (fun c_66 => ?_) (fun c_66 => ?_)
                          · replace hx := cond_t c_66 hx
                            refine JC.skip ?_
                            refine JN.next ?_
                            refine JC.seq ?_
                            refine JC.block ?_
                            refine JC.seq ?_
                            refine JC.draw (so := [_]) 6 rfl Mixed ⟨⟨0, rfl⟩, trivial⟩ ?_
                            refine JA.val ⟨by kernel_rfl, by kernel_rfl⟩ (calm_only _) (i := 0) rfl ⟨by kernel_rfl, by kernel_rfl, rfl⟩ trivial (stab_of (Hle.refl _) ⟨⟨0, rfl⟩, trivial⟩) (R.move rfl) rfl ?_
                            refine JA.val ⟨by kernel_rfl, by kernel_rfl⟩ (calm_only _) (i := 1) rfl ⟨by kernel_rfl, by kernel_rfl, rfl⟩ trivial (stab_of (Hle.refl _) ⟨⟨0, rfl⟩, trivial⟩) (R.move rfl) rfl ?_
                            obtain ⟨y_67, hN_68, hx⟩ := idx_some hx
                            obtain ⟨b_69, o_70, cs_71, hE_72, hR_73, hl_74, hc_75⟩ := IsSlice.elem hz_54 hN_68
                            obtain rfl := hR_73
                            refine JA.val ⟨by kernel_rfl, by kernel_rfl⟩ (calm_only _) (i := 2) rfl ⟨by kernel_rfl, by kernel_rfl, rfl⟩ trivial (stab_of (Hle.refl _) ⟨⟨0, rfl⟩, trivial⟩) (R.ix U22 S32 rfl rfl hE_72) rfl ?_
                            refine JA.val ⟨by kernel_rfl, by kernel_rfl⟩ (calm_only _) (i := 3) rfl ⟨by kernel_rfl, by kernel_rfl, rfl⟩ trivial (stab_of (Hle.refl _) ⟨⟨0, rfl⟩, trivial⟩) (R.ldHE (cs := [.int .i64 y_67.At, .int .u32 (y_67.Birth.toNat : Int), .int .u32 (y_67.Iv.toNat : Int), .int .u32 (y_67.Tag.toNat : Int), .int .u32 (y_67.Sum.toNat : Int)]) (k := 0) (vs := [.int .i64 y_67.At, .int .u32 (y_67.Birth.toNat : Int), .int .u32 (y_67.Iv.toNat : Int), .int .u32 (y_67.Tag.toNat : Int), .int .u32 (y_67.Sum.toNat : Int)]) S32 rfl (fun j u e => New.le _ _ _ _ _ (hc_75 j u e)) rfl rfl) rfl ?_
                            refine JA.val ⟨by kernel_rfl, by kernel_rfl⟩ (calm_only _) (i := 4) rfl ⟨by kernel_rfl, by kernel_rfl, rfl⟩ trivial (stab_of (Hle.refl _) ⟨⟨0, rfl⟩, trivial⟩) (R.ldoN 0 (vs := [.int .i64 p_3.At, .int .u32 (p_3.Birth.toNat : Int), .int .u32 (p_3.Iv.toNat : Int), .int .u32 (p_3.Tag.toNat : Int), .int .u32 (p_3.Sum.toNat : Int)]) S32 rfl rfl rfl rfl) rfl ?_
                            refine JA.val ⟨by kernel_rfl, by kernel_rfl⟩ (calm_only _) (i := 5) rfl ⟨by kernel_rfl, by kernel_rfl, rfl⟩ trivial (stab_of (Hle.refl _) ⟨⟨0, rfl⟩, trivial⟩) (R.eqlAgg QU32 QP32 QG32 QF32 rfl rfl (EqF.i (by decide) S3 U3 rfl rfl (EqF.u32 (a := y_67.Birth) (b := p_3.Birth) (by decide) S30 U30 rfl rfl (EqF.u32 (a := y_67.Iv) (b := p_3.Iv) (by decide) S30 U30 rfl rfl (EqF.u32 (a := y_67.Tag) (b := p_3.Tag) (by decide) S30 U30 rfl rfl (EqF.u32 (a := y_67.Sum) (b := p_3.Sum) (by decide) S30 U30 rfl rfl EqF.nil)))))) rfl ?_
                            refine JA.doneN (by kernel_rfl) ?_
                            refine JN.next ?_
                            refine JC.condB rfl (fun c_76 => ?_) (fun c_76 => ?_)
                            · replace hx := cond_t c_76 hx
                              refine JC.region ?_
                              refine JL.val rfl rfl (R.move rfl) ?_
                              refine JL.val rfl rfl (R.add_i rfl rfl) ?_
                              refine JL.val rfl rfl (R.assign rfl) ?_
                              refine JL.nil ?_
                              refine JN.blkN ?_
                              refine JN.next ?_
                              refine JC.region ?_
                              refine JL.val rfl rfl (R.move rfl) ?_
                              refine JL.val rfl rfl (R.inc rfl rfl (of_decide_eq_true c_66) (IsSlice.lenI hz_54)) ?_
                              refine JL.val rfl rfl (R.assign rfl) ?_
                              refine JL.nil ?_
                              replace hx := run_next hd_66 hx
                              exact JN.cut ⟨(s_63.1, w64 (s_63.2.1 + 1), s_63.2.2 + 1), rfl, rfl, rfl, hx⟩ ⟨rfl, rfl, rfl, rfl, rfl, rfl, rfl, trivial⟩ rfl rfl
                            · replace hx := cond_f c_76 hx
                              refine JC.seq ?_
                              refine JC.draw (so := [_]) 15 rfl Mixed ⟨⟨0, rfl⟩, trivial⟩ ?_
                              refine JA.val ⟨by kernel_rfl, by kernel_rfl⟩ (calm_only _) (i := 0) rfl ⟨by kernel_rfl, by kernel_rfl, rfl⟩ trivial (stab_of (Hle.refl _) ⟨⟨0, rfl⟩, trivial⟩) (R.move rfl) rfl ?_
                              refine JA.val ⟨by kernel_rfl, by kernel_rfl⟩ (calm_only _) (i := 1) rfl ⟨by kernel_rfl, by kernel_rfl, rfl⟩ trivial (stab_of (Hle.refl _) ⟨⟨0, rfl⟩, trivial⟩) (R.move rfl) rfl ?_
                              refine JA.val ⟨by kernel_rfl, by kernel_rfl⟩ (calm_only _) (i := 2) rfl ⟨by kernel_rfl, by kernel_rfl, rfl⟩ trivial (stab_of (Hle.refl _) ⟨⟨0, rfl⟩, trivial⟩) (R.lenL U22 rfl (IsSlice.long ha_2)) rfl ?_
                              refine JA.val ⟨by kernel_rfl, by kernel_rfl⟩ (calm_only _) (i := 3) rfl ⟨by kernel_rfl, by kernel_rfl, rfl⟩ trivial (stab_of (Hle.refl _) ⟨⟨0, rfl⟩, trivial⟩) (R.geq_i rfl rfl) rfl ?_
                              refine JA.val ⟨by kernel_rfl, by kernel_rfl⟩ (calm_only _) (i := 4) rfl ⟨by kernel_rfl, by kernel_rfl, rfl⟩ trivial (stab_of (Hle.refl _) ⟨⟨0, rfl⟩, trivial⟩) (R.move rfl) rfl ?_
                              refine JA.gSplit (t := 123) rfl (fun c_77 => ?_) (fun c_77 => ?_)
                              · replace hx := cond_t c_77 hx
                                refine JA.no ⟨by kernel_rfl, by kernel_rfl⟩ (calm_only _) (i := 5) rfl ⟨by kernel_rfl, by kernel_rfl, rfl⟩ rfl rfl rfl rfl (stab_of (Hle.refl _) ⟨⟨0, rfl⟩, trivial⟩) rfl ?_
                                refine JA.no ⟨by kernel_rfl, by kernel_rfl⟩ (calm_only _) (i := 6) rfl ⟨by kernel_rfl, by kernel_rfl, rfl⟩ rfl rfl rfl rfl (stab_of (Hle.refl _) ⟨⟨0, rfl⟩, trivial⟩) rfl ?_
                                refine JA.no ⟨by kernel_rfl, by kernel_rfl⟩ (calm_only _) (i := 7) rfl ⟨by kernel_rfl, by kernel_rfl, rfl⟩ rfl rfl rfl rfl (stab_of (Hle.refl _) ⟨⟨0, rfl⟩, trivial⟩) rfl ?_
                                refine JA.no ⟨by kernel_rfl, by kernel_rfl⟩ (calm_only _) (i := 8) rfl ⟨by kernel_rfl, by kernel_rfl, rfl⟩ rfl rfl rfl rfl (stab_of (Hle.refl _) ⟨⟨0, rfl⟩, trivial⟩) rfl ?_
                                refine JA.no ⟨by kernel_rfl, by kernel_rfl⟩ (calm_only _) (i := 9) rfl ⟨by kernel_rfl, by kernel_rfl, rfl⟩ rfl rfl rfl rfl (stab_of (Hle.refl _) ⟨⟨0, rfl⟩, trivial⟩) rfl ?_
                                refine JA.no ⟨by kernel_rfl, by kernel_rfl⟩ (calm_only _) (i := 10) rfl ⟨by kernel_rfl, by kernel_rfl, rfl⟩ rfl rfl rfl rfl (stab_of (Hle.refl _) ⟨⟨0, rfl⟩, trivial⟩) rfl ?_
                                refine JA.no ⟨by kernel_rfl, by kernel_rfl⟩ (calm_only _) (i := 11) rfl ⟨by kernel_rfl, by kernel_rfl, rfl⟩ rfl rfl rfl rfl (stab_of (Hle.refl _) ⟨⟨0, rfl⟩, trivial⟩) rfl ?_
                                refine JA.no ⟨by kernel_rfl, by kernel_rfl⟩ (calm_only _) (i := 12) rfl ⟨by kernel_rfl, by kernel_rfl, rfl⟩ rfl rfl rfl rfl (stab_of (Hle.refl _) ⟨⟨0, rfl⟩, trivial⟩) rfl ?_
                                refine JA.no ⟨by kernel_rfl, by kernel_rfl⟩ (calm_only _) (i := 13) rfl ⟨by kernel_rfl, by kernel_rfl, rfl⟩ rfl rfl rfl rfl (stab_of (Hle.refl _) ⟨⟨0, rfl⟩, trivial⟩) rfl ?_
                                refine JA.val ⟨by kernel_rfl, by kernel_rfl⟩ (calm_only _) (i := 14) rfl ⟨by kernel_rfl, by kernel_rfl, rfl⟩ trivial (stab_of (Hle.refl _) ⟨⟨0, rfl⟩, trivial⟩) (R.pickT rfl rfl) rfl ?_
                                refine JA.doneN (by kernel_rfl) ?_
                                refine JN.next ?_
                                refine JC.condT rfl ?_
                                refine JC.seq ?_
                                refine JC.region ?_
                                refine JL.val rfl rfl (R.assign rfl) ?_
                                refine JL.nil ?_
                                refine JN.next ?_
                                refine JC.ret ?_
                                refine JN.blkR ?_
                                refine JN.passR ?_
                                obtain rfl := run_done hd_66 hx
                                refine JN.passR ?_
                                refine JN.blkR ?_
                                clear hx; have hx := hxo_61
                                simp only [Sum.elim_inl, Sum.elim_inr] at hx
                                refine JN.passR ?_
                                refine JN.passR ?_
                                refine JN.outP (vs := [.bool false]) (K := []) (rst := [_]) (.inl rfl) rfl rfl (Res.tmp rfl rfl) picks0 ?_
                                obtain rfl := Option.some.inj hx
                                exact ⟨rfl, rfl, trivial⟩
                              · replace hx := cond_f c_77 hx
                                refine JA.val ⟨by kernel_rfl, by kernel_rfl⟩ (calm_only _) (i := 5) rfl ⟨by kernel_rfl, by kernel_rfl, rfl⟩ ⟨_, _, rfl, rfl, rfl⟩ (stab_of (Hle.refl _) ⟨⟨0, rfl⟩, trivial⟩) (R.move rfl) rfl ?_
                                refine JA.val ⟨by kernel_rfl, by kernel_rfl⟩ (calm_only _) (i := 6) rfl ⟨by kernel_rfl, by kernel_rfl, rfl⟩ ⟨_, _, rfl, rfl, rfl⟩ (stab_of (Hle.refl _) ⟨⟨0, rfl⟩, trivial⟩) (R.move rfl) rfl ?_
                                obtain ⟨y_78, hN_79, hx⟩ := idx_some hx
                                obtain ⟨b_80, o_81, cs_82, hE_83, hR_84, hl_85, hc_86⟩ := IsSlice.elem (ha_2.mono R_Ptr.mono (hleu_8.trans (hleH_19.trans (hleH_20.trans (hleu_23.trans hleu_53))))) hN_79
                                obtain rfl := hR_84
                                refine JA.val ⟨by kernel_rfl, by kernel_rfl⟩ (calm_only _) (i := 7) rfl ⟨by kernel_rfl, by kernel_rfl, rfl⟩ ⟨_, _, rfl, rfl, rfl⟩ (stab_of (Hle.refl _) ⟨⟨0, rfl⟩, trivial⟩) (R.ix U22 S32 rfl rfl hE_83) rfl ?_
                                refine JA.val ⟨by kernel_rfl, by kernel_rfl⟩ (calm_only _) (i := 8) rfl ⟨by kernel_rfl, by kernel_rfl, rfl⟩ ⟨_, _, rfl, rfl, rfl⟩ (stab_of (Hle.refl _) ⟨⟨0, rfl⟩, trivial⟩) (R.ldHE (cs := [.int .i64 y_78.At, .int .u32 (y_78.Birth.toNat : Int), .int .u32 (y_78.Iv.toNat : Int), .int .u32 (y_78.Tag.toNat : Int), .int .u32 (y_78.Sum.toNat : Int)]) (k := 0) (vs := [.int .i64 y_78.At, .int .u32 (y_78.Birth.toNat : Int), .int .u32 (y_78.Iv.toNat : Int), .int .u32 (y_78.Tag.toNat : Int), .int .u32 (y_78.Sum.toNat : Int)]) S32 rfl hc_86 rfl rfl) rfl ?_
                                refine JA.val ⟨by kernel_rfl, by kernel_rfl⟩ (calm_only _) (i := 9) rfl ⟨by kernel_rfl, by kernel_rfl, rfl⟩ ⟨_, _, rfl, rfl, rfl⟩ (stab_of (Hle.refl _) ⟨⟨0, rfl⟩, trivial⟩) (R.move rfl) rfl ?_
                                refine JA.val ⟨by kernel_rfl, by kernel_rfl⟩ (calm_only _) (i := 10) rfl ⟨by kernel_rfl, by kernel_rfl, rfl⟩ ⟨_, _, rfl, rfl, rfl⟩ (stab_of (Hle.refl _) ⟨⟨0, rfl⟩, trivial⟩) (R.move rfl) rfl ?_
                                obtain ⟨y_87, hN_88, hx⟩ := idx_some hx
                                obtain ⟨b_89, o_90, cs_91, hE_92, hR_93, hl_94, hc_95⟩ := IsSlice.elem hz_54 hN_88
                                obtain rfl := hR_93
                                refine JA.val ⟨by kernel_rfl, by kernel_rfl⟩ (calm_only _) (i := 11) rfl ⟨by kernel_rfl, by kernel_rfl, rfl⟩ ⟨_, _, rfl, rfl, rfl⟩ (stab_of (Hle.refl _) ⟨⟨0, rfl⟩, trivial⟩) (R.ix U22 S32 rfl rfl hE_92) rfl ?_
                                refine JA.val ⟨by kernel_rfl, by kernel_rfl⟩ (calm_only _) (i := 12) rfl ⟨by kernel_rfl, by kernel_rfl, rfl⟩ ⟨_, _, rfl, rfl, rfl⟩ (stab_of (Hle.refl _) ⟨⟨0, rfl⟩, trivial⟩) (R.ldHE (cs := [.int .i64 y_87.At, .int .u32 (y_87.Birth.toNat : Int), .int .u32 (y_87.Iv.toNat : Int), .int .u32 (y_87.Tag.toNat : Int), .int .u32 (y_87.Sum.toNat : Int)]) (k := 0) (vs := [.int .i64 y_87.At, .int .u32 (y_87.Birth.toNat : Int), .int .u32 (y_87.Iv.toNat : Int), .int .u32 (y_87.Tag.toNat : Int), .int .u32 (y_87.Sum.toNat : Int)]) S32 rfl (fun j u e => New.le _ _ _ _ _ (hc_95 j u e)) rfl rfl) rfl ?_
                                refine JA.val ⟨by kernel_rfl, by kernel_rfl⟩ (calm_only _) (i := 13) rfl ⟨by kernel_rfl, by kernel_rfl, rfl⟩ ⟨_, _, rfl, rfl, rfl⟩ (stab_of (Hle.refl _) ⟨⟨0, rfl⟩, trivial⟩) (R.neqAgg QU32 QP32 QG32 QF32 rfl rfl (EqF.i (by decide) S3 U3 rfl rfl (EqF.u32 (a := y_78.Birth) (b := y_87.Birth) (by decide) S30 U30 rfl rfl (EqF.u32 (a := y_78.Iv) (b := y_87.Iv) (by decide) S30 U30 rfl rfl (EqF.u32 (a := y_78.Tag) (b := y_87.Tag) (by decide) S30 U30 rfl rfl (EqF.u32 (a := y_78.Sum) (b := y_87.Sum) (by decide) S30 U30 rfl rfl EqF.nil)))))) rfl ?_
                                refine JA.val ⟨by kernel_rfl, by kernel_rfl⟩ (calm_only _) (i := 14) rfl ⟨by kernel_rfl, by kernel_rfl, rfl⟩ trivial (stab_of (Hle.refl _) ⟨⟨0, rfl⟩, trivial⟩) (R.pickF rfl rfl) rfl ?_
                                refine JA.doneN (by kernel_rfl) ?_
                                refine JN.next ?_
                                refine JC.condB rfl (fun c_96 => ?_) (fun c_96 => ?_)
                                · replace hx := cond_t c_96 hx
                                  refine JC.seq ?_
                                  refine JC.region ?_
                                  refine JL.val rfl rfl (R.assign rfl) ?_
                                  refine JL.nil ?_
                                  refine JN.next ?_
                                  refine JC.ret ?_
                                  refine JN.blkR ?_
                                  refine JN.passR ?_
                                  obtain rfl := run_done hd_66 hx
                                  refine JN.passR ?_
                                  refine JN.blkR ?_
                                  clear hx; have hx := hxo_61
                                  simp only [Sum.elim_inl, Sum.elim_inr] at hx
                                  refine JN.passR ?_
                                  refine JN.passR ?_
                                  refine JN.outP (vs := [.bool false]) (K := []) (rst := [_]) (.inl rfl) rfl rfl (Res.tmp rfl rfl) picks0 ?_
                                  obtain rfl := Option.some.inj hx
                                  exact ⟨rfl, rfl, trivial⟩
                                · replace hx := cond_f c_96 hx
                                  refine JC.region ?_
                                  refine JL.val rfl rfl (R.move rfl) ?_
                                  refine JL.val rfl rfl (R.add_i rfl rfl) ?_
                                  refine JL.val rfl rfl (R.assign rfl) ?_
                                  refine JL.nil ?_
                                  refine JN.blkN ?_
                                  refine JN.next ?_
                                  refine JC.region ?_
                                  refine JL.val rfl rfl (R.move rfl) ?_
                                  refine JL.val rfl rfl (R.inc rfl rfl (of_decide_eq_true c_66) (IsSlice.lenI hz_54)) ?_
                                  refine JL.val rfl rfl (R.assign rfl) ?_
                                  refine JL.nil ?_
                                  replace hx := run_next hd_66 hx
                                  exact JN.cut ⟨(w64 (s_63.1 + 1), s_63.2.1, s_63.2.2 + 1), rfl, rfl, rfl, hx⟩ ⟨rfl, rfl, rfl, rfl, rfl, rfl, rfl, trivial⟩ rfl rfl
                          · replace hx := cond_f c_66 hx
                            refine JC.exit ?_
                            refine JN.passX ?_
                            obtain rfl := run_done hd_66 hx
                            refine JN.passX ?_
                            refine JN.exitSame ?_
                            refine JN.forget 0 ?_
                            exact JN.cut ⟨(s_63.1, s_63.2.1), rfl, rfl, rfl, rfl⟩ ⟨rfl, rfl, rfl, rfl, rfl, trivial⟩ rfl rfl
                  · have hxo_46 := hx; clear hx; have hx := ht_47; clear ht_47
                    refine JC.block ?_
                    refine JC.loopI (fun n l o g => ∃ s_48 : Nat, l = [(0, .slice aoa_2 na_2 capa_2), (2, .int .u32 (p_4.toNat : Int)), (4, .pointer (some ⟨b_5, 0, none⟩)), (7, .bool x_6), (9, .slice aor_18 nr_18 capr_18), (14, .int .i64 ((s_48 : Nat) : Int))] ∧ o = [[(b_5, .cells #[.int .i64 p_3.At, .int .u32 (p_3.Birth.toNat : Int), .int .u32 (p_3.Iv.toNat : Int), .int .u32 (p_3.Tag.toNat : Int), .int .u32 (p_3.Sum.toNat : Int)] 32 (0, 0))]] ∧ Hu_23 = g ∧ run (law16_DeadParts_l2 p_4 x_14) n s_48 = some t_45) FUEL ?_ ⟨0, rfl, rfl, rfl, hx⟩ ⟨rfl, rfl, rfl, rfl, rfl, rfl, trivial⟩ ?_
                    · rintro _ _ _ ⟨s_48, rfl, rfl, rfl, hn_49⟩
                      exact run_zero hn_49
                    · rintro n_50 _ _ _ ⟨s_48, rfl, rfl, rfl, hn_49⟩
                      clear hx; obtain ⟨oo_52, hx, hd_51⟩ := run_some hn_49
                      rw [law16_DeadParts_l2.eq_1] at hx
                      refine JC.seq ?_
                      refine JC.seq ?_
                      refine JC.region ?_
                      refine JL.val rfl rfl (R.move rfl) ?_
                      refine JL.val rfl rfl (R.move rfl) ?_
                      refine JL.val rfl rfl (R.lenL U22 rfl (IsSlice.long hsH_19)) ?_
                      refine JL.val rfl rfl (R.lss_i rfl rfl) ?_
                      refine JL.nil ?_
                      refine JN.next ?_
                      refine JC.condB rfl (fun c_51 => ?_) (fun c_51 => ?_)
                      · replace hx := cond_t c_51 hx
                        refine JC.skip ?_
                        refine JN.next ?_
                        refine JC.seq ?_
                        refine JC.block ?_
                        refine JC.seq ?_
                        refine JC.region ?_
                        refine JL.val rfl rfl (R.move rfl) ?_
                        refine JL.val rfl rfl (R.move rfl) ?_
                        obtain ⟨y_52, hN_53, hx⟩ := idx_some hx
                        obtain ⟨b_54, o_55, cs_56, hE_57, hR_58, hl_59, hc_60⟩ := IsSlice.elem (hsH_19.mono R_Ptr.mono (New.mono (hleH_20.trans hleu_23))) hN_53
                        obtain rfl := hR_58
                        refine JL.val rfl rfl (R.ix U22 S32 rfl rfl hE_57) ?_
                        refine JL.val rfl rfl (R.fa F32_1 rfl) ?_
                        refine JL.val rfl rfl (R.ldH S30 rfl ((fun j u e => New.le _ _ _ _ _ (hc_60 j u e)) 1 _ rfl)) ?_
                        refine JL.val rfl rfl (R.move rfl) ?_
                        refine JL.val rfl rfl (R.leq32 (a := y_52.Birth) (b := p_4) rfl rfl) ?_
                        refine JL.nil ?_
                        refine JN.next ?_
                        refine JC.condB rfl (fun c_61 => ?_) (fun c_61 => ?_)
                        · replace hx := cond_t c_61 hx
                          refine JC.seq ?_
                          refine JC.region ?_
                          refine JL.val rfl rfl (R.assign rfl) ?_
                          refine JL.nil ?_
                          refine JN.next ?_
                          refine JC.ret ?_
                          refine JN.blkR ?_
                          refine JN.passR ?_
                          obtain rfl := run_done hd_51 hx
                          refine JN.passR ?_
                          refine JN.blkR ?_
                          clear hx; have hx := hxo_46
                          simp only [Sum.elim_inl, Sum.elim_inr] at hx
                          refine JN.passR ?_
                          refine JN.passR ?_
                          refine JN.outP (vs := [.bool false]) (K := []) (rst := [_]) (.inl rfl) rfl rfl (Res.tmp rfl rfl) picks0 ?_
                          obtain rfl := Option.some.inj hx
                          exact ⟨rfl, rfl, trivial⟩
                        · replace hx := cond_f c_61 hx
                          refine JC.skip ?_
                          refine JN.blkN ?_
                          refine JN.next ?_
                          refine JC.region ?_
                          refine JL.val rfl rfl (R.move rfl) ?_
                          refine JL.val rfl rfl (R.inc rfl rfl (of_decide_eq_true c_51) (IsSlice.lenI hsH_19)) ?_
                          refine JL.val rfl rfl (R.assign rfl) ?_
                          refine JL.nil ?_
                          replace hx := run_next hd_51 hx
                          exact JN.cut ⟨s_48 + 1, rfl, rfl, rfl, hx⟩ ⟨rfl, rfl, rfl, rfl, rfl, rfl, trivial⟩ rfl rfl
                      · replace hx := cond_f c_51 hx
                        refine JC.exit ?_
                        refine JN.passX ?_
                        obtain rfl := run_done hd_51 hx
                        refine JN.passX ?_
                        refine JN.exitSame ?_
                        exact JN.cut ⟨(), rfl, rfl, rfl, rfl⟩ ⟨rfl, rfl, rfl, trivial⟩ rfl rfl
                · have hxo_40 := hx; clear hx; have hx := ht_41; clear ht_41
                  refine JC.block ?_
                  refine JC.loopI (fun n l o g => ∃ s_42 : Nat, l = [(0, .slice aoa_2 na_2 capa_2), (2, .int .u32 (p_4.toNat : Int)), (4, .pointer (some ⟨b_5, 0, none⟩)), (7, .bool x_6), (8, .slice aor_17 nr_17 capr_17), (9, .slice aor_18 nr_18 capr_18), (13, .int .i64 ((s_42 : Nat) : Int))] ∧ o = [[(b_5, .cells #[.int .i64 p_3.At, .int .u32 (p_3.Birth.toNat : Int), .int .u32 (p_3.Iv.toNat : Int), .int .u32 (p_3.Tag.toNat : Int), .int .u32 (p_3.Sum.toNat : Int)] 32 (0, 0))]] ∧ Hu_23 = g ∧ run (law16_DeadParts_l1 p_4 x_14) n s_42 = some t_39) FUEL ?_ ⟨0, rfl, rfl, rfl, hx⟩ ⟨rfl, rfl, rfl, rfl, rfl, rfl, rfl, trivial⟩ ?_
                  · rintro _ _ _ ⟨s_42, rfl, rfl, rfl, hn_43⟩
                    exact run_zero hn_43
                  · rintro n_44 _ _ _ ⟨s_42, rfl, rfl, rfl, hn_43⟩
                    clear hx; obtain ⟨oo_46, hx, hd_45⟩ := run_some hn_43
                    rw [law16_DeadParts_l1.eq_1] at hx
                    refine JC.seq ?_
                    refine JC.seq ?_
                    refine JC.region ?_
                    refine JL.val rfl rfl (R.move rfl) ?_
                    refine JL.val rfl rfl (R.move rfl) ?_
                    refine JL.val rfl rfl (R.lenL U22 rfl (IsSlice.long hsH_20)) ?_
                    refine JL.val rfl rfl (R.lss_i rfl rfl) ?_
                    refine JL.nil ?_
                    refine JN.next ?_
                    refine JC.condB rfl (fun c_45 => ?_) (fun c_45 => ?_)
                    · replace hx := cond_t c_45 hx
                      refine JC.skip ?_
                      refine JN.next ?_
                      refine JC.seq ?_
                      refine JC.block ?_
                      refine JC.seq ?_
                      refine JC.region ?_
                      refine JL.val rfl rfl (R.move rfl) ?_
                      refine JL.val rfl rfl (R.move rfl) ?_
                      obtain ⟨y_46, hN_47, hx⟩ := idx_some hx
                      obtain ⟨b_48, o_49, cs_50, hE_51, hR_52, hl_53, hc_54⟩ := IsSlice.elem (hsH_20.mono R_Ptr.mono (New.mono hleu_23)) hN_47
                      obtain rfl := hR_52
                      refine JL.val rfl rfl (R.ix U22 S32 rfl rfl hE_51) ?_
                      refine JL.val rfl rfl (R.fa F32_1 rfl) ?_
                      refine JL.val rfl rfl (R.ldH S30 rfl ((fun j u e => New.le _ _ _ _ _ (hc_54 j u e)) 1 _ rfl)) ?_
                      refine JL.val rfl rfl (R.move rfl) ?_
                      refine JL.val rfl rfl (R.gtr32 (a := y_46.Birth) (b := p_4) rfl rfl) ?_
                      refine JL.nil ?_
                      refine JN.next ?_
                      refine JC.condB rfl (fun c_55 => ?_) (fun c_55 => ?_)
                      · replace hx := cond_t c_55 hx
                        refine JC.seq ?_
                        refine JC.region ?_
                        refine JL.val rfl rfl (R.assign rfl) ?_
                        refine JL.nil ?_
                        refine JN.next ?_
                        refine JC.ret ?_
                        refine JN.blkR ?_
                        refine JN.passR ?_
                        obtain rfl := run_done hd_45 hx
                        refine JN.passR ?_
                        refine JN.blkR ?_
                        clear hx; have hx := hxo_40
                        simp only [Sum.elim_inl, Sum.elim_inr] at hx
                        refine JN.passR ?_
                        refine JN.passR ?_
                        refine JN.outP (vs := [.bool false]) (K := []) (rst := [_]) (.inl rfl) rfl rfl (Res.tmp rfl rfl) picks0 ?_
                        obtain rfl := Option.some.inj hx
                        exact ⟨rfl, rfl, trivial⟩
                      · replace hx := cond_f c_55 hx
                        refine JC.skip ?_
                        refine JN.blkN ?_
                        refine JN.next ?_
                        refine JC.region ?_
                        refine JL.val rfl rfl (R.move rfl) ?_
                        refine JL.val rfl rfl (R.inc rfl rfl (of_decide_eq_true c_45) (IsSlice.lenI hsH_20)) ?_
                        refine JL.val rfl rfl (R.assign rfl) ?_
                        refine JL.nil ?_
                        replace hx := run_next hd_45 hx
                        exact JN.cut ⟨s_42 + 1, rfl, rfl, rfl, hx⟩ ⟨rfl, rfl, rfl, rfl, rfl, rfl, rfl, trivial⟩ rfl rfl
                    · replace hx := cond_f c_45 hx
                      refine JC.exit ?_
                      refine JN.passX ?_
                      obtain rfl := run_done hd_45 hx
                      refine JN.passX ?_
                      refine JN.exitSame ?_
                      exact JN.cut ⟨(), rfl, rfl, rfl, rfl⟩ ⟨rfl, rfl, rfl, rfl, rfl, trivial⟩ rfl rfl

set_option maxHeartbeats 1000000 in
theorem law16_DeadSyncs_ok (p_1 : List Ptr) (p_3 : UInt32) (p_4 : UInt32) (H : Heaplet) {aoa_2 : Option Addr} {na_2 : Nat} {capa_2 : Nat} (ha_2 : IsSlice H R_Ptr 5 (.slice aoa_2 na_2 capa_2) p_1) (r : Bool) (hx : law16_DeadSyncs p_1 p_3 p_4 = some r) :
    Does Try.prog 6 #[.slice aoa_2 na_2 capa_2, .int .u32 (p_3.toNat : Int), .int .u32 (p_4.toNat : Int)] [] H (fun u K' H' => u = .bool r ∧ K' = [] ∧ True) := by
  refine Does.enterL (vs := [.slice aoa_2 na_2 capa_2, .int .u32 (p_3.toNat : Int), .int .u32 (p_4.toNat : Int)]) (l := [(0, .slice aoa_2 na_2 capa_2), (1, .int .u32 (p_3.toNat : Int)), (2, .int .u32 (p_4.toNat : Int))]) Try.func6 rfl rfl ⟨rfl, rfl, rfl, trivial⟩ (fun w hlt => ?_)
  rw [law16_DeadSyncs.eq_1] at hx
  refine JC.seq ?_
  refine JC.region ?_
  refine JL.val rfl rfl (R.assign rfl) ?_
  refine JL.nil ?_
  refine JN.next ?_
  refine JC.seq ?_
  refine JC.region ?_
  obtain ⟨x_5, hr_6, hx⟩ := bnd_some hx
  refine JL.callC (vs := []) (args := []) (K := []) (rst := []) E7 rfl rfl rfl picks0 (law16_alive_ok _ _ hr_6) rfl (fun u_7 Ku_7 Hu_7 hRu_7 hleu_7 hfu_7 => ?_)
  obtain ⟨rfl, rfl, -⟩ := hRu_7
  refine JL.val rfl rfl (R.assign rfl) ?_
  refine JL.nil ?_
  refine JN.next ?_
  refine JC.seq ?_
  refine JC.seq ?_
  refine JC.region ?_
  refine JL.val rfl rfl (R.move rfl) ?_
  refine JL.val rfl rfl (R.lenL U22 rfl (IsSlice.long ha_2)) ?_
  refine JL.val rfl rfl (R.gtr_i rfl rfl) ?_
  refine JL.val rfl rfl (R.move rfl) ?_
  refine JL.gSplit (t := 28) rfl (fun c_8 => ?_) (fun c_8 => ?_)
  · replace hx := cond_t c_8 hx
    refine JL.gNo rfl rfl rfl rfl rfl ?_
    refine JL.gNo rfl rfl rfl rfl rfl ?_
    refine JL.gNo rfl rfl rfl rfl rfl ?_
    refine JL.val rfl rfl (R.pickT rfl rfl) ?_
    refine JL.val rfl rfl (R.move rfl) ?_
    refine JL.gNo rfl rfl rfl rfl rfl ?_
    refine JL.gNo rfl rfl rfl rfl rfl ?_
    refine JL.gNo rfl rfl rfl rfl rfl ?_
    refine JL.val rfl rfl (R.pickT rfl rfl) ?_
    refine JL.nil ?_
    refine JN.next ?_
    refine JC.condT rfl ?_
    refine JC.seq ?_
    refine JC.region ?_
    refine JL.val rfl rfl (R.move rfl) ?_
    refine JL.val rfl rfl (R.assign rfl) ?_
    refine JL.nil ?_
    refine JN.next ?_
    refine JC.ret ?_
    refine JN.passR ?_
    refine JN.outP (vs := [.bool x_5]) (K := []) (rst := []) (.inl rfl) rfl rfl (Res.tmp rfl rfl) picks0 ?_
    obtain rfl := Option.some.inj hx
    exact ⟨rfl, rfl, trivial⟩
  · replace hx := cond_f c_8 hx
    refine JL.gYes rfl rfl rfl ?_
    refine JL.val rfl rfl (R.move rfl) ?_
    refine JL.gYes rfl rfl rfl ?_
    obtain ⟨x_9, hr_10, hx⟩ := bnd_some hx
    refine JL.callC (vs := [_]) (args := [_]) (K := []) (rst := []) E10 rfl rfl rfl picks0 (dead_Check_ok p_1 _ (ha_2.mono R_Ptr.mono hleu_7) _ hr_10) rfl (fun u_11 Ku_11 Hu_11 hRu_11 hleu_11 hfu_11 => ?_)
    obtain ⟨rfl, rfl, rfl, -⟩ := hRu_11
    refine JL.gYes rfl rfl rfl ?_
    refine JL.val rfl rfl (R.neq_i rfl rfl) ?_
    refine JL.val rfl rfl (R.pickF rfl rfl) ?_
    refine JL.val rfl rfl (R.move rfl) ?_
    refine JL.gSplit (t := 33) rfl (fun c_12 => ?_) (fun c_12 => ?_)
    · replace hx := cond_t c_12 hx
      refine JL.gNo rfl rfl rfl rfl rfl ?_
      refine JL.gNo rfl rfl rfl rfl rfl ?_
      refine JL.gNo rfl rfl rfl rfl rfl ?_
      refine JL.val rfl rfl (R.pickT rfl rfl) ?_
      refine JL.nil ?_
      refine JN.next ?_
      refine JC.condT rfl ?_
      refine JC.seq ?_
      refine JC.region ?_
      refine JL.val rfl rfl (R.move rfl) ?_
      refine JL.val rfl rfl (R.assign rfl) ?_
      refine JL.nil ?_
      refine JN.next ?_
      refine JC.ret ?_
      refine JN.passR ?_
      refine JN.outP (vs := [.bool x_5]) (K := []) (rst := []) (.inl rfl) rfl rfl (Res.tmp rfl rfl) picks0 ?_
      obtain rfl := Option.some.inj hx
      exact ⟨rfl, rfl, trivial⟩
    · replace hx := cond_f c_12 hx
      refine JL.gYes rfl rfl rfl ?_
      refine JL.val rfl rfl (R.move rfl) ?_
      refine JL.gYes rfl rfl rfl ?_
      refine JL.val rfl rfl (R.move rfl) ?_
      refine JL.gYes rfl rfl rfl ?_
      refine JL.val rfl rfl (R.gtr32 (a := p_3) (b := p_4) rfl rfl) ?_
      refine JL.val rfl rfl (R.pickF rfl rfl) ?_
      refine JL.nil ?_
      refine JN.next ?_
      refine JC.condB rfl (fun c_13 => ?_) (fun c_13 => ?_)
      · replace hx := cond_t c_13 hx
        refine JC.seq ?_
        refine JC.region ?_
        refine JL.val rfl rfl (R.move rfl) ?_
        refine JL.val rfl rfl (R.assign rfl) ?_
        refine JL.nil ?_
        refine JN.next ?_
        refine JC.ret ?_
        refine JN.passR ?_
        refine JN.outP (vs := [.bool x_5]) (K := []) (rst := []) (.inl rfl) rfl rfl (Res.tmp rfl rfl) picks0 ?_
        obtain rfl := Option.some.inj hx
        exact ⟨rfl, rfl, trivial⟩
      · replace hx := cond_f c_13 hx
        refine JC.skip ?_
        refine JN.next ?_
        refine JC.seq ?_
        refine JC.region ?_
        refine JL.val rfl rfl (R.move rfl) ?_
        refine JL.val rfl rfl (R.move rfl) ?_
        obtain ⟨x_14, hr_15, hx⟩ := bnd_some hx
        refine JL.callC (vs := [_, _]) (args := [_, _]) (K := []) (rst := []) E13 rfl rfl rfl picks0 (dead_Split_ok p_1 p_3 _ (ha_2.mono R_Ptr.mono hleu_7) _ hr_15) rfl (fun u_16 Ku_16 Hu_16 hRu_16 hleu_16 hfu_16 => ?_)
        obtain ⟨aor_17, nr_17, capr_17, Kr_17, aor_18, nr_18, capr_18, Kr_18, rfl, rfl, rfl, hr_17, hnewr_17, hr_18, hnewr_18, -⟩ := hRu_16
        replace hr_17 := (RowOf.base (RowOf.const (H2 := New H Hu_7) R_Ptr.const hr_17) (fun p hp => (hfu_16 p (mem_seg 0 rfl hp)).resolve_left (hnewr_17 p hp)))
        replace hr_18 := (RowOf.base (RowOf.const (H2 := New H Hu_7) R_Ptr.const hr_18) (fun p hp => (hfu_16 p (mem_seg 1 rfl hp)).resolve_left (hnewr_18 p hp)))
        refine JL.val rfl rfl (R.move rfl) ?_
        refine JL.val rfl rfl (R.extract rfl rfl) ?_
        refine JL.val rfl rfl (R.extract rfl rfl) ?_
        refine JL.val rfl rfl (R.extract rfl rfl) ?_
        refine JL.val rfl rfl (R.assign rfl) ?_
        refine JL.val rfl rfl (R.assign rfl) ?_
        refine JL.val rfl rfl (R.assign rfl) ?_
        refine JL.nil ?_
        refine JN.next ?_
        refine JC.seq ?_
        refine JC.region ?_
        refine JL.val rfl rfl (R.move rfl) ?_
        refine JL.val rfl rfl (R.move rfl) ?_
        refine JL.pubN 1 R_Ptr.mono rfl hr_18 (Nat.le_refl _) (fun H_19 hleH_19 hsH_19 => ?_)
        refine JL.forget 1 ?_
        obtain ⟨x_20, hr_21, hx⟩ := bnd_some hx
        refine JL.callC (vs := [_, _]) (args := [_, _]) (K := []) (rst := [_]) E13 rfl rfl rfl picks0 (dead_Split_ok x_14.2.1 p_4 _ (hsH_19.old R_Ptr.mono) _ hr_21) rfl (fun u_22 Ku_22 Hu_22 hRu_22 hleu_22 hfu_22 => ?_)
        obtain ⟨aor_23, nr_23, capr_23, Kr_23, aor_24, nr_24, capr_24, Kr_24, rfl, rfl, rfl, hr_23, hnewr_23, hr_24, hnewr_24, -⟩ := hRu_22
        replace hr_23 := (RowOf.base (RowOf.const (H2 := New H H_19) R_Ptr.const hr_23) (fun p hp => (hfu_22 p (mem_seg 0 rfl hp)).resolve_left (hnewr_23 p hp)))
        replace hr_24 := (RowOf.base (RowOf.const (H2 := New H H_19) R_Ptr.const hr_24) (fun p hp => (hfu_22 p (mem_seg 1 rfl hp)).resolve_left (hnewr_24 p hp)))
        refine JL.val rfl rfl (R.move rfl) ?_
        refine JL.val rfl rfl (R.extract rfl rfl) ?_
        refine JL.val rfl rfl (R.extract rfl rfl) ?_
        refine JL.val rfl rfl (R.extract rfl rfl) ?_
        refine JL.val rfl rfl (R.assign rfl) ?_
        refine JL.val rfl rfl (R.assign rfl) ?_
        refine JL.val rfl rfl (R.assign rfl) ?_
        refine JL.nil ?_
        refine JN.next ?_
        refine JC.seq ?_
        refine JC.region ?_
        refine JL.val rfl rfl (R.move rfl) ?_
        refine JL.val rfl rfl (R.move rfl) ?_
        obtain ⟨x_25, hr_26, hx⟩ := bnd_some hx
        refine JL.callC (vs := [_, _]) (args := [_, _]) (K := []) (rst := [_, _, _]) E13 rfl rfl rfl picks0 (dead_Split_ok p_1 p_4 _ (ha_2.mono R_Ptr.mono (hleu_7.trans hleH_19)) _ hr_26) rfl (fun u_27 Ku_27 Hu_27 hRu_27 hleu_27 hfu_27 => ?_)
        obtain ⟨aor_28, nr_28, capr_28, Kr_28, aor_29, nr_29, capr_29, Kr_29, rfl, rfl, rfl, hr_28, hnewr_28, hr_29, hnewr_29, -⟩ := hRu_27
        replace hr_28 := (RowOf.base (RowOf.const (H2 := New H H_19) R_Ptr.const hr_28) (fun p hp => (hfu_27 p (mem_seg 0 rfl hp)).resolve_left (hnewr_28 p hp)))
        replace hr_29 := (RowOf.base (RowOf.const (H2 := New H H_19) R_Ptr.const hr_29) (fun p hp => (hfu_27 p (mem_seg 1 rfl hp)).resolve_left (hnewr_29 p hp)))
        refine JL.val rfl rfl (R.move rfl) ?_
        refine JL.val rfl rfl (R.extract rfl rfl) ?_
        refine JL.val rfl rfl (R.extract rfl rfl) ?_
        refine JL.val rfl rfl (R.extract rfl rfl) ?_
        refine JL.val rfl rfl (R.assign rfl) ?_
        refine JL.val rfl rfl (R.assign rfl) ?_
        refine JL.val rfl rfl (R.assign rfl) ?_
        refine JL.nil ?_
        refine JN.next ?_
        refine JC.seq ?_
        refine JC.region ?_
        refine JL.val rfl rfl (R.move rfl) ?_
        refine JL.val rfl rfl (R.move rfl) ?_
        refine JL.pubN 0 R_Ptr.mono rfl hr_28 (Nat.le_refl _) (fun H_30 hleH_30 hsH_30 => ?_)
        refine JL.forget 0 ?_
        obtain ⟨x_31, hr_32, hx⟩ := bnd_some hx
        refine JL.callC (vs := [_, _]) (args := [_, _]) (K := []) (rst := [_, _, _, _]) E13 rfl rfl rfl picks0 (dead_Split_ok x_25.1 p_3 _ (hsH_30.old R_Ptr.mono) _ hr_32) rfl (fun u_33 Ku_33 Hu_33 hRu_33 hleu_33 hfu_33 => ?_)
        obtain ⟨aor_34, nr_34, capr_34, Kr_34, aor_35, nr_35, capr_35, Kr_35, rfl, rfl, rfl, hr_34, hnewr_34, hr_35, hnewr_35, -⟩ := hRu_33
        replace hr_34 := (RowOf.base (RowOf.const (H2 := New H H_30) R_Ptr.const hr_34) (fun p hp => (hfu_33 p (mem_seg 0 rfl hp)).resolve_left (hnewr_34 p hp)))
        replace hr_35 := (RowOf.base (RowOf.const (H2 := New H H_30) R_Ptr.const hr_35) (fun p hp => (hfu_33 p (mem_seg 1 rfl hp)).resolve_left (hnewr_35 p hp)))
        refine JL.val rfl rfl (R.move rfl) ?_
        refine JL.val rfl rfl (R.extract rfl rfl) ?_
        refine JL.val rfl rfl (R.extract rfl rfl) ?_
        refine JL.val rfl rfl (R.extract rfl rfl) ?_
        refine JL.val rfl rfl (R.assign rfl) ?_
        refine JL.val rfl rfl (R.assign rfl) ?_
        refine JL.val rfl rfl (R.assign rfl) ?_
        refine JL.nil ?_
        refine JN.next ?_
        refine JC.seq ?_
        refine JC.seq ?_
        refine JC.region ?_
        refine JL.val rfl rfl (R.move rfl) ?_
        refine JL.val rfl rfl (R.neq_i rfl rfl) ?_
        refine JL.val rfl rfl (R.move rfl) ?_
        refine JL.gSplit (t := 69) rfl (fun c_36 => ?_) (fun c_36 => ?_)
        · replace hx := cond_t c_36 hx
          refine JL.gNo rfl rfl rfl rfl rfl ?_
          refine JL.gNo rfl rfl rfl rfl rfl ?_
          refine JL.val rfl rfl (R.pickT rfl rfl) ?_
          refine JL.val rfl rfl (R.move rfl) ?_
          refine JL.gNo rfl rfl rfl rfl rfl ?_
          refine JL.gNo rfl rfl rfl rfl rfl ?_
          refine JL.val rfl rfl (R.pickT rfl rfl) ?_
          refine JL.val rfl rfl (R.move rfl) ?_
          refine JL.gNo rfl rfl rfl rfl rfl ?_
          refine JL.gNo rfl rfl rfl rfl rfl ?_
          refine JL.val rfl rfl (R.pickT rfl rfl) ?_
          refine JL.val rfl rfl (R.move rfl) ?_
          refine JL.gNo rfl rfl rfl rfl rfl ?_
          refine JL.gNo rfl rfl rfl rfl rfl ?_
          refine JL.gNo rfl rfl rfl rfl rfl ?_
          refine JL.gNo rfl rfl rfl rfl rfl ?_
          refine JL.val rfl rfl (R.pickT rfl rfl) ?_
          refine JL.val rfl rfl (R.move rfl) ?_
          refine JL.gNo rfl rfl rfl rfl rfl ?_
          refine JL.gNo rfl rfl rfl rfl rfl ?_
          refine JL.gNo rfl rfl rfl rfl rfl ?_
          refine JL.gNo rfl rfl rfl rfl rfl ?_
          refine JL.val rfl rfl (R.pickT rfl rfl) ?_
          refine JL.val rfl rfl (R.move rfl) ?_
          refine JL.gNo rfl rfl rfl rfl rfl ?_
          refine JL.gNo rfl rfl rfl rfl rfl ?_
          refine JL.gNo rfl rfl rfl rfl rfl ?_
          refine JL.gNo rfl rfl rfl rfl rfl ?_
          refine JL.val rfl rfl (R.pickT rfl rfl) ?_
          refine JL.nil ?_
          refine JN.next ?_
          refine JC.condT rfl ?_
          refine JC.seq ?_
          refine JC.region ?_
          refine JL.val rfl rfl (R.assign rfl) ?_
          refine JL.nil ?_
          refine JN.next ?_
          refine JC.ret ?_
          refine JN.passR ?_
          refine JN.outP (vs := [.bool false]) (K := []) (rst := [_, _, _, _, _, _]) (.inl rfl) rfl rfl (Res.tmp rfl rfl) picks0 ?_
          obtain rfl := Option.some.inj hx
          exact ⟨rfl, rfl, trivial⟩
        · replace hx := cond_f c_36 hx
          refine JL.gYes rfl rfl rfl ?_
          refine JL.val rfl rfl (R.move rfl) ?_
          refine JL.gYes rfl rfl rfl ?_
          refine JL.val rfl rfl (R.neq_i rfl rfl) ?_
          refine JL.val rfl rfl (R.pickF rfl rfl) ?_
          refine JL.val rfl rfl (R.move rfl) ?_
          refine JL.gSplit (t := 73) rfl (fun c_37 => ?_) (fun c_37 => ?_)
          · replace hx := cond_t c_37 hx
            refine JL.gNo rfl rfl rfl rfl rfl ?_
            refine JL.gNo rfl rfl rfl rfl rfl ?_
            refine JL.val rfl rfl (R.pickT rfl rfl) ?_
            refine JL.val rfl rfl (R.move rfl) ?_
            refine JL.gNo rfl rfl rfl rfl rfl ?_
            refine JL.gNo rfl rfl rfl rfl rfl ?_
            refine JL.val rfl rfl (R.pickT rfl rfl) ?_
            refine JL.val rfl rfl (R.move rfl) ?_
            refine JL.gNo rfl rfl rfl rfl rfl ?_
            refine JL.gNo rfl rfl rfl rfl rfl ?_
            refine JL.gNo rfl rfl rfl rfl rfl ?_
            refine JL.gNo rfl rfl rfl rfl rfl ?_
            refine JL.val rfl rfl (R.pickT rfl rfl) ?_
            refine JL.val rfl rfl (R.move rfl) ?_
            refine JL.gNo rfl rfl rfl rfl rfl ?_
            refine JL.gNo rfl rfl rfl rfl rfl ?_
            refine JL.gNo rfl rfl rfl rfl rfl ?_
            refine JL.gNo rfl rfl rfl rfl rfl ?_
            refine JL.val rfl rfl (R.pickT rfl rfl) ?_
            refine JL.val rfl rfl (R.move rfl) ?_
            refine JL.gNo rfl rfl rfl rfl rfl ?_
            refine JL.gNo rfl rfl rfl rfl rfl ?_
            refine JL.gNo rfl rfl rfl rfl rfl ?_
            refine JL.gNo rfl rfl rfl rfl rfl ?_
            refine JL.val rfl rfl (R.pickT rfl rfl) ?_
            refine JL.nil ?_
            refine JN.next ?_
            refine JC.condT rfl ?_
            refine JC.seq ?_
            refine JC.region ?_
            refine JL.val rfl rfl (R.assign rfl) ?_
            refine JL.nil ?_
            refine JN.next ?_
            refine JC.ret ?_
            refine JN.passR ?_
            refine JN.outP (vs := [.bool false]) (K := []) (rst := [_, _, _, _, _, _]) (.inl rfl) rfl rfl (Res.tmp rfl rfl) picks0 ?_
            obtain rfl := Option.some.inj hx
            exact ⟨rfl, rfl, trivial⟩
          · replace hx := cond_f c_37 hx
            refine JL.gYes rfl rfl rfl ?_
            refine JL.val rfl rfl (R.move rfl) ?_
            refine JL.gYes rfl rfl rfl ?_
            refine JL.val rfl rfl (R.neq_i rfl rfl) ?_
            refine JL.val rfl rfl (R.pickF rfl rfl) ?_
            refine JL.val rfl rfl (R.move rfl) ?_
            refine JL.gSplit (t := 77) rfl (fun c_38 => ?_) (fun c_38 => ?_)
            · replace hx := cond_t c_38 hx
              refine JL.gNo rfl rfl rfl rfl rfl ?_
              refine JL.gNo rfl rfl rfl rfl rfl ?_
              refine JL.val rfl rfl (R.pickT rfl rfl) ?_
              refine JL.val rfl rfl (R.move rfl) ?_
              refine JL.gNo rfl rfl rfl rfl rfl ?_
              refine JL.gNo rfl rfl rfl rfl rfl ?_
              refine JL.gNo rfl rfl rfl rfl rfl ?_
              refine JL.gNo rfl rfl rfl rfl rfl ?_
              refine JL.val rfl rfl (R.pickT rfl rfl) ?_
              refine JL.val rfl rfl (R.move rfl) ?_
              refine JL.gNo rfl rfl rfl rfl rfl ?_
              refine JL.gNo rfl rfl rfl rfl rfl ?_
              refine JL.gNo rfl rfl rfl rfl rfl ?_
              refine JL.gNo rfl rfl rfl rfl rfl ?_
              refine JL.val rfl rfl (R.pickT rfl rfl) ?_
              refine JL.val rfl rfl (R.move rfl) ?_
              refine JL.gNo rfl rfl rfl rfl rfl ?_
              refine JL.gNo rfl rfl rfl rfl rfl ?_
              refine JL.gNo rfl rfl rfl rfl rfl ?_
              refine JL.gNo rfl rfl rfl rfl rfl ?_
              refine JL.val rfl rfl (R.pickT rfl rfl) ?_
              refine JL.nil ?_
              refine JN.next ?_
              refine JC.condT rfl ?_
              refine JC.seq ?_
              refine JC.region ?_
              refine JL.val rfl rfl (R.assign rfl) ?_
              refine JL.nil ?_
              refine JN.next ?_
              refine JC.ret ?_
              refine JN.passR ?_
              refine JN.outP (vs := [.bool false]) (K := []) (rst := [_, _, _, _, _, _]) (.inl rfl) rfl rfl (Res.tmp rfl rfl) picks0 ?_
              obtain rfl := Option.some.inj hx
              exact ⟨rfl, rfl, trivial⟩
            · replace hx := cond_f c_38 hx
              refine JL.gYes rfl rfl rfl ?_
              refine JL.val rfl rfl (R.move rfl) ?_
              refine JL.gYes rfl rfl rfl ?_
              refine JL.val rfl rfl (R.neq_i rfl rfl) ?_
              refine JL.val rfl rfl (R.pickF rfl rfl) ?_
              refine JL.val rfl rfl (R.move rfl) ?_
              refine JL.gSplit (t := 81) rfl (fun c_39 => ?_) (fun c_39 => ?_)
              · replace hx := cond_t c_39 hx
                refine JL.gNo rfl rfl rfl rfl rfl ?_
                refine JL.gNo rfl rfl rfl rfl rfl ?_
                refine JL.gNo rfl rfl rfl rfl rfl ?_
                refine JL.gNo rfl rfl rfl rfl rfl ?_
                refine JL.val rfl rfl (R.pickT rfl rfl) ?_
                refine JL.val rfl rfl (R.move rfl) ?_
                refine JL.gNo rfl rfl rfl rfl rfl ?_
                refine JL.gNo rfl rfl rfl rfl rfl ?_
                refine JL.gNo rfl rfl rfl rfl rfl ?_
                refine JL.gNo rfl rfl rfl rfl rfl ?_
                refine JL.val rfl rfl (R.pickT rfl rfl) ?_
                refine JL.val rfl rfl (R.move rfl) ?_
                refine JL.gNo rfl rfl rfl rfl rfl ?_
                refine JL.gNo rfl rfl rfl rfl rfl ?_
                refine JL.gNo rfl rfl rfl rfl rfl ?_
                refine JL.gNo rfl rfl rfl rfl rfl ?_
                refine JL.val rfl rfl (R.pickT rfl rfl) ?_
                refine JL.nil ?_
                refine JN.next ?_
                refine JC.condT rfl ?_
                refine JC.seq ?_
                refine JC.region ?_
                refine JL.val rfl rfl (R.assign rfl) ?_
                refine JL.nil ?_
                refine JN.next ?_
                refine JC.ret ?_
                refine JN.passR ?_
                refine JN.outP (vs := [.bool false]) (K := []) (rst := [_, _, _, _, _, _]) (.inl rfl) rfl rfl (Res.tmp rfl rfl) picks0 ?_
                obtain rfl := Option.some.inj hx
                exact ⟨rfl, rfl, trivial⟩
              · replace hx := cond_f c_39 hx
                refine JL.gYes rfl rfl rfl ?_
                refine JL.val rfl rfl (R.move rfl) ?_
                refine JL.gYes rfl rfl rfl ?_
                refine JL.val rfl rfl (R.move rfl) ?_
                refine JL.gYes rfl rfl rfl ?_
                refine JL.pubN 5 R_Ptr.mono rfl (hr_17.mono R_Ptr.mono (New.mono (hleH_19.trans hleH_30))) (Nat.le_refl _) (fun H_40 hleH_40 hsH_40 => ?_)
                refine JL.forget 5 ?_
                refine JL.pubN 0 R_Ptr.mono rfl (hr_34.mono R_Ptr.mono (New.mono hleH_40)) (Nat.le_refl _) (fun H_41 hleH_41 hsH_41 => ?_)
                refine JL.forget 0 ?_
                obtain ⟨x_42, hr_43, hx⟩ := bnd_some hx
                refine JL.callC (vs := [_, _]) (args := [_, _]) (K := []) (rst := [_, _, _, _]) E9 rfl rfl rfl picks0 (law16_same_ok x_14.1 x_31.1 _ ((hsH_40.mono R_Ptr.mono (New.mono hleH_41)).old R_Ptr.mono) (hsH_41.old R_Ptr.mono) _ hr_43) rfl (fun u_44 Ku_44 Hu_44 hRu_44 hleu_44 hfu_44 => ?_)
                obtain ⟨rfl, rfl, rfl, -⟩ := hRu_44
                refine JL.gYes rfl rfl rfl ?_
                refine JL.val rfl rfl (R.not rfl) ?_
                refine JL.val rfl rfl (R.pickF rfl rfl) ?_
                refine JL.val rfl rfl (R.move rfl) ?_
                refine JL.gSplit (t := 87) rfl (fun c_45 => ?_) (fun c_45 => ?_)
                · replace hx := cond_t c_45 hx
                  refine JL.gNo rfl rfl rfl rfl rfl ?_
                  refine JL.gNo rfl rfl rfl rfl rfl ?_
                  refine JL.gNo rfl rfl rfl rfl rfl ?_
                  refine JL.gNo rfl rfl rfl rfl rfl ?_
                  refine JL.val rfl rfl (R.pickT rfl rfl) ?_
                  refine JL.val rfl rfl (R.move rfl) ?_
                  refine JL.gNo rfl rfl rfl rfl rfl ?_
                  refine JL.gNo rfl rfl rfl rfl rfl ?_
                  refine JL.gNo rfl rfl rfl rfl rfl ?_
                  refine JL.gNo rfl rfl rfl rfl rfl ?_
                  refine JL.val rfl rfl (R.pickT rfl rfl) ?_
                  refine JL.nil ?_
                  refine JN.next ?_
                  refine JC.condT rfl ?_
                  refine JC.seq ?_
                  refine JC.region ?_
                  refine JL.val rfl rfl (R.assign rfl) ?_
                  refine JL.nil ?_
                  refine JN.next ?_
                  refine JC.ret ?_
                  refine JN.passR ?_
                  refine JN.outP (vs := [.bool false]) (K := []) (rst := [_, _, _, _]) (.inl rfl) rfl rfl (Res.tmp rfl rfl) picks0 ?_
                  obtain rfl := Option.some.inj hx
                  exact ⟨rfl, rfl, trivial⟩
                · replace hx := cond_f c_45 hx
                  refine JL.gYes rfl rfl rfl ?_
                  refine JL.val rfl rfl (R.move rfl) ?_
                  refine JL.gYes rfl rfl rfl ?_
                  refine JL.val rfl rfl (R.move rfl) ?_
                  refine JL.gYes rfl rfl rfl ?_
                  refine JL.pubN 2 R_Ptr.mono rfl (hr_23.mono R_Ptr.mono (New.mono (hleH_30.trans (hleH_40.trans hleH_41)))) (Nat.le_refl _) (fun H_46 hleH_46 hsH_46 => ?_)
                  refine JL.forget 2 ?_
                  refine JL.pubN 0 R_Ptr.mono rfl (hr_35.mono R_Ptr.mono (New.mono (hleH_40.trans (hleH_41.trans hleH_46)))) (Nat.le_refl _) (fun H_47 hleH_47 hsH_47 => ?_)
                  refine JL.forget 0 ?_
                  obtain ⟨x_48, hr_49, hx⟩ := bnd_some hx
                  refine JL.callC (vs := [_, _]) (args := [_, _]) (K := []) (rst := [_, _]) E9 rfl rfl rfl picks0 (law16_same_ok x_20.1 x_31.2.1 _ ((hsH_46.mono R_Ptr.mono (New.mono hleH_47)).old R_Ptr.mono) (hsH_47.old R_Ptr.mono) _ hr_49) rfl (fun u_50 Ku_50 Hu_50 hRu_50 hleu_50 hfu_50 => ?_)
                  obtain ⟨rfl, rfl, rfl, -⟩ := hRu_50
                  refine JL.gYes rfl rfl rfl ?_
                  refine JL.val rfl rfl (R.not rfl) ?_
                  refine JL.val rfl rfl (R.pickF rfl rfl) ?_
                  refine JL.val rfl rfl (R.move rfl) ?_
                  refine JL.gSplit (t := 93) rfl (fun c_51 => ?_) (fun c_51 => ?_)
                  · replace hx := cond_t c_51 hx
                    refine JL.gNo rfl rfl rfl rfl rfl ?_
                    refine JL.gNo rfl rfl rfl rfl rfl ?_
                    refine JL.gNo rfl rfl rfl rfl rfl ?_
                    refine JL.gNo rfl rfl rfl rfl rfl ?_
                    refine JL.val rfl rfl (R.pickT rfl rfl) ?_
                    refine JL.nil ?_
                    refine JN.next ?_
                    refine JC.condT rfl ?_
                    refine JC.seq ?_
                    refine JC.region ?_
                    refine JL.val rfl rfl (R.assign rfl) ?_
                    refine JL.nil ?_
                    refine JN.next ?_
                    refine JC.ret ?_
                    refine JN.passR ?_
                    refine JN.outP (vs := [.bool false]) (K := []) (rst := [_, _]) (.inl rfl) rfl rfl (Res.tmp rfl rfl) picks0 ?_
                    obtain rfl := Option.some.inj hx
                    exact ⟨rfl, rfl, trivial⟩
                  · replace hx := cond_f c_51 hx
                    refine JL.gYes rfl rfl rfl ?_
                    refine JL.val rfl rfl (R.move rfl) ?_
                    refine JL.gYes rfl rfl rfl ?_
                    refine JL.val rfl rfl (R.move rfl) ?_
                    refine JL.gYes rfl rfl rfl ?_
                    refine JL.pubN 1 R_Ptr.mono rfl (hr_24.mono R_Ptr.mono (New.mono (hleH_30.trans (hleH_40.trans (hleH_41.trans (hleH_46.trans hleH_47)))))) (Nat.le_refl _) (fun H_52 hleH_52 hsH_52 => ?_)
                    refine JL.forget 1 ?_
                    refine JL.pubN 0 R_Ptr.mono rfl (hr_29.mono R_Ptr.mono (New.mono (hleH_30.trans (hleH_40.trans (hleH_41.trans (hleH_46.trans (hleH_47.trans hleH_52))))))) (Nat.le_refl _) (fun H_53 hleH_53 hsH_53 => ?_)
                    refine JL.forget 0 ?_
                    obtain ⟨x_54, hr_55, hx⟩ := bnd_some hx
                    refine JL.callC (vs := [_, _]) (args := [_, _]) (K := []) (rst := []) E9 rfl rfl rfl picks0 (law16_same_ok x_20.2.1 x_25.2.1 _ ((hsH_52.mono R_Ptr.mono (New.mono hleH_53)).old R_Ptr.mono) (hsH_53.old R_Ptr.mono) _ hr_55) rfl (fun u_56 Ku_56 Hu_56 hRu_56 hleu_56 hfu_56 => ?_)
                    obtain ⟨rfl, rfl, rfl, -⟩ := hRu_56
                    refine JL.gYes rfl rfl rfl ?_
                    refine JL.val rfl rfl (R.not rfl) ?_
                    refine JL.val rfl rfl (R.pickF rfl rfl) ?_
                    refine JL.nil ?_
                    refine JN.next ?_
                    refine JC.condB rfl (fun c_57 => ?_) (fun c_57 => ?_)
                    · replace hx := cond_t c_57 hx
                      refine JC.seq ?_
                      refine JC.region ?_
                      refine JL.val rfl rfl (R.assign rfl) ?_
                      refine JL.nil ?_
                      refine JN.next ?_
                      refine JC.ret ?_
                      refine JN.passR ?_
                      refine JN.outP (vs := [.bool false]) (K := []) (rst := []) (.inl rfl) rfl rfl (Res.tmp rfl rfl) picks0 ?_
                      obtain rfl := Option.some.inj hx
                      exact ⟨rfl, rfl, trivial⟩
                    · replace hx := cond_f c_57 hx
                      refine JC.skip ?_
                      refine JN.next ?_
                      refine JC.seq ?_
                      refine JC.region ?_
                      refine JL.val rfl rfl (R.assign rfl) ?_
                      refine JL.nil ?_
                      refine JN.next ?_
                      refine JC.seq ?_
                      refine JC.seq ?_
                      refine JC.region ?_
                      refine JL.val rfl rfl (R.move rfl) ?_
                      refine JL.val rfl rfl (R.lenL U22 rfl (IsSlice.long ha_2)) ?_
                      refine JL.val rfl rfl (R.sub_i rfl rfl) ?_
                      refine JL.val rfl rfl (R.assign rfl) ?_
                      refine JL.nil ?_
                      refine JN.next ?_
                      obtain ⟨t_58, ht_60, hx⟩ := bnd_some hx
                      refine JC.cut (fun l o g => ∃ t_58a : List Ptr, ∃ H_66 : Heaplet, ∃ aoz_67 : Option Addr, ∃ nz_67 : Nat, ∃ capz_67 : Nat, l = [(0, .slice aoa_2 na_2 capa_2), (7, .bool x_5), (20, .slice aoz_67 nz_67 capz_67)] ∧ o = [] ∧ H_66 = g ∧ t_58 = .inl t_58a ∧ Hle H_53 H_66 ∧ IsSlice (New H H_66) R_Ptr 5 (.slice aoz_67 nz_67 capz_67) t_58a) ?_ ?_
                      · rintro _ _ _ ⟨t_58a, H_66, aoz_67, nz_67, capz_67, rfl, rfl, rfl, rfl, hleH_66, hz_67⟩
                        simp only [Sum.elim_inl] at hx
                        refine JN.next ?_
                        refine JC.seq ?_
                        obtain ⟨t_69, ht_71, hx⟩ := bnd_some hx
                        refine JC.cut (fun l o g => l = [(6, .bool t_69)] ∧ o = [] ∧ H_66 = g) ?_ ?_
                        · rintro _ _ _ ⟨rfl, rfl, rfl⟩
                          refine JN.next ?_
                          refine JC.ret ?_
                          refine JN.outP (vs := [.bool t_69]) (K := []) (rst := []) (.inl rfl) rfl rfl (Res.tmp rfl rfl) picks0 ?_
                          obtain rfl := Option.some.inj hx
                          exact ⟨rfl, rfl, trivial⟩
                        · have hxo_70 := hx; clear hx; have hx := ht_71; clear ht_71
                          refine JC.region ?_
                          refine JL.val rfl rfl (R.move rfl) ?_
                          refine JL.val rfl rfl (R.move rfl) ?_
                          refine JL.gSplit (t := 119) rfl (fun c_72 => ?_) (fun c_72 => ?_)
                          · replace hx := cond_t c_72 hx
                            refine JL.gYes rfl rfl rfl ?_
                            refine JL.val rfl rfl (R.move rfl) ?_
                            refine JL.gYes rfl rfl rfl ?_
                            refine JL.val rfl rfl (R.move rfl) ?_
                            refine JL.gYes rfl rfl rfl ?_
                            obtain ⟨x_73, hr_74, hx⟩ := bnd_some hx
                            refine JL.callC (vs := [_, _]) (args := [_, _]) (K := []) (rst := []) E9 rfl rfl rfl picks0 (law16_same_ok t_58a p_1 _ (hz_67.old R_Ptr.mono) (ha_2.mono R_Ptr.mono (hleu_7.trans (hleH_19.trans (hleH_30.trans (hleH_40.trans (hleH_41.trans (hleH_46.trans (hleH_47.trans (hleH_52.trans (hleH_53.trans hleH_66)))))))))) _ hr_74) rfl (fun u_75 Ku_75 Hu_75 hRu_75 hleu_75 hfu_75 => ?_)
                            obtain ⟨rfl, rfl, rfl, -⟩ := hRu_75
                            refine JL.val rfl rfl (R.pickT rfl rfl) ?_
                            refine JL.val rfl rfl (R.assign rfl) ?_
                            refine JL.nil ?_
                            obtain rfl := Option.some.inj hx
                            exact JN.cut ⟨rfl, rfl, rfl⟩ ⟨rfl, trivial⟩ rfl rfl
                          · replace hx := cond_f c_72 hx
                            refine JL.gNo rfl rfl rfl rfl rfl ?_
                            refine JL.gNo rfl rfl rfl rfl rfl ?_
                            refine JL.gNo rfl rfl rfl rfl rfl ?_
                            refine JL.val rfl rfl (R.pickF rfl rfl) ?_
                            refine JL.val rfl rfl (R.assign rfl) ?_
                            refine JL.nil ?_
                            obtain rfl := Option.some.inj hx
                            exact JN.cut ⟨rfl, rfl, rfl⟩ ⟨rfl, trivial⟩ rfl rfl
                      · have hxo_59 := hx; clear hx; have hx := ht_60; clear ht_60
                        refine JC.block ?_
                        refine JC.loopI (fun n l o g => ∃ s_61 : List Ptr × Int, ∃ H_64 : Heaplet, ∃ aoz_65 : Option Addr, ∃ nz_65 : Nat, ∃ capz_65 : Nat, l = [(0, .slice aoa_2 na_2 capa_2), (7, .bool x_5), (20, .slice aoz_65 nz_65 capz_65), (21, .int .i64 s_61.2)] ∧ o = [] ∧ H_64 = g ∧ run (law16_DeadSyncs_l1 p_1) n s_61 = some t_58 ∧ Hle H_53 H_64 ∧ IsSlice (New H H_64) R_Ptr 5 (.slice aoz_65 nz_65 capz_65) s_61.1) FUEL ?_ ⟨(([] : List Ptr), w64 ((p_1.length : Int) - 1)), H_53, none, 0, 0, rfl, rfl, rfl, hx, (Hle.refl _), (IsSlice.nil _ _ _)⟩ ⟨rfl, rfl, rfl, rfl, trivial⟩ ?_
                        · rintro _ _ _ ⟨s_61, H_64, aoz_65, nz_65, capz_65, rfl, rfl, rfl, hn_62, hleH_64, hz_65⟩
                          exact run_zero hn_62
                        · rintro n_63 _ _ _ ⟨s_61, H_64, aoz_65, nz_65, capz_65, rfl, rfl, rfl, hn_62, hleH_64, hz_65⟩
                          clear hx; obtain ⟨oo_67, hx, hd_66⟩ := run_some hn_62
                          rw [law16_DeadSyncs_l1.eq_1] at hx
                          refine JC.seq ?_
                          refine JC.seq ?_
                          refine JC.region ?_
                          refine JL.val rfl rfl (R.move rfl) ?_
                          refine JL.val rfl rfl (R.geq_i rfl rfl) ?_
                          refine JL.nil ?_
                          refine JN.next ?_
                          refine JC.condB rfl (fun c_66 => ?_) (fun c_66 => ?_)
                          · replace hx := cond_t c_66 hx
                            refine JC.skip ?_
                            refine JN.next ?_
                            refine JC.seq ?_
                            refine JC.block ?_
                            refine JC.seq ?_
                            refine JC.region ?_
                            refine JL.val rfl rfl (R.move rfl) ?_
                            refine JL.val rfl rfl (R.move rfl) ?_
                            refine JL.val rfl rfl (R.move rfl) ?_
                            obtain ⟨y_67, hN_68, hx⟩ := idx_some hx
                            obtain ⟨b_69, o_70, cs_71, hE_72, hR_73, hl_74, hc_75⟩ := IsSlice.elem (ha_2.mono R_Ptr.mono (hleu_7.trans (hleH_19.trans (hleH_30.trans (hleH_40.trans (hleH_41.trans (hleH_46.trans (hleH_47.trans (hleH_52.trans (hleH_53.trans hleH_64)))))))))) hN_68
                            obtain rfl := hR_73
                            refine JL.val rfl rfl (R.ix U22 S32 rfl rfl hE_72) ?_
                            refine JL.val rfl rfl (R.ldHE (cs := [.int .i64 y_67.At, .int .u32 (y_67.Birth.toNat : Int), .int .u32 (y_67.Iv.toNat : Int), .int .u32 (y_67.Tag.toNat : Int), .int .u32 (y_67.Sum.toNat : Int)]) (k := 0) (vs := [.int .i64 y_67.At, .int .u32 (y_67.Birth.toNat : Int), .int .u32 (y_67.Iv.toNat : Int), .int .u32 (y_67.Tag.toNat : Int), .int .u32 (y_67.Sum.toNat : Int)]) S32 rfl hc_75 rfl rfl) ?_
                            obtain ⟨x_76, hr_77, hx⟩ := bnd_some hx
                            refine JL.callC (vs := [_, _]) (args := [_, _]) (K := []) (rst := []) E11 rfl rfl rfl picks0 (dead_Add_ok s_61.1 y_67 _ (hz_65.old R_Ptr.mono) _ hr_77) rfl (fun u_78 Ku_78 Hu_78 hRu_78 hleu_78 hfu_78 => ?_)
                            obtain ⟨aoz_79, nz_79, capz_79, rfl, rfl, hz_79, -⟩ := hRu_78
                            replace hz_79 := IsSlice.mono R_Ptr.mono (New.call (hleu_7.trans (hleH_19.trans (hleH_30.trans (hleH_40.trans (hleH_41.trans (hleH_46.trans (hleH_47.trans (hleH_52.trans (hleH_53.trans hleH_64)))))))))) hz_79
                            refine JL.val rfl rfl (R.move rfl) ?_
                            refine JL.val rfl rfl (R.extract rfl rfl) ?_
                            refine JL.val rfl rfl (R.extract rfl rfl) ?_
                            refine JL.val rfl rfl (R.assign rfl) ?_
                            refine JL.val rfl rfl (R.assign rfl) ?_
                            refine JL.nil ?_
                            refine JN.next ?_
                            refine JC.seq ?_
                            refine JC.seq ?_
                            refine JC.region ?_
                            refine JL.val rfl rfl (R.move rfl) ?_
                            refine JL.val rfl rfl (R.neq_i rfl rfl) ?_
                            refine JL.nil ?_
                            refine JN.next ?_
                            refine JC.condB rfl (fun c_80 => ?_) (fun c_80 => ?_)
                            · replace hx := cond_t c_80 hx
                              refine JC.seq ?_
                              refine JC.region ?_
                              refine JL.val rfl rfl (R.assign rfl) ?_
                              refine JL.nil ?_
                              refine JN.next ?_
                              refine JC.ret ?_
                              refine JN.passR ?_
                              refine JN.blkR ?_
                              refine JN.passR ?_
                              obtain rfl := run_done hd_66 hx
                              refine JN.passR ?_
                              refine JN.blkR ?_
                              clear hx; have hx := hxo_59
                              simp only [Sum.elim_inl, Sum.elim_inr] at hx
                              refine JN.passR ?_
                              refine JN.passR ?_
                              refine JN.outP (vs := [.bool false]) (K := []) (rst := []) (.inl rfl) rfl rfl (Res.tmp rfl rfl) picks0 ?_
                              obtain rfl := Option.some.inj hx
                              exact ⟨rfl, rfl, trivial⟩
                            · replace hx := cond_f c_80 hx
                              refine JC.skip ?_
                              refine JN.next ?_
                              refine JC.region ?_
                              refine JL.val rfl rfl (R.move rfl) ?_
                              refine JL.val rfl rfl (R.assign rfl) ?_
                              refine JL.nil ?_
                              refine JN.blkN ?_
                              refine JN.next ?_
                              refine JC.region ?_
                              refine JL.val rfl rfl (R.move rfl) ?_
                              refine JL.val rfl rfl (R.sub_i rfl rfl) ?_
                              refine JL.val rfl rfl (R.assign rfl) ?_
                              refine JL.nil ?_
                              replace hx := run_next hd_66 hx
                              exact JN.cut ⟨(x_76.1, w64 (s_61.2 - 1)), Hu_78, aoz_79, nz_79, capz_79, rfl, rfl, rfl, hx, ((hleH_64.trans hleu_78)), hz_79⟩ ⟨rfl, rfl, rfl, rfl, trivial⟩ rfl rfl
                          · replace hx := cond_f c_66 hx
                            refine JC.exit ?_
                            refine JN.passX ?_
                            obtain rfl := run_done hd_66 hx
                            refine JN.passX ?_
                            refine JN.exitSame ?_
                            exact JN.cut ⟨s_61.1, H_64, aoz_65, nz_65, capz_65, rfl, rfl, rfl, rfl, (hleH_64), hz_65⟩ ⟨rfl, rfl, rfl, trivial⟩ rfl rfl
end Go.Proofs.Ytbdmdhfphnklbaa
