/- walks: what the code computes, function by function. -/
import Derived.Test.YtbdmdhfphnklbaaT2
import Derived.Test.YtbdmdhfphnklbaaOwPdead
import Derived.Test.YtbdmdhfphnklbaaOwSo
import Derived.Test.YtbdmdhfphnklbaaS4
import Derived.Test.YtbdmdhfphnklbaaOwPdeadq
namespace Go.Proofs.Ytbdmdhfphnklbaa
open Go.Ow Go.RowKit Go.Proofs
set_option linter.unusedVariables false
set_option linter.unusedSimpArgs false
set_option maxHeartbeats 1000000 in
theorem law16_at_ok (p_1 : Int) (p_2 : UInt32) (H : Heaplet) (r : Ptr) (hx : law16_at p_1 p_2 = some r) :
    Does Try.prog 19 #[.int .i64 p_1, .int .u32 (p_2.toNat : Int)] [] H (fun u K' H' => u = .agg #[.int .i64 r.At, .int .u32 (r.Birth.toNat : Int), .int .u32 (r.Iv.toNat : Int), .int .u32 (r.Tag.toNat : Int), .int .u32 (r.Sum.toNat : Int)] ∧ K' = [] ∧ H = H' ∧ True) := by
  refine Does.enterL (vs := [.int .i64 p_1, .int .u32 (p_2.toNat : Int)]) (l := [(0, .int .i64 p_1), (1, .int .u32 (p_2.toNat : Int))]) Try.func19 rfl rfl ⟨rfl, rfl, trivial⟩ (fun w hlt => ?_)
  rw [law16_at.eq_1] at hx
  refine JC.seq ?_
  refine JC.region ?_
  refine JL.alloc Z32 rfl (fun b_3 hb_3 => ?_)
  refine JL.nil ?_
  refine JN.next ?_
  refine JC.seq ?_
  refine JC.region ?_
  refine JL.val rfl rfl (R.move rfl) ?_
  refine JL.val rfl rfl (R.move rfl) ?_
  refine JL.val rfl rfl (R.bldP (vs := [(0, .int .i64 p_1), (1, .int .u32 (p_2.toNat : Int))]) (cs := [.int .i64 p_1, .int .u32 (p_2.toNat : Int), .int .u32 ((0 : UInt32).toNat : Int), .int .u32 ((0 : UInt32).toNat : Int), .int .u32 ((0 : UInt32).toNat : Int)]) Z32 B32 rfl rfl rfl) ?_
  refine JL.store 0 S32 rfl rfl rfl rfl rfl (Nat.le_of_ble_eq_true rfl) ?_
  refine JL.nil ?_
  refine JN.next ?_
  refine JC.ret ?_
  refine JN.outP (vs := [.agg #[.int .i64 p_1, .int .u32 (p_2.toNat : Int), .int .u32 ((0 : UInt32).toNat : Int), .int .u32 ((0 : UInt32).toNat : Int), .int .u32 ((0 : UInt32).toNat : Int)]]) (K := []) (rst := [_]) (.inl rfl) rfl rfl (Res.cellN 0 rfl rfl S32 rfl) picks0 ?_
  obtain rfl := Option.some.inj hx
  exact ⟨rfl, rfl, rfl, trivial⟩

set_option maxHeartbeats 1000000 in
theorem ptr_Check_ok (p_1 : Ptr) (H : Heaplet) (r : Int) (hx : ptr_Check p_1 = some r) :
    Does Try.prog 26 #[.agg #[.int .i64 p_1.At, .int .u32 (p_1.Birth.toNat : Int), .int .u32 (p_1.Iv.toNat : Int), .int .u32 (p_1.Tag.toNat : Int), .int .u32 (p_1.Sum.toNat : Int)]] [] H (fun u K' H' => u = .int .i64 r ∧ K' = [] ∧ H = H' ∧ True) := by
  refine Does.enterL (vs := [.agg #[.int .i64 p_1.At, .int .u32 (p_1.Birth.toNat : Int), .int .u32 (p_1.Iv.toNat : Int), .int .u32 (p_1.Tag.toNat : Int), .int .u32 (p_1.Sum.toNat : Int)]]) (l := [(0, .agg #[.int .i64 p_1.At, .int .u32 (p_1.Birth.toNat : Int), .int .u32 (p_1.Iv.toNat : Int), .int .u32 (p_1.Tag.toNat : Int), .int .u32 (p_1.Sum.toNat : Int)])]) Try.func26 rfl rfl ⟨rfl, trivial⟩ (fun w hlt => ?_)
  rw [ptr_Check.eq_1] at hx
  refine JC.seq ?_
  refine JC.region ?_
  refine JL.box rfl rfl (fun b_2 hb_2 => ?_)
  refine JL.val rfl rfl (R.assign rfl) ?_
  refine JL.nil ?_
  refine JN.next ?_
  refine JC.seq ?_
  refine JC.seq ?_
  refine JC.region ?_
  refine JL.val rfl rfl (R.ldoN 0 (vs := [.int .i64 p_1.At, .int .u32 (p_1.Birth.toNat : Int), .int .u32 (p_1.Iv.toNat : Int), .int .u32 (p_1.Tag.toNat : Int), .int .u32 (p_1.Sum.toNat : Int)]) S32 rfl rfl rfl rfl) ?_
  refine JL.val rfl rfl (R.bldP (vs := []) (cs := [.int .i64 0, .int .u32 ((0 : UInt32).toNat : Int), .int .u32 ((0 : UInt32).toNat : Int), .int .u32 ((0 : UInt32).toNat : Int), .int .u32 ((0 : UInt32).toNat : Int)]) Z32 B32 rfl rfl rfl) ?_
  refine JL.val rfl rfl (R.eqlAgg QU32 QP32 QG32 QF32 rfl rfl (EqF.i (by decide) S3 U3 rfl rfl (EqF.u32 (a := p_1.Birth) (b := (0 : UInt32)) (by decide) S30 U30 rfl rfl (EqF.u32 (a := p_1.Iv) (b := (0 : UInt32)) (by decide) S30 U30 rfl rfl (EqF.u32 (a := p_1.Tag) (b := (0 : UInt32)) (by decide) S30 U30 rfl rfl (EqF.u32 (a := p_1.Sum) (b := (0 : UInt32)) (by decide) S30 U30 rfl rfl EqF.nil)))))) ?_
  refine JL.nil ?_
  refine JN.next ?_
  refine JC.condB rfl (fun c_3 => ?_) (fun c_3 => ?_)
  · replace hx := cond_t c_3 hx
    refine JC.seq ?_
    refine JC.region ?_
    refine JL.val rfl rfl (R.assign rfl) ?_
    refine JL.nil ?_
    refine JN.next ?_
    refine JC.ret ?_
    refine JN.passR ?_
    refine JN.outP (vs := [.int .i64 0]) (K := []) (rst := [_]) (.inl rfl) rfl rfl (Res.tmp rfl rfl) picks0 ?_
    obtain rfl := Option.some.inj hx
    exact ⟨rfl, rfl, rfl, trivial⟩
  · replace hx := cond_f c_3 hx
    refine JC.skip ?_
    refine JN.next ?_
    refine JC.seq ?_
    refine JC.seq ?_
    refine JC.region ?_
    refine JL.val rfl rfl (R.fa F32_0 rfl) ?_
    refine JL.val rfl rfl (R.ldo 0 S3 rfl rfl rfl) ?_
    refine JL.val rfl rfl (R.lss_i rfl rfl) ?_
    refine JL.val rfl rfl (R.move rfl) ?_
    refine JL.gSplit (t := 9) rfl (fun c_4 => ?_) (fun c_4 => ?_)
    · replace hx := cond_t c_4 hx
      refine JL.gNo rfl rfl rfl rfl rfl ?_
      refine JL.gNo rfl rfl rfl rfl rfl ?_
      refine JL.gNo rfl rfl rfl rfl rfl ?_
      refine JL.val rfl rfl (R.pickT rfl rfl) ?_
      refine JL.val rfl rfl (R.move rfl) ?_
      refine JL.gNo rfl rfl rfl rfl rfl ?_
      refine JL.gNo rfl rfl rfl rfl rfl ?_
      refine JL.gNo rfl rfl rfl rfl rfl ?_
      refine JL.val rfl rfl (R.pickT rfl rfl) ?_
      refine JL.val rfl rfl (R.move rfl) ?_
      refine JL.gNo rfl rfl rfl rfl rfl ?_
      refine JL.gNo rfl rfl rfl rfl rfl ?_
      refine JL.gNo rfl rfl rfl rfl rfl ?_
      refine JL.val rfl rfl (R.pickT rfl rfl) ?_
      refine JL.nil ?_
      refine JN.next ?_
      refine JC.condT rfl ?_
      refine JC.seq ?_
      refine JC.region ?_
      refine JL.val rfl rfl (R.assign rfl) ?_
      refine JL.nil ?_
      refine JN.next ?_
      refine JC.ret ?_
      refine JN.passR ?_
      refine JN.outP (vs := [.int .i64 8]) (K := []) (rst := [_]) (.inl rfl) rfl rfl (Res.tmp rfl rfl) picks0 ?_
      obtain rfl := Option.some.inj hx
      exact ⟨rfl, rfl, rfl, trivial⟩
    · replace hx := cond_f c_4 hx
      refine JL.gYes rfl rfl rfl ?_
      refine JL.val rfl rfl (R.fa F32_0 rfl) ?_
      refine JL.gYes rfl rfl rfl ?_
      refine JL.val rfl rfl (R.ldo 0 S3 rfl rfl rfl) ?_
      refine JL.gYes rfl rfl rfl ?_
      refine JL.val rfl rfl (R.geq_i rfl rfl) ?_
      refine JL.val rfl rfl (R.pickF rfl rfl) ?_
      refine JL.val rfl rfl (R.move rfl) ?_
      refine JL.gSplit (t := 14) rfl (fun c_5 => ?_) (fun c_5 => ?_)
      · replace hx := cond_t c_5 hx
        refine JL.gNo rfl rfl rfl rfl rfl ?_
        refine JL.gNo rfl rfl rfl rfl rfl ?_
        refine JL.gNo rfl rfl rfl rfl rfl ?_
        refine JL.val rfl rfl (R.pickT rfl rfl) ?_
        refine JL.val rfl rfl (R.move rfl) ?_
        refine JL.gNo rfl rfl rfl rfl rfl ?_
        refine JL.gNo rfl rfl rfl rfl rfl ?_
        refine JL.gNo rfl rfl rfl rfl rfl ?_
        refine JL.val rfl rfl (R.pickT rfl rfl) ?_
        refine JL.nil ?_
        refine JN.next ?_
        refine JC.condT rfl ?_
        refine JC.seq ?_
        refine JC.region ?_
        refine JL.val rfl rfl (R.assign rfl) ?_
        refine JL.nil ?_
        refine JN.next ?_
        refine JC.ret ?_
        refine JN.passR ?_
        refine JN.outP (vs := [.int .i64 8]) (K := []) (rst := [_]) (.inl rfl) rfl rfl (Res.tmp rfl rfl) picks0 ?_
        obtain rfl := Option.some.inj hx
        exact ⟨rfl, rfl, rfl, trivial⟩
      · replace hx := cond_f c_5 hx
        refine JL.gYes rfl rfl rfl ?_
        refine JL.val rfl rfl (R.fa F32_1 rfl) ?_
        refine JL.gYes rfl rfl rfl ?_
        refine JL.val rfl rfl (R.ldo 0 S30 rfl rfl rfl) ?_
        refine JL.gYes rfl rfl rfl ?_
        refine JL.val rfl rfl (R.lss32 (a := p_1.Birth) (b := (1 : UInt32)) rfl rfl) ?_
        refine JL.val rfl rfl (R.pickF rfl rfl) ?_
        refine JL.val rfl rfl (R.move rfl) ?_
        refine JL.gSplit (t := 19) rfl (fun c_6 => ?_) (fun c_6 => ?_)
        · replace hx := cond_t c_6 hx
          refine JL.gNo rfl rfl rfl rfl rfl ?_
          refine JL.gNo rfl rfl rfl rfl rfl ?_
          refine JL.gNo rfl rfl rfl rfl rfl ?_
          refine JL.val rfl rfl (R.pickT rfl rfl) ?_
          refine JL.nil ?_
          refine JN.next ?_
          refine JC.condT rfl ?_
          refine JC.seq ?_
          refine JC.region ?_
          refine JL.val rfl rfl (R.assign rfl) ?_
          refine JL.nil ?_
          refine JN.next ?_
          refine JC.ret ?_
          refine JN.passR ?_
          refine JN.outP (vs := [.int .i64 8]) (K := []) (rst := [_]) (.inl rfl) rfl rfl (Res.tmp rfl rfl) picks0 ?_
          obtain rfl := Option.some.inj hx
          exact ⟨rfl, rfl, rfl, trivial⟩
        · replace hx := cond_f c_6 hx
          refine JL.gYes rfl rfl rfl ?_
          refine JL.val rfl rfl (R.fa F32_1 rfl) ?_
          refine JL.gYes rfl rfl rfl ?_
          refine JL.val rfl rfl (R.ldo 0 S30 rfl rfl rfl) ?_
          refine JL.gYes rfl rfl rfl ?_
          refine JL.val rfl rfl (R.gtr32 (a := p_1.Birth) (b := (16777215 : UInt32)) rfl rfl) ?_
          refine JL.val rfl rfl (R.pickF rfl rfl) ?_
          refine JL.nil ?_
          refine JN.next ?_
          refine JC.condB rfl (fun c_7 => ?_) (fun c_7 => ?_)
          · replace hx := cond_t c_7 hx
            refine JC.seq ?_
            refine JC.region ?_
            refine JL.val rfl rfl (R.assign rfl) ?_
            refine JL.nil ?_
            refine JN.next ?_
            refine JC.ret ?_
            refine JN.passR ?_
            refine JN.outP (vs := [.int .i64 8]) (K := []) (rst := [_]) (.inl rfl) rfl rfl (Res.tmp rfl rfl) picks0 ?_
            obtain rfl := Option.some.inj hx
            exact ⟨rfl, rfl, rfl, trivial⟩
          · replace hx := cond_f c_7 hx
            refine JC.skip ?_
            refine JN.next ?_
            refine JC.seq ?_
            refine JC.region ?_
            refine JL.val rfl rfl (R.assign rfl) ?_
            refine JL.nil ?_
            refine JN.next ?_
            refine JC.ret ?_
            refine JN.outP (vs := [.int .i64 0]) (K := []) (rst := [_]) (.inl rfl) rfl rfl (Res.tmp rfl rfl) picks0 ?_
            obtain rfl := Option.some.inj hx
            exact ⟨rfl, rfl, rfl, trivial⟩

set_option maxHeartbeats 1000000 in
theorem cmp_isNaN_int_ok (p_1 : Int) (H : Heaplet) (r : Bool) (hx : cmp_isNaN_int p_1 = some r) :
    Does Try.prog 48 #[.int .i64 p_1] [] H (fun u K' H' => u = .bool r ∧ K' = [] ∧ H = H' ∧ True) := by
  refine Does.enterL (vs := [.int .i64 p_1]) (l := [(0, .int .i64 p_1)]) Try.func48 rfl rfl ⟨rfl, trivial⟩ (fun w hlt => ?_)
  rw [cmp_isNaN_int.eq_1] at hx
  refine JC.seq ?_
  refine JC.region ?_
  refine JL.val rfl rfl (R.assign rfl) ?_
  refine JL.nil ?_
  refine JN.next ?_
  refine JC.seq ?_
  refine JC.region ?_
  refine JL.val rfl rfl (R.move rfl) ?_
  refine JL.val rfl rfl (R.move rfl) ?_
  refine JL.val rfl rfl (R.neq_i rfl rfl) ?_
  refine JL.val rfl rfl (R.assign rfl) ?_
  refine JL.nil ?_
  refine JN.next ?_
  refine JC.ret ?_
  refine JN.outP (vs := [.bool (!decide (p_1 = p_1))]) (K := []) (rst := []) (.inl rfl) rfl rfl (Res.tmp rfl rfl) picks0 ?_
  obtain rfl := Option.some.inj hx
  exact ⟨rfl, rfl, rfl, trivial⟩

set_option maxHeartbeats 1000000 in
theorem cmp_Compare_int_ok (p_1 : Int) (p_2 : Int) (H : Heaplet) (r : Int) (hx : cmp_Compare_int p_1 p_2 = some r) :
    Does Try.prog 35 #[.int .i64 p_1, .int .i64 p_2] [] H (fun u K' H' => u = .int .i64 r ∧ K' = [] ∧ H = H' ∧ True) := by
  refine Does.enterL (vs := [.int .i64 p_1, .int .i64 p_2]) (l := [(0, .int .i64 p_1), (1, .int .i64 p_2)]) Try.func35 rfl rfl ⟨rfl, rfl, trivial⟩ (fun w hlt => ?_)
  rw [cmp_Compare_int.eq_1] at hx
  refine JC.seq ?_
  refine JC.region ?_
  refine JL.val rfl rfl (R.assign rfl) ?_
  refine JL.nil ?_
  refine JN.next ?_
  refine JC.seq ?_
  refine JC.region ?_
  refine JL.val rfl rfl (R.move rfl) ?_
  obtain ⟨x_3, hr_4, hx⟩ := bnd_some hx
  refine JL.callC (vs := [_]) (args := [_]) (K := []) (rst := []) E48 rfl rfl rfl picks0 (cmp_isNaN_int_ok p_1 _ _ hr_4) rfl (fun u_5 Ku_5 Hu_5 hRu_5 hleu_5 hfu_5 => ?_)
  obtain ⟨rfl, rfl, rfl, -⟩ := hRu_5
  refine JL.val rfl rfl (R.assign rfl) ?_
  refine JL.nil ?_
  refine JN.next ?_
  refine JC.seq ?_
  refine JC.region ?_
  refine JL.val rfl rfl (R.move rfl) ?_
  obtain ⟨x_6, hr_7, hx⟩ := bnd_some hx
  refine JL.callC (vs := [_]) (args := [_]) (K := []) (rst := []) E48 rfl rfl rfl picks0 (cmp_isNaN_int_ok p_2 _ _ hr_7) rfl (fun u_8 Ku_8 Hu_8 hRu_8 hleu_8 hfu_8 => ?_)
  obtain ⟨rfl, rfl, rfl, -⟩ := hRu_8
  refine JL.val rfl rfl (R.assign rfl) ?_
  refine JL.nil ?_
  refine JN.next ?_
  refine JC.seq ?_
  refine JC.seq ?_
  refine JC.region ?_
  refine JL.val rfl rfl (R.move rfl) ?_
  refine JL.nil ?_
  refine JN.next ?_
  refine JC.condB rfl (fun c_9 => ?_) (fun c_9 => ?_)
  · replace hx := cond_t c_9 hx
    refine JC.seq ?_
    refine JC.seq ?_
    refine JC.region ?_
    refine JL.val rfl rfl (R.move rfl) ?_
    refine JL.nil ?_
    refine JN.next ?_
    refine JC.condB rfl (fun c_10 => ?_) (fun c_10 => ?_)
    · replace hx := cond_t c_10 hx
      refine JC.seq ?_
      refine JC.region ?_
      refine JL.val rfl rfl (R.assign rfl) ?_
      refine JL.nil ?_
      refine JN.next ?_
      refine JC.ret ?_
      refine JN.passR ?_
      refine JN.passR ?_
      refine JN.outP (vs := [.int .i64 0]) (K := []) (rst := []) (.inl rfl) rfl rfl (Res.tmp rfl rfl) picks0 ?_
      obtain rfl := Option.some.inj hx
      exact ⟨rfl, rfl, rfl, trivial⟩
    · replace hx := cond_f c_10 hx
      refine JC.skip ?_
      refine JN.next ?_
      refine JC.seq ?_
      refine JC.region ?_
      refine JL.val rfl rfl (R.assign rfl) ?_
      refine JL.nil ?_
      refine JN.next ?_
      refine JC.ret ?_
      refine JN.passR ?_
      refine JN.outP (vs := [.int .i64 (-1)]) (K := []) (rst := []) (.inl rfl) rfl rfl (Res.tmp rfl rfl) picks0 ?_
      obtain rfl := Option.some.inj hx
      exact ⟨rfl, rfl, rfl, trivial⟩
  · replace hx := cond_f c_9 hx
    refine JC.skip ?_
    refine JN.next ?_
    refine JC.seq ?_
    refine JC.seq ?_
    refine JC.region ?_
    refine JL.val rfl rfl (R.move rfl) ?_
    refine JL.nil ?_
    refine JN.next ?_
    refine JC.condB rfl (fun c_11 => ?_) (fun c_11 => ?_)
    · replace hx := cond_t c_11 hx
      refine JC.seq ?_
      refine JC.region ?_
      refine JL.val rfl rfl (R.assign rfl) ?_
      refine JL.nil ?_
      refine JN.next ?_
      refine JC.ret ?_
      refine JN.passR ?_
      refine JN.outP (vs := [.int .i64 1]) (K := []) (rst := []) (.inl rfl) rfl rfl (Res.tmp rfl rfl) picks0 ?_
      obtain rfl := Option.some.inj hx
      exact ⟨rfl, rfl, rfl, trivial⟩
    · replace hx := cond_f c_11 hx
      refine JC.skip ?_
      refine JN.next ?_
      refine JC.seq ?_
      refine JC.seq ?_
      refine JC.region ?_
      refine JL.val rfl rfl (R.move rfl) ?_
      refine JL.val rfl rfl (R.move rfl) ?_
      refine JL.val rfl rfl (R.lss_i rfl rfl) ?_
      refine JL.nil ?_
      refine JN.next ?_
      refine JC.condB rfl (fun c_12 => ?_) (fun c_12 => ?_)
      · replace hx := cond_t c_12 hx
        refine JC.seq ?_
        refine JC.region ?_
        refine JL.val rfl rfl (R.assign rfl) ?_
        refine JL.nil ?_
        refine JN.next ?_
        refine JC.ret ?_
        refine JN.passR ?_
        refine JN.outP (vs := [.int .i64 (-1)]) (K := []) (rst := []) (.inl rfl) rfl rfl (Res.tmp rfl rfl) picks0 ?_
        obtain rfl := Option.some.inj hx
        exact ⟨rfl, rfl, rfl, trivial⟩
      · replace hx := cond_f c_12 hx
        refine JC.skip ?_
        refine JN.next ?_
        refine JC.seq ?_
        refine JC.seq ?_
        refine JC.region ?_
        refine JL.val rfl rfl (R.move rfl) ?_
        refine JL.val rfl rfl (R.move rfl) ?_
        refine JL.val rfl rfl (R.gtr_i rfl rfl) ?_
        refine JL.nil ?_
        refine JN.next ?_
        refine JC.condB rfl (fun c_13 => ?_) (fun c_13 => ?_)
        · replace hx := cond_t c_13 hx
          refine JC.seq ?_
          refine JC.region ?_
          refine JL.val rfl rfl (R.assign rfl) ?_
          refine JL.nil ?_
          refine JN.next ?_
          refine JC.ret ?_
          refine JN.passR ?_
          refine JN.outP (vs := [.int .i64 1]) (K := []) (rst := []) (.inl rfl) rfl rfl (Res.tmp rfl rfl) picks0 ?_
          obtain rfl := Option.some.inj hx
          exact ⟨rfl, rfl, rfl, trivial⟩
        · replace hx := cond_f c_13 hx
          refine JC.skip ?_
          refine JN.next ?_
          refine JC.seq ?_
          refine JC.region ?_
          refine JL.val rfl rfl (R.assign rfl) ?_
          refine JL.nil ?_
          refine JN.next ?_
          refine JC.ret ?_
          refine JN.outP (vs := [.int .i64 0]) (K := []) (rst := []) (.inl rfl) rfl rfl (Res.tmp rfl rfl) picks0 ?_
          obtain rfl := Option.some.inj hx
          exact ⟨rfl, rfl, rfl, trivial⟩

set_option maxHeartbeats 1000000 in
theorem dead_order_ok (p_1 : Ptr) (p_2 : Ptr) (H : Heaplet) (r : Int) (hx : dead_order p_1 p_2 = some r) :
    Does Try.prog 22 #[.agg #[.int .i64 p_1.At, .int .u32 (p_1.Birth.toNat : Int), .int .u32 (p_1.Iv.toNat : Int), .int .u32 (p_1.Tag.toNat : Int), .int .u32 (p_1.Sum.toNat : Int)], .agg #[.int .i64 p_2.At, .int .u32 (p_2.Birth.toNat : Int), .int .u32 (p_2.Iv.toNat : Int), .int .u32 (p_2.Tag.toNat : Int), .int .u32 (p_2.Sum.toNat : Int)]] [] H (fun u K' H' => u = .int .i64 r ∧ K' = [] ∧ H = H' ∧ True) := by
  refine Does.enterL (vs := [.agg #[.int .i64 p_1.At, .int .u32 (p_1.Birth.toNat : Int), .int .u32 (p_1.Iv.toNat : Int), .int .u32 (p_1.Tag.toNat : Int), .int .u32 (p_1.Sum.toNat : Int)], .agg #[.int .i64 p_2.At, .int .u32 (p_2.Birth.toNat : Int), .int .u32 (p_2.Iv.toNat : Int), .int .u32 (p_2.Tag.toNat : Int), .int .u32 (p_2.Sum.toNat : Int)]]) (l := [(0, .agg #[.int .i64 p_1.At, .int .u32 (p_1.Birth.toNat : Int), .int .u32 (p_1.Iv.toNat : Int), .int .u32 (p_1.Tag.toNat : Int), .int .u32 (p_1.Sum.toNat : Int)]), (1, .agg #[.int .i64 p_2.At, .int .u32 (p_2.Birth.toNat : Int), .int .u32 (p_2.Iv.toNat : Int), .int .u32 (p_2.Tag.toNat : Int), .int .u32 (p_2.Sum.toNat : Int)])]) Try.func22 rfl rfl ⟨rfl, rfl, trivial⟩ (fun w hlt => ?_)
  rw [dead_order.eq_1] at hx
  refine JC.seq ?_
  refine JC.region ?_
  refine JL.box rfl rfl (fun b_3 hb_3 => ?_)
  refine JL.box rfl rfl (fun b_4 hb_4 => ?_)
  refine JL.val rfl rfl (R.assign rfl) ?_
  refine JL.nil ?_
  refine JN.next ?_
  refine JC.seq ?_
  refine JC.region ?_
  refine JL.val rfl rfl (R.fa F32_0 rfl) ?_
  refine JL.val rfl rfl (R.ldo 1 S3 rfl rfl rfl) ?_
  refine JL.val rfl rfl (R.fa F32_0 rfl) ?_
  refine JL.val rfl rfl (R.ldo 0 S3 rfl rfl rfl) ?_
  obtain ⟨x_5, hr_6, hx⟩ := bnd_some hx
  refine JL.callC (vs := [_, _]) (args := [_, _]) (K := []) (rst := [_, _]) E35 rfl rfl rfl picks0 (cmp_Compare_int_ok p_1.At p_2.At _ _ hr_6) rfl (fun u_7 Ku_7 Hu_7 hRu_7 hleu_7 hfu_7 => ?_)
  obtain ⟨rfl, rfl, rfl, -⟩ := hRu_7
  refine JL.val rfl rfl (R.assign rfl) ?_
  refine JL.nil ?_
  refine JN.next ?_
  refine JC.ret ?_
  refine JN.outP (vs := [.int .i64 x_5]) (K := []) (rst := [_, _]) (.inl rfl) rfl rfl (Res.tmp rfl rfl) picks0 ?_
  obtain rfl := Option.some.inj hx
  exact ⟨rfl, rfl, rfl, trivial⟩

set_option maxHeartbeats 1000000 in
theorem dead_Check_ok (p_1 : List Ptr) (H : Heaplet) {aoa_2 : Option Addr} {na_2 : Nat} {capa_2 : Nat} (ha_2 : IsSlice H R_Ptr 5 (.slice aoa_2 na_2 capa_2) p_1) (r : Int) (hx : dead_Check p_1 = some r) :
    Does Try.prog 10 #[.slice aoa_2 na_2 capa_2] [] H (fun u K' H' => u = .int .i64 r ∧ K' = [] ∧ H = H' ∧ True) := by
  refine Does.enterL (vs := [.slice aoa_2 na_2 capa_2]) (l := [(0, .slice aoa_2 na_2 capa_2)]) Try.func10 rfl rfl ⟨rfl, trivial⟩ (fun w hlt => ?_)
  rw [dead_Check.eq_1] at hx
  refine JC.seq ?_
  refine JC.region ?_
  refine JL.val rfl rfl (R.assign rfl) ?_
  refine JL.nil ?_
  refine JN.next ?_
  refine JC.seq ?_
  refine JC.seq ?_
  refine JC.region ?_
  refine JL.val rfl rfl (R.move rfl) ?_
  refine JL.val rfl rfl (R.lenL U22 rfl (IsSlice.long ha_2)) ?_
  refine JL.val rfl rfl (R.gtr_i rfl rfl) ?_
  refine JL.nil ?_
  refine JN.next ?_
  refine JC.condB rfl (fun c_3 => ?_) (fun c_3 => ?_)
  · replace hx := cond_t c_3 hx
    refine JC.seq ?_
    refine JC.region ?_
    refine JL.val rfl rfl (R.assign rfl) ?_
    refine JL.nil ?_
    refine JN.next ?_
    refine JC.ret ?_
    refine JN.passR ?_
    refine JN.outP (vs := [.int .i64 8]) (K := []) (rst := []) (.inl rfl) rfl rfl (Res.tmp rfl rfl) picks0 ?_
    obtain rfl := Option.some.inj hx
    exact ⟨rfl, rfl, rfl, trivial⟩
  · replace hx := cond_f c_3 hx
    refine JC.skip ?_
    refine JN.next ?_
    refine JC.seq ?_
    refine JC.seq ?_
    refine JC.region ?_
    refine JL.val rfl rfl (R.move rfl) ?_
    refine JL.val rfl rfl (R.lenL U22 rfl (IsSlice.long ha_2)) ?_
    refine JL.val rfl rfl (R.move rfl) ?_
    refine JL.nil ?_
    refine JN.next ?_
    obtain ⟨t_4, ht_6, hx⟩ := bnd_some hx
    refine JC.cut (fun l o g => ∃ t_4a : Unit, l = [] ∧ o = [] ∧ H = g ∧ t_4 = .inl t_4a) ?_ ?_
    · rintro _ _ _ ⟨t_4a, rfl, rfl, rfl, rfl⟩
      simp only [Sum.elim_inl] at hx
      refine JN.next ?_
      refine JC.seq ?_
      refine JC.region ?_
      refine JL.val rfl rfl (R.assign rfl) ?_
      refine JL.nil ?_
      refine JN.next ?_
      refine JC.ret ?_
      refine JN.outP (vs := [.int .i64 0]) (K := []) (rst := []) (.inl rfl) rfl rfl (Res.tmp rfl rfl) picks0 ?_
      obtain rfl := Option.some.inj hx
      exact ⟨rfl, rfl, rfl, trivial⟩
    · have hxo_5 := hx; clear hx; have hx := ht_6; clear ht_6
      refine JC.block ?_
      refine JC.loopI (fun n l o g => ∃ s_7 : Nat, l = [(0, .slice aoa_2 na_2 capa_2), (8, .slice aoa_2 na_2 capa_2), (9, .int .i64 (p_1.length : Int)), (10, .int .i64 ((s_7 : Nat) : Int))] ∧ o = [] ∧ H = g ∧ run (dead_Check_l1 p_1) n s_7 = some t_4) FUEL ?_ ⟨0, rfl, rfl, rfl, hx⟩ ⟨rfl, rfl, rfl, rfl, trivial⟩ ?_
      · rintro _ _ _ ⟨s_7, rfl, rfl, rfl, hn_8⟩
        exact run_zero hn_8
      · rintro n_9 _ _ _ ⟨s_7, rfl, rfl, rfl, hn_8⟩
        clear hx; obtain ⟨oo_11, hx, hd_10⟩ := run_some hn_8
        rw [dead_Check_l1.eq_1] at hx
        refine JC.seq ?_
        refine JC.region ?_
        refine JL.val rfl rfl (R.lss_i rfl rfl) ?_
        refine JL.nil ?_
        refine JN.next ?_
        refine JC.seq ?_
        refine JC.condB rfl (fun c_10 => ?_) (fun c_10 => ?_)
        · replace hx := cond_t c_10 hx
          refine JC.skip ?_
          refine JN.next ?_
          refine JC.seq ?_
          refine JC.block ?_
          refine JC.seq ?_
          refine JC.region ?_
          refine JL.val rfl rfl (R.move rfl) ?_
          obtain ⟨y_11, hN_12, hx⟩ := idx_some hx
          obtain ⟨b_13, o_14, cs_15, hE_16, hR_17, hl_18, hc_19⟩ := IsSlice.elem ha_2 hN_12
          obtain rfl := hR_17
          refine JL.val rfl rfl (R.ix U22 S32 rfl rfl hE_16) ?_
          refine JL.val rfl rfl (R.ldHE (cs := [.int .i64 y_11.At, .int .u32 (y_11.Birth.toNat : Int), .int .u32 (y_11.Iv.toNat : Int), .int .u32 (y_11.Tag.toNat : Int), .int .u32 (y_11.Sum.toNat : Int)]) (k := 0) (vs := [.int .i64 y_11.At, .int .u32 (y_11.Birth.toNat : Int), .int .u32 (y_11.Iv.toNat : Int), .int .u32 (y_11.Tag.toNat : Int), .int .u32 (y_11.Sum.toNat : Int)]) S32 rfl hc_19 rfl rfl) ?_
          refine JL.alloc Z32 rfl (fun b_20 hb_20 => ?_)
          refine JL.val rfl rfl (R.assign rfl) ?_
          refine JL.store 0 S32 rfl rfl rfl rfl rfl (Nat.le_of_ble_eq_true rfl) ?_
          refine JL.nil ?_
          refine JN.next ?_
          refine JC.seq ?_
          refine JC.draw (so := [_]) 22 rfl Mixed ⟨⟨0, rfl⟩, trivial⟩ ?_
          refine JA.val ⟨by kernel_rfl, by kernel_rfl⟩ (calm_only _) (i := 0) rfl ⟨by kernel_rfl, by kernel_rfl, rfl⟩ trivial (stab_of (Hle.refl _) ⟨⟨0, rfl⟩, trivial⟩) (R.ldoN 0 (vs := [.int .i64 y_11.At, .int .u32 (y_11.Birth.toNat : Int), .int .u32 (y_11.Iv.toNat : Int), .int .u32 (y_11.Tag.toNat : Int), .int .u32 (y_11.Sum.toNat : Int)]) S32 rfl rfl rfl rfl) rfl ?_
          refine JA.one (i := 1) (by kernel_rfl) ?_
          refine JO.step rfl trivial rfl (fun K hK => ?_)
          refine JL.val rfl rfl (R.bldP (vs := []) (cs := [.int .i64 0, .int .u32 ((0 : UInt32).toNat : Int), .int .u32 ((0 : UInt32).toNat : Int), .int .u32 ((0 : UInt32).toNat : Int), .int .u32 ((0 : UInt32).toNat : Int)]) Z32 B32 rfl rfl rfl) ?_
          refine JL.nil ?_
          refine hK _ _ _ (stab_of (Hle.refl _) ⟨⟨0, rfl⟩, trivial⟩) ?_
          refine JA.val ⟨by kernel_rfl, by kernel_rfl⟩ (calm_only _) (i := 2) rfl ⟨by kernel_rfl, by kernel_rfl, rfl⟩ trivial (stab_of (Hle.refl _) ⟨⟨0, rfl⟩, trivial⟩) (R.eqlAgg QU32 QP32 QG32 QF32 rfl rfl (EqF.i (by decide) S3 U3 rfl rfl (EqF.u32 (a := y_11.Birth) (b := (0 : UInt32)) (by decide) S30 U30 rfl rfl (EqF.u32 (a := y_11.Iv) (b := (0 : UInt32)) (by decide) S30 U30 rfl rfl (EqF.u32 (a := y_11.Tag) (b := (0 : UInt32)) (by decide) S30 U30 rfl rfl (EqF.u32 (a := y_11.Sum) (b := (0 : UInt32)) (by decide) S30 U30 rfl rfl EqF.nil)))))) rfl ?_
          refine JA.val ⟨by kernel_rfl, by kernel_rfl⟩ (calm_only _) (i := 3) rfl ⟨by kernel_rfl, by kernel_rfl, rfl⟩ trivial (stab_of (Hle.refl _) ⟨⟨0, rfl⟩, trivial⟩) (R.move rfl) rfl ?_
          refine JA.gSplit (t := 18) rfl (fun c_21 => ?_) (fun c_21 => ?_)
          · replace hx := cond_t c_21 hx
            refine JA.no ⟨by kernel_rfl, by kernel_rfl⟩ (calm_only _) (i := 4) rfl ⟨by kernel_rfl, by kernel_rfl, rfl⟩ rfl rfl rfl rfl (stab_of (Hle.refl _) ⟨⟨0, rfl⟩, trivial⟩) rfl ?_
            refine JA.no ⟨by kernel_rfl, by kernel_rfl⟩ (calm_only _) (i := 5) rfl ⟨by kernel_rfl, by kernel_rfl, rfl⟩ rfl rfl rfl rfl (stab_of (Hle.refl _) ⟨⟨0, rfl⟩, trivial⟩) rfl ?_
            refine JA.no ⟨by kernel_rfl, by kernel_rfl⟩ (calm_only _) (i := 6) rfl ⟨by kernel_rfl, by kernel_rfl, rfl⟩ rfl rfl rfl rfl (stab_of (Hle.refl _) ⟨⟨0, rfl⟩, trivial⟩) rfl ?_
            refine JA.val ⟨by kernel_rfl, by kernel_rfl⟩ (calm_only _) (i := 7) rfl ⟨by kernel_rfl, by kernel_rfl, rfl⟩ trivial (stab_of (Hle.refl _) ⟨⟨0, rfl⟩, trivial⟩) (R.pickT rfl rfl) rfl ?_
            refine JA.val ⟨by kernel_rfl, by kernel_rfl⟩ (calm_only _) (i := 8) rfl ⟨by kernel_rfl, by kernel_rfl, rfl⟩ trivial (stab_of (Hle.refl _) ⟨⟨0, rfl⟩, trivial⟩) (R.move rfl) rfl ?_
            refine JA.no ⟨by kernel_rfl, by kernel_rfl⟩ (calm_only _) (i := 9) rfl ⟨by kernel_rfl, by kernel_rfl, rfl⟩ rfl rfl rfl rfl (stab_of (Hle.refl _) ⟨⟨0, rfl⟩, trivial⟩) rfl ?_
            refine JA.no ⟨by kernel_rfl, by kernel_rfl⟩ (calm_only _) (i := 10) rfl ⟨by kernel_rfl, by kernel_rfl, rfl⟩ rfl rfl rfl rfl (stab_of (Hle.refl _) ⟨⟨0, rfl⟩, trivial⟩) rfl ?_
            refine JA.no ⟨by kernel_rfl, by kernel_rfl⟩ (calm_only _) (i := 11) rfl ⟨by kernel_rfl, by kernel_rfl, rfl⟩ rfl rfl rfl rfl (stab_of (Hle.refl _) ⟨⟨0, rfl⟩, trivial⟩) rfl ?_
            refine JA.noU ⟨by kernel_rfl, by kernel_rfl⟩ (calm_only _) (i := 12) rfl ⟨by kernel_rfl, by kernel_rfl, rfl⟩ rfl rfl rfl (stab_of (Hle.refl _) ⟨⟨0, rfl⟩, trivial⟩) rfl ?_
            refine JA.noU ⟨by kernel_rfl, by kernel_rfl⟩ (calm_only _) (i := 13) rfl ⟨by kernel_rfl, by kernel_rfl, rfl⟩ rfl rfl rfl (stab_of (Hle.refl _) ⟨⟨0, rfl⟩, trivial⟩) rfl ?_
            refine JA.noU ⟨by kernel_rfl, by kernel_rfl⟩ (calm_only _) (i := 14) rfl ⟨by kernel_rfl, by kernel_rfl, rfl⟩ rfl rfl rfl (stab_of (Hle.refl _) ⟨⟨0, rfl⟩, trivial⟩) rfl ?_
            refine JA.noU ⟨by kernel_rfl, by kernel_rfl⟩ (calm_only _) (i := 15) rfl ⟨by kernel_rfl, by kernel_rfl, rfl⟩ rfl rfl rfl (stab_of (Hle.refl _) ⟨⟨0, rfl⟩, trivial⟩) rfl ?_
            refine JA.noU ⟨by kernel_rfl, by kernel_rfl⟩ (calm_only _) (i := 16) rfl ⟨by kernel_rfl, by kernel_rfl, rfl⟩ rfl rfl rfl (stab_of (Hle.refl _) ⟨⟨0, rfl⟩, trivial⟩) rfl ?_
            refine JA.noU ⟨by kernel_rfl, by kernel_rfl⟩ (calm_only _) (i := 17) rfl ⟨by kernel_rfl, by kernel_rfl, rfl⟩ rfl rfl rfl (stab_of (Hle.refl _) ⟨⟨0, rfl⟩, trivial⟩) rfl ?_
            refine JA.noU ⟨by kernel_rfl, by kernel_rfl⟩ (calm_only _) (i := 18) rfl ⟨by kernel_rfl, by kernel_rfl, rfl⟩ rfl rfl rfl (stab_of (Hle.refl _) ⟨⟨0, rfl⟩, trivial⟩) rfl ?_
            refine JA.noU ⟨by kernel_rfl, by kernel_rfl⟩ (calm_only _) (i := 19) rfl ⟨by kernel_rfl, by kernel_rfl, rfl⟩ rfl rfl rfl (stab_of (Hle.refl _) ⟨⟨0, rfl⟩, trivial⟩) rfl ?_
            refine JA.no ⟨by kernel_rfl, by kernel_rfl⟩ (calm_only _) (i := 20) rfl ⟨by kernel_rfl, by kernel_rfl, rfl⟩ rfl rfl rfl rfl (stab_of (Hle.refl _) ⟨⟨0, rfl⟩, trivial⟩) rfl ?_
            refine JA.val ⟨by kernel_rfl, by kernel_rfl⟩ (calm_only _) (i := 21) rfl ⟨by kernel_rfl, by kernel_rfl, rfl⟩ trivial (stab_of (Hle.refl _) ⟨⟨0, rfl⟩, trivial⟩) (R.pickT rfl rfl) rfl ?_
            refine JA.doneN (by kernel_rfl) ?_
            refine JN.next ?_
            refine JC.condT rfl ?_
            refine JC.seq ?_
            refine JC.region ?_
            refine JL.val rfl rfl (R.assign rfl) ?_
            refine JL.nil ?_
            refine JN.next ?_
            refine JC.ret ?_
            refine JN.blkR ?_
            refine JN.passR ?_
            obtain rfl := run_done hd_10 hx
            refine JN.passR ?_
            refine JN.blkR ?_
            clear hx; have hx := hxo_5
            simp only [Sum.elim_inl, Sum.elim_inr] at hx
            refine JN.passR ?_
            refine JN.passR ?_
            refine JN.outP (vs := [.int .i64 8]) (K := []) (rst := [_]) (.inl rfl) rfl rfl (Res.tmp rfl rfl) picks0 ?_
            obtain rfl := Option.some.inj hx
            exact ⟨rfl, rfl, rfl, trivial⟩
          · replace hx := cond_f c_21 hx
            refine JA.val ⟨by kernel_rfl, by kernel_rfl⟩ (calm_only _) (i := 4) rfl ⟨by kernel_rfl, by kernel_rfl, rfl⟩ ⟨_, _, rfl, rfl, rfl⟩ (stab_of (Hle.refl _) ⟨⟨0, rfl⟩, trivial⟩) (R.ldoN 0 (vs := [.int .i64 y_11.At, .int .u32 (y_11.Birth.toNat : Int), .int .u32 (y_11.Iv.toNat : Int), .int .u32 (y_11.Tag.toNat : Int), .int .u32 (y_11.Sum.toNat : Int)]) S32 rfl rfl rfl rfl) rfl ?_
            refine JA.one (i := 5) (by kernel_rfl) ?_
            refine JO.step rfl ⟨_, _, rfl, rfl, rfl⟩ rfl (fun K hK => ?_)
            obtain ⟨x_22, hr_23, hx⟩ := bnd_some hx
            refine JL.callC (vs := [_]) (args := [_]) (K := []) (rst := [_]) E26 rfl rfl rfl picks0 (ptr_Check_ok y_11 _ _ hr_23) rfl (fun u_24 Ku_24 Hu_24 hRu_24 hleu_24 hfu_24 => ?_)
            obtain ⟨rfl, rfl, rfl, -⟩ := hRu_24
            refine JL.nil ?_
            refine hK _ _ _ (stab_of (Hle.refl _) ⟨⟨0, rfl⟩, trivial⟩) ?_
            refine JA.val ⟨by kernel_rfl, by kernel_rfl⟩ (calm_only _) (i := 6) rfl ⟨by kernel_rfl, by kernel_rfl, rfl⟩ ⟨_, _, rfl, rfl, rfl⟩ (stab_of (Hle.refl _) ⟨⟨0, rfl⟩, trivial⟩) (R.neq_i rfl rfl) rfl ?_
            refine JA.val ⟨by kernel_rfl, by kernel_rfl⟩ (calm_only _) (i := 7) rfl ⟨by kernel_rfl, by kernel_rfl, rfl⟩ trivial (stab_of (Hle.refl _) ⟨⟨0, rfl⟩, trivial⟩) (R.pickF rfl rfl) rfl ?_
            refine JA.val ⟨by kernel_rfl, by kernel_rfl⟩ (calm_only _) (i := 8) rfl ⟨by kernel_rfl, by kernel_rfl, rfl⟩ trivial (stab_of (Hle.refl _) ⟨⟨0, rfl⟩, trivial⟩) (R.move rfl) rfl ?_
            refine JA.gSplit (t := 23) rfl (fun c_25 => ?_) (fun c_25 => ?_)
            · replace hx := cond_t c_25 hx
              refine JA.no ⟨by kernel_rfl, by kernel_rfl⟩ (calm_only _) (i := 9) rfl ⟨by kernel_rfl, by kernel_rfl, rfl⟩ rfl rfl rfl rfl (stab_of (Hle.refl _) ⟨⟨0, rfl⟩, trivial⟩) rfl ?_
              refine JA.no ⟨by kernel_rfl, by kernel_rfl⟩ (calm_only _) (i := 10) rfl ⟨by kernel_rfl, by kernel_rfl, rfl⟩ rfl rfl rfl rfl (stab_of (Hle.refl _) ⟨⟨0, rfl⟩, trivial⟩) rfl ?_
              refine JA.no ⟨by kernel_rfl, by kernel_rfl⟩ (calm_only _) (i := 11) rfl ⟨by kernel_rfl, by kernel_rfl, rfl⟩ rfl rfl rfl rfl (stab_of (Hle.refl _) ⟨⟨0, rfl⟩, trivial⟩) rfl ?_
              refine JA.noU ⟨by kernel_rfl, by kernel_rfl⟩ (calm_only _) (i := 12) rfl ⟨by kernel_rfl, by kernel_rfl, rfl⟩ rfl rfl rfl (stab_of (Hle.refl _) ⟨⟨0, rfl⟩, trivial⟩) rfl ?_
              refine JA.noU ⟨by kernel_rfl, by kernel_rfl⟩ (calm_only _) (i := 13) rfl ⟨by kernel_rfl, by kernel_rfl, rfl⟩ rfl rfl rfl (stab_of (Hle.refl _) ⟨⟨0, rfl⟩, trivial⟩) rfl ?_
              refine JA.noU ⟨by kernel_rfl, by kernel_rfl⟩ (calm_only _) (i := 14) rfl ⟨by kernel_rfl, by kernel_rfl, rfl⟩ rfl rfl rfl (stab_of (Hle.refl _) ⟨⟨0, rfl⟩, trivial⟩) rfl ?_
              refine JA.noU ⟨by kernel_rfl, by kernel_rfl⟩ (calm_only _) (i := 15) rfl ⟨by kernel_rfl, by kernel_rfl, rfl⟩ rfl rfl rfl (stab_of (Hle.refl _) ⟨⟨0, rfl⟩, trivial⟩) rfl ?_
              refine JA.noU ⟨by kernel_rfl, by kernel_rfl⟩ (calm_only _) (i := 16) rfl ⟨by kernel_rfl, by kernel_rfl, rfl⟩ rfl rfl rfl (stab_of (Hle.refl _) ⟨⟨0, rfl⟩, trivial⟩) rfl ?_
              refine JA.noU ⟨by kernel_rfl, by kernel_rfl⟩ (calm_only _) (i := 17) rfl ⟨by kernel_rfl, by kernel_rfl, rfl⟩ rfl rfl rfl (stab_of (Hle.refl _) ⟨⟨0, rfl⟩, trivial⟩) rfl ?_
              refine JA.noU ⟨by kernel_rfl, by kernel_rfl⟩ (calm_only _) (i := 18) rfl ⟨by kernel_rfl, by kernel_rfl, rfl⟩ rfl rfl rfl (stab_of (Hle.refl _) ⟨⟨0, rfl⟩, trivial⟩) rfl ?_
              refine JA.noU ⟨by kernel_rfl, by kernel_rfl⟩ (calm_only _) (i := 19) rfl ⟨by kernel_rfl, by kernel_rfl, rfl⟩ rfl rfl rfl (stab_of (Hle.refl _) ⟨⟨0, rfl⟩, trivial⟩) rfl ?_
              refine JA.no ⟨by kernel_rfl, by kernel_rfl⟩ (calm_only _) (i := 20) rfl ⟨by kernel_rfl, by kernel_rfl, rfl⟩ rfl rfl rfl rfl (stab_of (Hle.refl _) ⟨⟨0, rfl⟩, trivial⟩) rfl ?_
              refine JA.val ⟨by kernel_rfl, by kernel_rfl⟩ (calm_only _) (i := 21) rfl ⟨by kernel_rfl, by kernel_rfl, rfl⟩ trivial (stab_of (Hle.refl _) ⟨⟨0, rfl⟩, trivial⟩) (R.pickT rfl rfl) rfl ?_
              refine JA.doneN (by kernel_rfl) ?_
              refine JN.next ?_
              refine JC.condT rfl ?_
              refine JC.seq ?_
              refine JC.region ?_
              refine JL.val rfl rfl (R.assign rfl) ?_
              refine JL.nil ?_
              refine JN.next ?_
              refine JC.ret ?_
              refine JN.blkR ?_
              refine JN.passR ?_
              obtain rfl := run_done hd_10 hx
              refine JN.passR ?_
              refine JN.blkR ?_
              clear hx; have hx := hxo_5
              simp only [Sum.elim_inl, Sum.elim_inr] at hx
              refine JN.passR ?_
              refine JN.passR ?_
              refine JN.outP (vs := [.int .i64 8]) (K := []) (rst := [_]) (.inl rfl) rfl rfl (Res.tmp rfl rfl) picks0 ?_
              obtain rfl := Option.some.inj hx
              exact ⟨rfl, rfl, rfl, trivial⟩
            · replace hx := cond_f c_25 hx
              refine JA.val ⟨by kernel_rfl, by kernel_rfl⟩ (calm_only _) (i := 9) rfl ⟨by kernel_rfl, by kernel_rfl, rfl⟩ ⟨_, _, rfl, rfl, rfl⟩ (stab_of (Hle.refl _) ⟨⟨0, rfl⟩, trivial⟩) (R.move rfl) rfl ?_
              refine JA.val ⟨by kernel_rfl, by kernel_rfl⟩ (calm_only _) (i := 10) rfl ⟨by kernel_rfl, by kernel_rfl, rfl⟩ ⟨_, _, rfl, rfl, rfl⟩ (stab_of (Hle.refl _) ⟨⟨0, rfl⟩, trivial⟩) (R.gtr_i rfl rfl) rfl ?_
              refine JA.val ⟨by kernel_rfl, by kernel_rfl⟩ (calm_only _) (i := 11) rfl ⟨by kernel_rfl, by kernel_rfl, rfl⟩ ⟨_, _, rfl, rfl, rfl⟩ (stab_of (Hle.refl _) ⟨⟨0, rfl⟩, trivial⟩) (R.move rfl) rfl ?_
              refine JA.gSplit (t := 26) rfl (fun c_26 => ?_) (fun c_26 => ?_)
              · replace hx := cond_t c_26 hx
                refine JA.val ⟨by kernel_rfl, by kernel_rfl⟩ (calm_only _) (i := 12) rfl ⟨by kernel_rfl, by kernel_rfl, rfl⟩ ⟨_, _, rfl, rfl, rfl⟩ (stab_of (Hle.refl _) ⟨⟨0, rfl⟩, trivial⟩) (R.move rfl) rfl ?_
                refine JA.val ⟨by kernel_rfl, by kernel_rfl⟩ (calm_only _) (i := 13) rfl ⟨by kernel_rfl, by kernel_rfl, rfl⟩ ⟨_, _, rfl, rfl, rfl⟩ (stab_of (Hle.refl _) ⟨⟨0, rfl⟩, trivial⟩) (R.move rfl) rfl ?_
                refine JA.val ⟨by kernel_rfl, by kernel_rfl⟩ (calm_only _) (i := 14) rfl ⟨by kernel_rfl, by kernel_rfl, rfl⟩ ⟨_, _, rfl, rfl, rfl⟩ (stab_of (Hle.refl _) ⟨⟨0, rfl⟩, trivial⟩) (R.sub_i rfl rfl) rfl ?_
                obtain ⟨y_27, hN_28, hx⟩ := idx_some hx
                obtain ⟨b_29, o_30, cs_31, hE_32, hR_33, hl_34, hc_35⟩ := IsSlice.elem ha_2 hN_28
                obtain rfl := hR_33
                refine JA.val ⟨by kernel_rfl, by kernel_rfl⟩ (calm_only _) (i := 15) rfl ⟨by kernel_rfl, by kernel_rfl, rfl⟩ ⟨_, _, rfl, rfl, rfl⟩ (stab_of (Hle.refl _) ⟨⟨0, rfl⟩, trivial⟩) (R.ix U22 S32 rfl rfl hE_32) rfl ?_
                refine JA.val ⟨by kernel_rfl, by kernel_rfl⟩ (calm_only _) (i := 16) rfl ⟨by kernel_rfl, by kernel_rfl, rfl⟩ ⟨_, _, rfl, rfl, rfl⟩ (stab_of (Hle.refl _) ⟨⟨0, rfl⟩, trivial⟩) (R.ldHE (cs := [.int .i64 y_27.At, .int .u32 (y_27.Birth.toNat : Int), .int .u32 (y_27.Iv.toNat : Int), .int .u32 (y_27.Tag.toNat : Int), .int .u32 (y_27.Sum.toNat : Int)]) (k := 0) (vs := [.int .i64 y_27.At, .int .u32 (y_27.Birth.toNat : Int), .int .u32 (y_27.Iv.toNat : Int), .int .u32 (y_27.Tag.toNat : Int), .int .u32 (y_27.Sum.toNat : Int)]) S32 rfl hc_35 rfl rfl) rfl ?_
                refine JA.val ⟨by kernel_rfl, by kernel_rfl⟩ (calm_only _) (i := 17) rfl ⟨by kernel_rfl, by kernel_rfl, rfl⟩ ⟨_, _, rfl, rfl, rfl⟩ (stab_of (Hle.refl _) ⟨⟨0, rfl⟩, trivial⟩) (R.ldoN 0 (vs := [.int .i64 y_11.At, .int .u32 (y_11.Birth.toNat : Int), .int .u32 (y_11.Iv.toNat : Int), .int .u32 (y_11.Tag.toNat : Int), .int .u32 (y_11.Sum.toNat : Int)]) S32 rfl rfl rfl rfl) rfl ?_
                refine JA.one (i := 18) (by kernel_rfl) ?_
                refine JO.step rfl ⟨_, _, rfl, rfl, rfl⟩ rfl (fun K hK => ?_)
                obtain ⟨x_36, hr_37, hx⟩ := bnd_some hx
                refine JL.callC (vs := [_, _]) (args := [_, _]) (K := []) (rst := [_]) E22 rfl rfl rfl picks0 (dead_order_ok y_27 y_11 _ _ hr_37) rfl (fun u_38 Ku_38 Hu_38 hRu_38 hleu_38 hfu_38 => ?_)
                obtain ⟨rfl, rfl, rfl, -⟩ := hRu_38
                refine JL.nil ?_
                refine hK _ _ _ (stab_of (Hle.refl _) ⟨⟨0, rfl⟩, trivial⟩) ?_
                refine JA.val ⟨by kernel_rfl, by kernel_rfl⟩ (calm_only _) (i := 19) rfl ⟨by kernel_rfl, by kernel_rfl, rfl⟩ ⟨_, _, rfl, rfl, rfl⟩ (stab_of (Hle.refl _) ⟨⟨0, rfl⟩, trivial⟩) (R.geq_i rfl rfl) rfl ?_
                refine JA.val ⟨by kernel_rfl, by kernel_rfl⟩ (calm_only _) (i := 20) rfl ⟨by kernel_rfl, by kernel_rfl, rfl⟩ ⟨_, _, rfl, rfl, rfl⟩ (stab_of (Hle.refl _) ⟨⟨0, rfl⟩, trivial⟩) (R.pickT rfl rfl) rfl ?_
                refine JA.val ⟨by kernel_rfl, by kernel_rfl⟩ (calm_only _) (i := 21) rfl ⟨by kernel_rfl, by kernel_rfl, rfl⟩ trivial (stab_of (Hle.refl _) ⟨⟨0, rfl⟩, trivial⟩) (R.pickF rfl rfl) rfl ?_
                refine JA.doneN (by kernel_rfl) ?_
                refine JN.next ?_
                refine JC.condB rfl (fun c_39 => ?_) (fun c_39 => ?_)
                · replace hx := cond_t c_39 hx
                  refine JC.seq ?_
                  refine JC.region ?_
                  refine JL.val rfl rfl (R.assign rfl) ?_
                  refine JL.nil ?_
                  refine JN.next ?_
                  refine JC.ret ?_
                  refine JN.blkR ?_
                  refine JN.passR ?_
                  obtain rfl := run_done hd_10 hx
                  refine JN.passR ?_
                  refine JN.blkR ?_
                  clear hx; have hx := hxo_5
                  simp only [Sum.elim_inl, Sum.elim_inr] at hx
                  refine JN.passR ?_
                  refine JN.passR ?_
                  refine JN.outP (vs := [.int .i64 8]) (K := []) (rst := [_]) (.inl rfl) rfl rfl (Res.tmp rfl rfl) picks0 ?_
                  obtain rfl := Option.some.inj hx
                  exact ⟨rfl, rfl, rfl, trivial⟩
                · replace hx := cond_f c_39 hx
                  refine JC.skip ?_
                  refine JN.blkN ?_
                  refine JN.next ?_
                  refine JC.region ?_
                  refine JL.val rfl rfl (R.inc rfl rfl (of_decide_eq_true c_10) (IsSlice.lenI ha_2)) ?_
                  refine JL.val rfl rfl (R.move rfl) ?_
                  refine JL.nil ?_
                  replace hx := run_next hd_10 hx
                  refine JN.forget 0 ?_
                  exact JN.cut ⟨s_7 + 1, rfl, rfl, rfl, hx⟩ ⟨rfl, rfl, rfl, rfl, trivial⟩ rfl rfl
              · replace hx := cond_f c_26 hx
                refine JA.no ⟨by kernel_rfl, by kernel_rfl⟩ (calm_only _) (i := 12) rfl ⟨by kernel_rfl, by kernel_rfl, rfl⟩ rfl rfl rfl rfl (stab_of (Hle.refl _) ⟨⟨0, rfl⟩, trivial⟩) rfl ?_
                refine JA.no ⟨by kernel_rfl, by kernel_rfl⟩ (calm_only _) (i := 13) rfl ⟨by kernel_rfl, by kernel_rfl, rfl⟩ rfl rfl rfl rfl (stab_of (Hle.refl _) ⟨⟨0, rfl⟩, trivial⟩) rfl ?_
                refine JA.no ⟨by kernel_rfl, by kernel_rfl⟩ (calm_only _) (i := 14) rfl ⟨by kernel_rfl, by kernel_rfl, rfl⟩ rfl rfl rfl rfl (stab_of (Hle.refl _) ⟨⟨0, rfl⟩, trivial⟩) rfl ?_
                refine JA.no ⟨by kernel_rfl, by kernel_rfl⟩ (calm_only _) (i := 15) rfl ⟨by kernel_rfl, by kernel_rfl, rfl⟩ rfl rfl rfl rfl (stab_of (Hle.refl _) ⟨⟨0, rfl⟩, trivial⟩) rfl ?_
                refine JA.no ⟨by kernel_rfl, by kernel_rfl⟩ (calm_only _) (i := 16) rfl ⟨by kernel_rfl, by kernel_rfl, rfl⟩ rfl rfl rfl rfl (stab_of (Hle.refl _) ⟨⟨0, rfl⟩, trivial⟩) rfl ?_
                refine JA.no ⟨by kernel_rfl, by kernel_rfl⟩ (calm_only _) (i := 17) rfl ⟨by kernel_rfl, by kernel_rfl, rfl⟩ rfl rfl rfl rfl (stab_of (Hle.refl _) ⟨⟨0, rfl⟩, trivial⟩) rfl ?_
                refine JA.no ⟨by kernel_rfl, by kernel_rfl⟩ (calm_only _) (i := 18) rfl ⟨by kernel_rfl, by kernel_rfl, rfl⟩ rfl rfl rfl rfl (stab_of (Hle.refl _) ⟨⟨0, rfl⟩, trivial⟩) rfl ?_
                refine JA.no ⟨by kernel_rfl, by kernel_rfl⟩ (calm_only _) (i := 19) rfl ⟨by kernel_rfl, by kernel_rfl, rfl⟩ rfl rfl rfl rfl (stab_of (Hle.refl _) ⟨⟨0, rfl⟩, trivial⟩) rfl ?_
                refine JA.val ⟨by kernel_rfl, by kernel_rfl⟩ (calm_only _) (i := 20) rfl ⟨by kernel_rfl, by kernel_rfl, rfl⟩ ⟨_, _, rfl, rfl, rfl⟩ (stab_of (Hle.refl _) ⟨⟨0, rfl⟩, trivial⟩) (R.pickF rfl rfl) rfl ?_
                refine JA.val ⟨by kernel_rfl, by kernel_rfl⟩ (calm_only _) (i := 21) rfl ⟨by kernel_rfl, by kernel_rfl, rfl⟩ trivial (stab_of (Hle.refl _) ⟨⟨0, rfl⟩, trivial⟩) (R.pickF rfl rfl) rfl ?_
                refine JA.doneN (by kernel_rfl) ?_
                refine JN.next ?_
                refine JC.condF rfl ?_
                refine JC.skip ?_
                refine JN.blkN ?_
                refine JN.next ?_
                refine JC.region ?_
                refine JL.val rfl rfl (R.inc rfl rfl (of_decide_eq_true c_10) (IsSlice.lenI ha_2)) ?_
                refine JL.val rfl rfl (R.move rfl) ?_
                refine JL.nil ?_
                replace hx := run_next hd_10 hx
                refine JN.forget 0 ?_
                exact JN.cut ⟨s_7 + 1, rfl, rfl, rfl, hx⟩ ⟨rfl, rfl, rfl, rfl, trivial⟩ rfl rfl
        · replace hx := cond_f c_10 hx
          refine JC.exit ?_
          refine JN.passX ?_
          obtain rfl := run_done hd_10 hx
          refine JN.passX ?_
          refine JN.exitSame ?_
          exact JN.cut ⟨(), rfl, rfl, rfl, rfl⟩ trivial rfl rfl

set_option maxHeartbeats 1000000 in
theorem slices_Grow_Ptr_ok (p_1 : Int) (H : Heaplet) (r : List Ptr) (hx : slices_Grow_Ptr p_1 = some r) :
    Does Try.prog 32 #[.slice none 0 0, .int .i64 p_1] [] H (fun u K' H' => ∃ ao0 : Option Addr, ∃ n0 : Nat, ∃ cap0 : Nat, ∃ K0 : Own, u = .slice ao0 n0 cap0 ∧ K' = [K0] ∧ H = H' ∧ RowOf (New H H) R_Ptr 0 32 5 (.slice ao0 n0 cap0) r K0 ∧ (∀ p ∈ K0, p.1 ∉ ids (List.flatten [])) ∧ True) := by
  refine Does.enterL (vs := [.slice none 0 0, .int .i64 p_1]) (l := [(0, .slice none 0 0), (1, .int .i64 p_1)]) Try.func32 rfl rfl ⟨rfl, rfl, trivial⟩ (fun w hlt => ?_)
  rw [slices_Grow_Ptr.eq_1] at hx
  refine JC.seq ?_
  refine JC.region ?_
  refine JL.val rfl rfl (R.assign rfl) ?_
  refine JL.nil ?_
  refine JN.next ?_
  refine JC.seq ?_
  refine JC.seq ?_
  refine JC.region ?_
  refine JL.val rfl rfl (R.move rfl) ?_
  refine JL.val rfl rfl (R.lss_i rfl rfl) ?_
  refine JL.nil ?_
  refine JN.next ?_
  refine JC.condB rfl (fun c_2 => ?_) (fun c_2 => ?_)
  · replace hx := cond_t c_2 hx
    refine JC.region ?_
    cases hx
  · replace hx := cond_f c_2 hx
    refine JC.skip ?_
    refine JN.next ?_
    refine JC.seq ?_
    refine JC.seq ?_
    refine JC.region ?_
    refine JL.val rfl rfl (R.move rfl) ?_
    refine JL.val rfl rfl (R.move rfl) ?_
    refine JL.val rfl rfl (R.capN ⟨_, U22⟩ rfl) ?_
    refine JL.val rfl rfl (R.move rfl) ?_
    refine JL.val rfl rfl (R.len U22 rfl) ?_
    refine JL.val rfl rfl (R.sub_i rfl rfl) ?_
    refine JL.val rfl rfl (R.sub_i rfl rfl) ?_
    refine JL.val rfl rfl (R.assign rfl) ?_
    refine JL.nil ?_
    refine JN.next ?_
    refine JC.seq ?_
    refine JC.region ?_
    refine JL.val rfl rfl (R.move rfl) ?_
    refine JL.val rfl rfl (R.gtr_i rfl rfl) ?_
    refine JL.nil ?_
    refine JN.next ?_
    obtain ⟨t_3, ht_5, hx⟩ := bnd_some hx
    refine JC.cut (fun l o g => ∃ aor_16 : Option Addr, ∃ nr_16 : Nat, ∃ capr_16 : Nat, ∃ Kr_16 : Own, l = [(0, .slice aor_16 nr_16 capr_16)] ∧ o = [Kr_16] ∧ H = g ∧ RowOf (New H H) R_Ptr w.heap.size 32 5 (.slice aor_16 nr_16 capr_16) t_3 Kr_16) ?_ ?_
    · rintro _ _ _ ⟨aor_16, nr_16, capr_16, Kr_16, rfl, rfl, rfl, hr_16⟩
      refine JN.next ?_
      refine JC.seq ?_
      refine JC.region ?_
      refine JL.val rfl rfl (R.move rfl) ?_
      refine JL.val rfl rfl (R.assign rfl) ?_
      refine JL.nil ?_
      refine JN.next ?_
      refine JC.ret ?_
      refine JN.outP (vs := [.slice aor_16 nr_16 capr_16]) (K := [_]) (rst := []) (.inl rfl) rfl rfl (Res.tmp rfl rfl) (picks 0 rfl picks0) ?_
      obtain rfl := Option.some.inj hx
      exact ⟨aor_16, nr_16, capr_16, Kr_16, rfl, rfl, rfl, (RowOf.weak (Nat.zero_le _) hr_16), (new_ids hr_16 hlt), trivial⟩
    · have hxo_4 := hx; clear hx; have hx := ht_5; clear ht_5
      refine JC.condB rfl (fun c_6 => ?_) (fun c_6 => ?_)
      · replace hx := cond_t c_6 hx
        refine JC.region ?_
        refine JL.val rfl rfl (R.move rfl) ?_
        refine JL.val rfl rfl (R.move rfl) ?_
        refine JL.val rfl rfl (R.capN ⟨_, U22⟩ rfl) ?_
        refine JL.val rfl rfl (R.slcN U22 S32 rfl trivial ⟨_, rfl⟩ rfl) ?_
        refine JL.val rfl rfl (R.move rfl) ?_
        obtain ⟨q_9, hm_8, hc_7, hx⟩ := mks_some hx
        refine JL.appZ (HF := New H H) (R := R_Ptr) (y := Ptr.mk 0 (0 : UInt32) (0 : UInt32) (0 : UInt32) (0 : UInt32)) (n := w64 (p_1 - 0)) U22 U3 I32 rfl rfl (fun _ => rfl) R_Ptr.one hm_8 hc_7 rfl rfl (fun vr_10 Kr_10 hr_10 => ?_)
        obtain ⟨aor_10, capr_10, rfl⟩ := RowOf.val hr_10
        refine JL.val rfl rfl (R.move rfl) ?_
        refine JL.val rfl rfl (R.len U22 rfl) ?_
        obtain ⟨m_13, hm_14, hb_12, hx⟩ := slc_some hx
        obtain ⟨vv_11, cv_11, h1v_11, h2v_11, h3v_11, hsv_11⟩ := RowOf.pre hr_10 hm_14 hb_12
        refine JL.val rfl rfl (R.slc (cap := cv_11) (a := 0) (b := 0) (c := (cv_11 : Int)) (m := q_9) (R := R_Ptr) U22 S32 rfl rfl ⟨_, rfl⟩ (by obtain ⟨ao, n, e, _⟩ := h1v_11; exact ⟨ao, n, e, rfl⟩) ⟨hb_12.1, hb_12.2.1, h2v_11⟩ h3v_11 (.inl rfl)) ?_
        obtain ⟨aov_11, capv_11, rfl⟩ := RowOf.val hsv_11
        refine JL.val rfl rfl (R.assign rfl) ?_
        refine JL.nil ?_
        obtain rfl := Option.some.inj hx
        exact JN.cut ⟨aov_11, m_13.length, capv_11, Kr_10, rfl, rfl, rfl, hsv_11⟩ ⟨rfl, trivial⟩ rfl rfl
      · replace hx := cond_f c_6 hx
        refine JC.skip ?_
        obtain rfl := Option.some.inj hx
        refine JN.seg0 ?_
        exact JN.cut ⟨none, 0, 0, [], rfl, rfl, rfl, (RowOf.nil _ _ _ _ _)⟩ ⟨rfl, trivial⟩ rfl rfl

set_option maxHeartbeats 1000000 in
theorem slices_Concat_Ptr_ok (p_1 : List (List Ptr)) (H : Heaplet) {aoa_2 : Option Addr} {na_2 : Nat} {capa_2 : Nat} (ha_2 : IsSlice H (RSl R_Ptr 5) 1 (.slice aoa_2 na_2 capa_2) p_1) (r : List Ptr) (hx : slices_Concat_Ptr p_1 = some r) :
    Does Try.prog 20 #[.slice aoa_2 na_2 capa_2] [] H (fun u K' H' => ∃ ao0 : Option Addr, ∃ n0 : Nat, ∃ cap0 : Nat, ∃ K0 : Own, u = .slice ao0 n0 cap0 ∧ K' = [K0] ∧ H = H' ∧ RowOf (New H H) R_Ptr 0 32 5 (.slice ao0 n0 cap0) r K0 ∧ (∀ p ∈ K0, p.1 ∉ ids (List.flatten [])) ∧ True) := by
  refine Does.enterL (vs := [.slice aoa_2 na_2 capa_2]) (l := [(0, .slice aoa_2 na_2 capa_2)]) Try.func20 rfl rfl ⟨rfl, trivial⟩ (fun w hlt => ?_)
  rw [slices_Concat_Ptr.eq_1] at hx
  refine JC.seq ?_
  refine JC.region ?_
  refine JL.val rfl rfl (R.assign rfl) ?_
  refine JL.nil ?_
  refine JN.next ?_
  refine JC.seq ?_
  refine JC.region ?_
  refine JL.val rfl rfl (R.assign rfl) ?_
  refine JL.nil ?_
  refine JN.next ?_
  refine JC.seq ?_
  refine JC.seq ?_
  refine JC.region ?_
  refine JL.val rfl rfl (R.move rfl) ?_
  refine JL.val rfl rfl (R.lenL U61 rfl (IsSlice.long ha_2)) ?_
  refine JL.val rfl rfl (R.move rfl) ?_
  refine JL.nil ?_
  refine JN.next ?_
  obtain ⟨t_3, ht_5, hx⟩ := bnd_some hx
  refine JC.cut (fun l o g => l = [(0, .slice aoa_2 na_2 capa_2), (3, .int .i64 t_3)] ∧ o = [] ∧ H = g) ?_ ?_
  · rintro _ _ _ ⟨rfl, rfl, rfl⟩
    refine JN.next ?_
    refine JC.seq ?_
    refine JC.region ?_
    refine JL.val rfl rfl (R.move rfl) ?_
    obtain ⟨x_9, hr_10, hx⟩ := bnd_some hx
    refine JL.callC (vs := [_, _]) (args := [_, _]) (K := []) (rst := []) E32 rfl rfl rfl picks0 (slices_Grow_Ptr_ok t_3 _ _ hr_10) rfl (fun u_11 Ku_11 Hu_11 hRu_11 hleu_11 hfu_11 => ?_)
    obtain ⟨aor_12, nr_12, capr_12, Kr_12, rfl, rfl, rfl, hr_12, hnewr_12, -⟩ := hRu_11
    replace hr_12 := (RowOf.base (RowOf.const (H2 := New H H) R_Ptr.const hr_12) (fun p hp => (hfu_11 p (mem_seg 0 rfl hp)).resolve_left (hnewr_12 p hp)))
    refine JL.val rfl rfl (R.assign rfl) ?_
    refine JL.nil ?_
    refine JN.next ?_
    refine JC.seq ?_
    refine JC.seq ?_
    refine JC.region ?_
    refine JL.val rfl rfl (R.move rfl) ?_
    refine JL.val rfl rfl (R.lenL U61 rfl (IsSlice.long ha_2)) ?_
    refine JL.val rfl rfl (R.move rfl) ?_
    refine JL.nil ?_
    refine JN.next ?_
    obtain ⟨t_13, ht_15, hx⟩ := bnd_some hx
    refine JC.cut (fun l o g => ∃ aor_20 : Option Addr, ∃ nr_20 : Nat, ∃ capr_20 : Nat, ∃ Kr_20 : Own, l = [(6, .slice aor_20 nr_20 capr_20)] ∧ o = [Kr_20] ∧ H = g ∧ RowOf (New H H) R_Ptr w.heap.size 32 5 (.slice aor_20 nr_20 capr_20) t_13 Kr_20) ?_ ?_
    · rintro _ _ _ ⟨aor_20, nr_20, capr_20, Kr_20, rfl, rfl, rfl, hr_20⟩
      refine JN.next ?_
      refine JC.seq ?_
      refine JC.region ?_
      refine JL.val rfl rfl (R.move rfl) ?_
      refine JL.val rfl rfl (R.assign rfl) ?_
      refine JL.nil ?_
      refine JN.next ?_
      refine JC.ret ?_
      refine JN.outP (vs := [.slice aor_20 nr_20 capr_20]) (K := [_]) (rst := []) (.inl rfl) rfl rfl (Res.tmp rfl rfl) (picks 0 rfl picks0) ?_
      obtain rfl := Option.some.inj hx
      exact ⟨aor_20, nr_20, capr_20, Kr_20, rfl, rfl, rfl, (RowOf.weak (Nat.zero_le _) hr_20), (new_ids hr_20 hlt), trivial⟩
    · have hxo_14 := hx; clear hx; have hx := ht_15; clear ht_15
      refine JC.block ?_
      refine JC.loopI (fun n l o g => ∃ s_16 : List Ptr × Nat, ∃ aor_19 : Option Addr, ∃ nr_19 : Nat, ∃ capr_19 : Nat, ∃ Kr_19 : Own, l = [(6, .slice aor_19 nr_19 capr_19), (25, .slice aoa_2 na_2 capa_2), (26, .int .i64 (p_1.length : Int)), (27, .int .i64 ((s_16.2 : Nat) : Int))] ∧ o = [Kr_19] ∧ H = g ∧ run (slices_Concat_Ptr_l2 p_1) n s_16 = some t_13 ∧ RowOf (New H H) R_Ptr w.heap.size 32 5 (.slice aor_19 nr_19 capr_19) s_16.1 Kr_19) FUEL ?_ ⟨(x_9, 0), aor_12, nr_12, capr_12, Kr_12, rfl, rfl, rfl, hx, hr_12⟩ ⟨rfl, rfl, rfl, rfl, trivial⟩ ?_
      · rintro _ _ _ ⟨s_16, aor_19, nr_19, capr_19, Kr_19, rfl, rfl, rfl, hn_17, hr_19⟩
        exact run_zero hn_17
      · rintro n_18 _ _ _ ⟨s_16, aor_19, nr_19, capr_19, Kr_19, rfl, rfl, rfl, hn_17, hr_19⟩
        clear hx; obtain ⟨oo_21, hx, hd_20⟩ := run_some hn_17
        rw [slices_Concat_Ptr_l2.eq_1] at hx
        refine JC.seq ?_
        refine JC.region ?_
        refine JL.val rfl rfl (R.lss_i rfl rfl) ?_
        refine JL.nil ?_
        refine JN.next ?_
        refine JC.seq ?_
        refine JC.condB rfl (fun c_20 => ?_) (fun c_20 => ?_)
        · replace hx := cond_t c_20 hx
          refine JC.skip ?_
          refine JN.next ?_
          refine JC.seq ?_
          refine JC.block ?_
          refine JC.seq ?_
          refine JC.region ?_
          obtain ⟨y_21, hN_22, hx⟩ := idx_some hx
          obtain ⟨b_23, o_24, cs_25, hE_26, hR_27, hl_28, hc_29⟩ := IsSlice.elem ha_2 hN_22
          obtain ⟨v_30, rfl, hs_31⟩ := hR_27
          obtain ⟨aov_30, capv_30, rfl⟩ := IsSlice.val hs_31
          refine JL.val rfl rfl (R.ix U61 S22 rfl rfl hE_26) ?_
          refine JL.val rfl rfl (R.ldH S22 rfl (hc_29 0 _ rfl)) ?_
          refine JL.val rfl rfl (R.assign rfl) ?_
          refine JL.nil ?_
          refine JN.next ?_
          refine JC.region ?_
          refine JL.val rfl rfl (R.move rfl) ?_
          refine JL.val rfl rfl (R.move rfl) ?_
          obtain ⟨q_32, hm_33, hl_34, hx⟩ := app_some hx
          refine JL.appF (HF := (New H H)) 0 U22 I32 rfl rfl hr_19 rfl (SrcF.sliceC R_Ptr.const R_Ptr.one U22 hs_31) hm_33 hl_34 rfl (Nat.le_refl _) rfl (fun vr_35 Kr_35 hr_35 => ?_)
          obtain ⟨aor_35, capr_35, rfl⟩ := RowOf.val hr_35
          refine JL.val rfl rfl (R.assign rfl) ?_
          refine JL.nil ?_
          refine JN.blkN ?_
          refine JN.next ?_
          refine JC.region ?_
          refine JL.val rfl rfl (R.inc rfl rfl (of_decide_eq_true c_20) (IsSlice.lenI ha_2)) ?_
          refine JL.val rfl rfl (R.move rfl) ?_
          refine JL.nil ?_
          replace hx := run_next hd_20 hx
          exact JN.cut ⟨(q_32, s_16.2 + 1), aor_35, q_32.length, capr_35, Kr_35, rfl, rfl, rfl, hx, hr_35⟩ ⟨rfl, rfl, rfl, rfl, trivial⟩ rfl rfl
        · replace hx := cond_f c_20 hx
          refine JC.exit ?_
          refine JN.passX ?_
          obtain rfl := run_done hd_20 hx
          refine JN.passX ?_
          refine JN.exitSame ?_
          exact JN.cut ⟨aor_19, nr_19, capr_19, Kr_19, rfl, rfl, rfl, hr_19⟩ ⟨rfl, trivial⟩ rfl rfl
  · have hxo_4 := hx; clear hx; have hx := ht_5; clear ht_5
    refine JC.block ?_
    refine JC.loopI (fun n l o g => ∃ s_6 : Int × Nat, l = [(0, .slice aoa_2 na_2 capa_2), (3, .int .i64 s_6.1), (9, .slice aoa_2 na_2 capa_2), (10, .int .i64 (p_1.length : Int)), (11, .int .i64 ((s_6.2 : Nat) : Int))] ∧ o = [] ∧ H = g ∧ run (slices_Concat_Ptr_l1 p_1) n s_6 = some t_3) FUEL ?_ ⟨(0, 0), rfl, rfl, rfl, hx⟩ ⟨rfl, rfl, rfl, rfl, rfl, trivial⟩ ?_
    · rintro _ _ _ ⟨s_6, rfl, rfl, rfl, hn_7⟩
      exact run_zero hn_7
    · rintro n_8 _ _ _ ⟨s_6, rfl, rfl, rfl, hn_7⟩
      clear hx; obtain ⟨oo_10, hx, hd_9⟩ := run_some hn_7
      rw [slices_Concat_Ptr_l1.eq_1] at hx
      refine JC.seq ?_
      refine JC.region ?_
      refine JL.val rfl rfl (R.lss_i rfl rfl) ?_
      refine JL.nil ?_
      refine JN.next ?_
      refine JC.seq ?_
      refine JC.condB rfl (fun c_9 => ?_) (fun c_9 => ?_)
      · replace hx := cond_t c_9 hx
        refine JC.skip ?_
        refine JN.next ?_
        refine JC.seq ?_
        refine JC.block ?_
        refine JC.seq ?_
        refine JC.region ?_
        obtain ⟨y_10, hN_11, hx⟩ := idx_some hx
        obtain ⟨b_12, o_13, cs_14, hE_15, hR_16, hl_17, hc_18⟩ := IsSlice.elem ha_2 hN_11
        obtain ⟨v_19, rfl, hs_20⟩ := hR_16
        obtain ⟨aov_19, capv_19, rfl⟩ := IsSlice.val hs_20
        refine JL.val rfl rfl (R.ix U61 S22 rfl rfl hE_15) ?_
        refine JL.val rfl rfl (R.ldH S22 rfl (hc_18 0 _ rfl)) ?_
        refine JL.val rfl rfl (R.assign rfl) ?_
        refine JL.nil ?_
        refine JN.next ?_
        refine JC.seq ?_
        refine JC.region ?_
        refine JL.val rfl rfl (R.move rfl) ?_
        refine JL.val rfl rfl (R.move rfl) ?_
        refine JL.val rfl rfl (R.lenL U22 rfl (IsSlice.long hs_20)) ?_
        refine JL.val rfl rfl (R.add_i rfl rfl) ?_
        refine JL.val rfl rfl (R.assign rfl) ?_
        refine JL.nil ?_
        refine JN.next ?_
        refine JC.seq ?_
        refine JC.region ?_
        refine JL.val rfl rfl (R.move rfl) ?_
        refine JL.val rfl rfl (R.lss_i rfl rfl) ?_
        refine JL.nil ?_
        refine JN.next ?_
        refine JC.condB rfl (fun c_21 => ?_) (fun c_21 => ?_)
        · replace hx := cond_t c_21 hx
          refine JC.region ?_
          cases hx
        · replace hx := cond_f c_21 hx
          refine JC.skip ?_
          refine JN.blkN ?_
          refine JN.next ?_
          refine JC.region ?_
          refine JL.val rfl rfl (R.inc rfl rfl (of_decide_eq_true c_9) (IsSlice.lenI ha_2)) ?_
          refine JL.val rfl rfl (R.move rfl) ?_
          refine JL.nil ?_
          replace hx := run_next hd_9 hx
          exact JN.cut ⟨(w64 (s_6.1 + (y_10.length : Int)), s_6.2 + 1), rfl, rfl, rfl, hx⟩ ⟨rfl, rfl, rfl, rfl, rfl, trivial⟩ rfl rfl
      · replace hx := cond_f c_9 hx
        refine JC.exit ?_
        refine JN.passX ?_
        obtain rfl := run_done hd_9 hx
        refine JN.passX ?_
        refine JN.exitSame ?_
        exact JN.cut ⟨rfl, rfl, rfl⟩ ⟨rfl, rfl, trivial⟩ rfl rfl

theorem slices_SortFunc_Ptr_dead_order_ok (p_1 : List Ptr) (H : Heaplet) {ao : Option Addr} {n cap : Nat} {K : Own} (hr : RowOf (New H H) R_Ptr 0 32 5 (.slice ao n cap) p_1 K) (r : List Ptr) (hx : slices_SortFunc_Ptr_dead_order p_1 = some r) :
    Does Try.prog 21 #[.slice ao n cap, .func (.func 22) #[] #[]] [K] H (fun u K' H' => ∃ K0 : Own, u = .tuple #[] ∧ K' = [K0] ∧ H = H' ∧ RowOf (New H H') R_Ptr 0 32 5 (.slice ao n cap) r K0 ∧ True) := by
  rw [slices_SortFunc_Ptr_dead_order.eq_1] at hx
  split at hx
  case isFalse => cases hx
  rename_i hlen
  obtain rfl := Option.some.inj hx
  have h := sort_does (enc := enc_Ptr) (R := R_Ptr) Try.sort21 (by decide) Try.isAgg32 Try.sizeOf32 (fun _ _ _ => Iff.rfl) (fun _ => rfl) enc_Ptr_one (fun x y => (dead_order x y).getD 0) dead_order_swo (g := 22)
    (enters_of Try.func22 (by kernel_rfl) rfl)
    (fun x y => by
      obtain ⟨z, hz⟩ := dead_order_tot x y
      refine Does.mono (dead_order_ok x y (fun _ _ => none) z hz) (fun v K' H' hR => ?_)
      obtain ⟨rfl, -⟩ := hR
      simp [hz]) (H := H) hr hlen
  refine Does.mono h (fun v K' H' hR => ?_)
  obtain ⟨K1, rfl, rfl, rfl, h1, -⟩ := hR
  exact ⟨K1, rfl, rfl, rfl, h1, trivial⟩

theorem slices_Clone_Ptr_ok (p_1 : List Ptr) (H : Heaplet) {ao : Option Addr} {n cap : Nat} (hs : IsSlice H R_Ptr 5 (.slice ao n cap) p_1) (r : List Ptr) (hx : slices_Clone_Ptr p_1 = some r) :
    Does Try.prog 24 #[.slice ao n cap] [] H (fun u K' H' => ∃ ao0 : Option Addr, ∃ n0 : Nat, ∃ cap0 : Nat, ∃ K0 : Own, u = .slice ao0 n0 cap0 ∧ K' = [K0] ∧ H = H' ∧ RowOf (New H H') R_Ptr 0 32 5 (.slice ao0 n0 cap0) r K0 ∧ (∀ p ∈ K0, p.1 ∉ ids (List.flatten [])) ∧ True) := by
  rw [slices_Clone_Ptr.eq_1] at hx
  obtain ⟨q, hq, hl, hx⟩ := app_some hx
  obtain rfl := Option.some.inj hx
  refine Does.enter (vs := [.slice ao n cap]) (l := [(0, .slice ao n cap)]) Try.func24 rfl rfl ⟨rfl, trivial⟩ (fun w => ?_)
  refine JC.seq ?_
  refine JC.region ?_
  refine JL.val rfl rfl (R.assign rfl) ?_
  refine JL.nil ?_
  refine JN.next ?_
  refine JC.seq ?_
  refine JC.seq ?_
  refine JC.region ?_
  refine JL.val rfl rfl (R.move rfl) ?_
  refine JL.val rfl rfl (R.eqlNil U22 rfl rfl) ?_
  refine JL.nil ?_
  refine JN.next ?_
  cases ao with
  | none =>
    have hp := hs.none_nil
    subst hp
    simp only [List.append_nil] at hq
    subst hq
    refine JC.condT rfl ?_
    refine JC.seq ?_
    refine JC.region ?_
    refine JL.val rfl rfl (R.assign rfl) ?_
    refine JL.nil ?_
    refine JN.next ?_
    refine JC.ret ?_
    refine JN.passR ?_
    refine JN.seg0 ?_
    refine JN.outP (vs := [.slice none 0 0]) (K := [_]) (rst := []) (.inl rfl) rfl rfl (Res.tmp rfl rfl) (picks 0 rfl picks0) ?_
    exact ⟨none, 0, 0, [], rfl, rfl, rfl, RowOf.nil _ _ _ _ _, (fun p hp => by cases hp), trivial⟩
  | some a =>
    refine JC.condF rfl ?_
    refine JC.skip ?_
    refine JN.next ?_
    refine JC.seq ?_
    refine JC.region ?_
    refine JL.bslF (HF := New H H) (R := R_Ptr) (ls := []) (vs := []) U22 I32 rfl rfl rfl R_Ptr.one rfl rfl rfl (by simp [maxLen]) rfl (fun v1 K1 h1 => ?_)
    obtain ⟨ao1, cap1, rfl⟩ := RowOf.val h1
    refine JL.val rfl rfl (R.move rfl) ?_
    refine JL.appF (HF := New H H) 0 U22 I32 rfl rfl h1 rfl (SrcF.sliceC R_Ptr.const R_Ptr.one U22 hs) hq hl rfl (Nat.le_refl _) rfl (fun v2 K2 h2 => ?_)
    obtain ⟨ao2, cap2, rfl⟩ := RowOf.val h2
    refine JL.val rfl rfl (R.assign rfl) ?_
    refine JL.nil ?_
    refine JN.next ?_
    refine JC.ret ?_
    refine JN.outP (vs := [.slice ao2 _ cap2]) (K := [_]) (rst := []) (.inl rfl) rfl rfl (Res.tmp rfl rfl) (picks 0 rfl picks0) ?_
    exact ⟨_, _, _, _, rfl, rfl, rfl, RowOf.weak (Nat.zero_le _) h2, (fun p hp hm => by cases hm), trivial⟩

set_option maxHeartbeats 1000000 in
theorem dead_Join_1_ok (p_1 : Ptr) (p_2 : Ptr) (H : Heaplet) (r : Bool) (hx : dead_Join_1 p_1 p_2 = some r) :
    Does Try.prog 25 #[.agg #[.int .i64 p_1.At, .int .u32 (p_1.Birth.toNat : Int), .int .u32 (p_1.Iv.toNat : Int), .int .u32 (p_1.Tag.toNat : Int), .int .u32 (p_1.Sum.toNat : Int)], .agg #[.int .i64 p_2.At, .int .u32 (p_2.Birth.toNat : Int), .int .u32 (p_2.Iv.toNat : Int), .int .u32 (p_2.Tag.toNat : Int), .int .u32 (p_2.Sum.toNat : Int)]] [] H (fun u K' H' => u = .bool r ∧ K' = [] ∧ H = H' ∧ True) := by
  refine Does.enterL (vs := [.agg #[.int .i64 p_1.At, .int .u32 (p_1.Birth.toNat : Int), .int .u32 (p_1.Iv.toNat : Int), .int .u32 (p_1.Tag.toNat : Int), .int .u32 (p_1.Sum.toNat : Int)], .agg #[.int .i64 p_2.At, .int .u32 (p_2.Birth.toNat : Int), .int .u32 (p_2.Iv.toNat : Int), .int .u32 (p_2.Tag.toNat : Int), .int .u32 (p_2.Sum.toNat : Int)]]) (l := [(0, .agg #[.int .i64 p_1.At, .int .u32 (p_1.Birth.toNat : Int), .int .u32 (p_1.Iv.toNat : Int), .int .u32 (p_1.Tag.toNat : Int), .int .u32 (p_1.Sum.toNat : Int)]), (1, .agg #[.int .i64 p_2.At, .int .u32 (p_2.Birth.toNat : Int), .int .u32 (p_2.Iv.toNat : Int), .int .u32 (p_2.Tag.toNat : Int), .int .u32 (p_2.Sum.toNat : Int)])]) Try.func25 rfl rfl ⟨rfl, rfl, trivial⟩ (fun w hlt => ?_)
  rw [dead_Join_1.eq_1] at hx
  refine JC.seq ?_
  refine JC.region ?_
  refine JL.box rfl rfl (fun b_3 hb_3 => ?_)
  refine JL.box rfl rfl (fun b_4 hb_4 => ?_)
  refine JL.val rfl rfl (R.assign rfl) ?_
  refine JL.nil ?_
  refine JN.next ?_
  refine JC.seq ?_
  refine JC.region ?_
  refine JL.val rfl rfl (R.fa F32_0 rfl) ?_
  refine JL.val rfl rfl (R.ldo 1 S3 rfl rfl rfl) ?_
  refine JL.val rfl rfl (R.fa F32_0 rfl) ?_
  refine JL.val rfl rfl (R.ldo 0 S3 rfl rfl rfl) ?_
  refine JL.val rfl rfl (R.eql_i rfl rfl) ?_
  refine JL.val rfl rfl (R.assign rfl) ?_
  refine JL.nil ?_
  refine JN.next ?_
  refine JC.ret ?_
  refine JN.outP (vs := [.bool (decide (p_1.At = p_2.At))]) (K := []) (rst := [_, _]) (.inl rfl) rfl rfl (Res.tmp rfl rfl) picks0 ?_
  obtain rfl := Option.some.inj hx
  exact ⟨rfl, rfl, rfl, trivial⟩

set_option maxHeartbeats 1000000 in
theorem slices_CompactFunc_Ptr_ok (p_1 : List Ptr) (H : Heaplet) {aor_2 : Option Addr} {nr_2 : Nat} {capr_2 : Nat} {Kr_2 : Own} (hr_2 : RowOf H R_Ptr 0 32 5 (.slice aor_2 nr_2 capr_2) p_1 Kr_2) (r : List Ptr) (hx : slices_CompactFunc_Ptr p_1 = some r) :
    Does Try.prog 23 #[.slice aor_2 nr_2 capr_2, .func (.func 25) #[] #[]] [Kr_2] H (fun u K' H' => ∃ ao0 : Option Addr, ∃ n0 : Nat, ∃ cap0 : Nat, ∃ K0 : Own, u = .slice ao0 n0 cap0 ∧ K' = [K0] ∧ H = H' ∧ RowOf (New H H) R_Ptr 0 32 5 (.slice ao0 n0 cap0) r K0 ∧ True) := by
  refine Does.enterL (vs := [.slice aor_2 nr_2 capr_2, .func (.func 25) #[] #[]]) (l := [(0, .slice aor_2 nr_2 capr_2), (1, .func (.func 25) #[] #[])]) Try.func23 rfl rfl ⟨rfl, rfl, trivial⟩ (fun w hlt => ?_)
  replace hr_2 := RowOf.const (H2 := New H H) R_Ptr.const hr_2
  rw [slices_CompactFunc_Ptr.eq_1] at hx
  refine JC.seq ?_
  refine JC.region ?_
  refine JL.val rfl rfl (R.assign rfl) ?_
  refine JL.nil ?_
  refine JN.next ?_
  refine JC.seq ?_
  refine JC.seq ?_
  refine JC.region ?_
  refine JL.val rfl rfl (R.move rfl) ?_
  refine JL.val rfl rfl (R.lenL U22 rfl (RowOf.long hr_2)) ?_
  refine JL.val rfl rfl (R.lss_i rfl rfl) ?_
  refine JL.nil ?_
  refine JN.next ?_
  refine JC.condB rfl (fun c_3 => ?_) (fun c_3 => ?_)
  · replace hx := cond_t c_3 hx
    refine JC.seq ?_
    refine JC.region ?_
    refine JL.val rfl rfl (R.move rfl) ?_
    refine JL.val rfl rfl (R.assign rfl) ?_
    refine JL.nil ?_
    refine JN.next ?_
    refine JC.ret ?_
    refine JN.passR ?_
    refine JN.outP (vs := [.slice aor_2 nr_2 capr_2]) (K := [_]) (rst := []) (.inl rfl) rfl rfl (Res.tmp rfl rfl) (picks 0 rfl picks0) ?_
    obtain rfl := Option.some.inj hx
    exact ⟨aor_2, nr_2, capr_2, Kr_2, rfl, rfl, rfl, (RowOf.weak (Nat.zero_le _) hr_2), trivial⟩
  · replace hx := cond_f c_3 hx
    refine JC.skip ?_
    refine JN.next ?_
    refine JC.seq ?_
    refine JC.seq ?_
    refine JC.region ?_
    refine JL.val rfl rfl (R.assign rfl) ?_
    refine JL.nil ?_
    refine JN.next ?_
    obtain ⟨t_4, ht_6, hx⟩ := bnd_some hx
    refine JC.cut (fun l o g => ∃ t_4a : Unit, l = [(0, .slice aor_2 nr_2 capr_2)] ∧ o = [Kr_2] ∧ H = g ∧ t_4 = .inl t_4a) ?_ ?_
    · rintro _ _ _ ⟨t_4a, rfl, rfl, rfl, rfl⟩
      simp only [Sum.elim_inl] at hx
      refine JN.next ?_
      refine JC.seq ?_
      refine JC.region ?_
      refine JL.val rfl rfl (R.move rfl) ?_
      refine JL.val rfl rfl (R.assign rfl) ?_
      refine JL.nil ?_
      refine JN.next ?_
      refine JC.ret ?_
      refine JN.outP (vs := [.slice aor_2 nr_2 capr_2]) (K := [_]) (rst := []) (.inl rfl) rfl rfl (Res.tmp rfl rfl) (picks 0 rfl picks0) ?_
      obtain rfl := Option.some.inj hx
      exact ⟨aor_2, nr_2, capr_2, Kr_2, rfl, rfl, rfl, (RowOf.weak (Nat.zero_le _) hr_2), trivial⟩
    · have hxo_5 := hx; clear hx; have hx := ht_6; clear ht_6
      refine JC.block ?_
      refine JC.loopI (fun n l o g => ∃ s_7 : Nat, l = [(0, .slice aor_2 nr_2 capr_2), (1, .func (.func 25) #[] #[]), (5, .int .i64 ((s_7 : Nat) : Int))] ∧ o = [Kr_2] ∧ H = g ∧ run (slices_CompactFunc_Ptr_l2 p_1) n s_7 = some t_4) FUEL ?_ ⟨1, rfl, rfl, rfl, hx⟩ ⟨rfl, rfl, rfl, trivial⟩ ?_
      · rintro _ _ _ ⟨s_7, rfl, rfl, rfl, hn_8⟩
        exact run_zero hn_8
      · rintro n_9 _ _ _ ⟨s_7, rfl, rfl, rfl, hn_8⟩
        clear hx; obtain ⟨oo_11, hx, hd_10⟩ := run_some hn_8
        rw [slices_CompactFunc_Ptr_l2.eq_1] at hx
        refine JC.seq ?_
        refine JC.seq ?_
        refine JC.region ?_
        refine JL.val rfl rfl (R.move rfl) ?_
        refine JL.val rfl rfl (R.move rfl) ?_
        refine JL.val rfl rfl (R.lenL U22 rfl (RowOf.long hr_2)) ?_
        refine JL.val rfl rfl (R.lss_i rfl rfl) ?_
        refine JL.nil ?_
        refine JN.next ?_
        refine JC.condB rfl (fun c_10 => ?_) (fun c_10 => ?_)
        · replace hx := cond_t c_10 hx
          refine JC.skip ?_
          refine JN.next ?_
          refine JC.seq ?_
          refine JC.block ?_
          refine JC.seq ?_
          refine JC.draw (so := [_]) 11 rfl Mixed ⟨⟨0, rfl⟩, trivial⟩ ?_
          refine JA.val ⟨by kernel_rfl, by kernel_rfl⟩ (calm_only _) (i := 0) rfl ⟨by kernel_rfl, by kernel_rfl, rfl⟩ trivial (stab_of (Hle.refl _) ⟨⟨0, rfl⟩, trivial⟩) (R.move rfl) rfl ?_
          refine JA.val ⟨by kernel_rfl, by kernel_rfl⟩ (calm_only _) (i := 1) rfl ⟨by kernel_rfl, by kernel_rfl, rfl⟩ trivial (stab_of (Hle.refl _) ⟨⟨0, rfl⟩, trivial⟩) (R.move rfl) rfl ?_
          refine JA.val ⟨by kernel_rfl, by kernel_rfl⟩ (calm_only _) (i := 2) rfl ⟨by kernel_rfl, by kernel_rfl, rfl⟩ trivial (stab_of (Hle.refl _) ⟨⟨0, rfl⟩, trivial⟩) (R.move rfl) rfl ?_
          obtain ⟨y_11, hN_12, hx⟩ := idx_some hx
          obtain ⟨b_13, o_14, cs_15, cur_20, hK_21, hE_16, hR_17, hl_18, hc_19⟩ := RowOf.elem hr_2 hN_12
          subst hK_21
          obtain rfl := hR_17
          refine JA.val ⟨by kernel_rfl, by kernel_rfl⟩ (calm_only _) (i := 3) rfl ⟨by kernel_rfl, by kernel_rfl, rfl⟩ trivial (stab_of (Hle.refl _) ⟨⟨0, rfl⟩, trivial⟩) (R.ix U22 S32 rfl rfl hE_16) rfl ?_
          refine JA.val ⟨by kernel_rfl, by kernel_rfl⟩ (calm_only _) (i := 4) rfl ⟨by kernel_rfl, by kernel_rfl, rfl⟩ trivial (stab_of (Hle.refl _) ⟨⟨0, rfl⟩, trivial⟩) (R.ldoE 0 (cs := [.int .i64 y_11.At, .int .u32 (y_11.Birth.toNat : Int), .int .u32 (y_11.Iv.toNat : Int), .int .u32 (y_11.Tag.toNat : Int), .int .u32 (y_11.Sum.toNat : Int)]) (k := 0) (vs := [.int .i64 y_11.At, .int .u32 (y_11.Birth.toNat : Int), .int .u32 (y_11.Iv.toNat : Int), .int .u32 (y_11.Tag.toNat : Int), .int .u32 (y_11.Sum.toNat : Int)]) S32 rfl rfl hc_19 rfl rfl) rfl ?_
          refine JA.val ⟨by kernel_rfl, by kernel_rfl⟩ (calm_only _) (i := 5) rfl ⟨by kernel_rfl, by kernel_rfl, rfl⟩ trivial (stab_of (Hle.refl _) ⟨⟨0, rfl⟩, trivial⟩) (R.move rfl) rfl ?_
          refine JA.val ⟨by kernel_rfl, by kernel_rfl⟩ (calm_only _) (i := 6) rfl ⟨by kernel_rfl, by kernel_rfl, rfl⟩ trivial (stab_of (Hle.refl _) ⟨⟨0, rfl⟩, trivial⟩) (R.move rfl) rfl ?_
          refine JA.val ⟨by kernel_rfl, by kernel_rfl⟩ (calm_only _) (i := 7) rfl ⟨by kernel_rfl, by kernel_rfl, rfl⟩ trivial (stab_of (Hle.refl _) ⟨⟨0, rfl⟩, trivial⟩) (R.sub_i rfl rfl) rfl ?_
          obtain ⟨y_22, hN_23, hx⟩ := idx_some hx
          obtain ⟨b_24, o_25, cs_26, cur_31, hK_32, hE_27, hR_28, hl_29, hc_30⟩ := RowOf.elem hr_2 hN_23
          obtain ⟨rfl, rfl⟩ : b_13 = b_24 ∧ cur_20 = cur_31 := by simpa using hK_32
          obtain rfl := hR_28
          refine JA.val ⟨by kernel_rfl, by kernel_rfl⟩ (calm_only _) (i := 8) rfl ⟨by kernel_rfl, by kernel_rfl, rfl⟩ trivial (stab_of (Hle.refl _) ⟨⟨0, rfl⟩, trivial⟩) (R.ix U22 S32 rfl rfl hE_27) rfl ?_
          refine JA.val ⟨by kernel_rfl, by kernel_rfl⟩ (calm_only _) (i := 9) rfl ⟨by kernel_rfl, by kernel_rfl, rfl⟩ trivial (stab_of (Hle.refl _) ⟨⟨0, rfl⟩, trivial⟩) (R.ldoE 0 (cs := [.int .i64 y_22.At, .int .u32 (y_22.Birth.toNat : Int), .int .u32 (y_22.Iv.toNat : Int), .int .u32 (y_22.Tag.toNat : Int), .int .u32 (y_22.Sum.toNat : Int)]) (k := 0) (vs := [.int .i64 y_22.At, .int .u32 (y_22.Birth.toNat : Int), .int .u32 (y_22.Iv.toNat : Int), .int .u32 (y_22.Tag.toNat : Int), .int .u32 (y_22.Sum.toNat : Int)]) S32 rfl rfl hc_30 rfl rfl) rfl ?_
          refine JA.one (i := 10) (by kernel_rfl) ?_
          refine JO.step rfl trivial rfl (fun K hK => ?_)
          obtain ⟨x_33, hr_34, hx⟩ := bnd_some hx
          refine JL.callC (vs := [_, _]) (args := [_, _]) (K := []) (rst := [_]) E25 rfl rfl rfl picks0 (dead_Join_1_ok y_11 y_22 _ _ hr_34) rfl (fun u_35 Ku_35 Hu_35 hRu_35 hleu_35 hfu_35 => ?_)
          obtain ⟨rfl, rfl, rfl, -⟩ := hRu_35
          refine JL.nil ?_
          refine hK _ _ _ (stab_of (Hle.refl _) ⟨⟨0, rfl⟩, trivial⟩) ?_
          refine JA.doneN (by kernel_rfl) ?_
          refine JN.next ?_
          refine JC.condB rfl (fun c_36 => ?_) (fun c_36 => ?_)
          · replace hx := cond_t c_36 hx
            refine JC.seq ?_
            refine JC.region ?_
            refine JL.val rfl rfl (R.move rfl) ?_
            refine JL.val rfl rfl (R.move rfl) ?_
            obtain ⟨hb_38, hx⟩ := chk_some hx
            obtain ⟨vv_37, cv_37, h1v_37, h2v_37, h3v_37, hsv_37, hlv_37⟩ := RowOf.cutv hr_2 hb_38
            refine JL.val rfl rfl (R.slc (cap := cv_37) (a := ((s_7 : Nat) : Int)) (b := (p_1.length : Int)) (c := (cv_37 : Int)) (m := p_1) (R := R_Ptr) U22 S32 rfl ⟨_, rfl⟩ rfl (by obtain ⟨ao, n, e, _⟩ := h1v_37; exact ⟨ao, n, e, rfl⟩) ⟨hb_38.1, hb_38.2.1, h2v_37⟩ h3v_37 (.inl rfl)) ?_
            refine JL.val rfl rfl (R.assign rfl) ?_
            refine JL.nil ?_
            refine JN.next ?_
            refine JC.seq ?_
            refine JC.seq ?_
            refine JC.region ?_
            refine JL.val rfl rfl (R.assign rfl) ?_
            refine JL.nil ?_
            refine JN.next ?_
            obtain ⟨t_39, ht_41, hx⟩ := bnd_some hx
            refine JC.cut (fun l o g => ∃ Kr_46 : Own, l = [(0, .slice aor_2 nr_2 capr_2), (5, .int .i64 t_39.2)] ∧ o = [Kr_46] ∧ H = g ∧ RowOf (New H H) R_Ptr 0 32 5 (.slice aor_2 nr_2 capr_2) t_39.1 Kr_46) ?_ ?_
            · rintro _ _ _ ⟨Kr_46, rfl, rfl, rfl, hr_46⟩
              refine JN.next ?_
              refine JC.seq ?_
              refine JC.region ?_
              refine JL.val rfl rfl (R.move rfl) ?_
              refine JL.val rfl rfl (R.move rfl) ?_
              obtain ⟨hb_48, hx⟩ := chk_some hx
              obtain ⟨vv_47, cv_47, h1v_47, h2v_47, h3v_47, hsv_47, hlv_47⟩ := RowOf.cutv hr_46 hb_48
              refine JL.val rfl rfl (R.slc (cap := cv_47) (a := t_39.2) (b := (t_39.1.length : Int)) (c := (cv_47 : Int)) (m := t_39.1) (R := R_Ptr) U22 S32 rfl ⟨_, rfl⟩ rfl (by obtain ⟨ao, n, e, _⟩ := h1v_47; exact ⟨ao, n, e, rfl⟩) ⟨hb_48.1, hb_48.2.1, h2v_47⟩ h3v_47 (.inl rfl)) ?_
              obtain ⟨m_49, hm_50, hx⟩ := clrO_some hx
              refine JL.clearR 0 (y := Ptr.mk 0 (0 : UInt32) (0 : UInt32) (0 : UInt32) (0 : UInt32)) U22 I32 rfl hr_46 rfl hsv_47 (fun _ => rfl) R_Ptr.one hm_50 (fun Kr_51 hr_51 hlr_51 => ?_)
              refine JL.nil ?_
              refine JN.next ?_
              refine JC.seq ?_
              refine JC.region ?_
              refine JL.val rfl rfl (R.move rfl) ?_
              refine JL.val rfl rfl (R.move rfl) ?_
              obtain ⟨m_54, hm_55, hb_53, hx⟩ := slc_some hx
              obtain ⟨vv_52, cv_52, h1v_52, h2v_52, h3v_52, hsv_52⟩ := RowOf.pre hr_51 hm_55 hb_53
              refine JL.val rfl rfl (R.slc (cap := cv_52) (a := 0) (b := t_39.2) (c := (cv_52 : Int)) (m := m_49) (R := R_Ptr) U22 S32 rfl rfl ⟨_, rfl⟩ (by obtain ⟨ao, n, e, _⟩ := h1v_52; exact ⟨ao, n, e, rfl⟩) ⟨hb_53.1, hb_53.2.1, h2v_52⟩ h3v_52 (.inl rfl)) ?_
              obtain ⟨aov_52, capv_52, rfl⟩ := RowOf.val hsv_52
              refine JL.val rfl rfl (R.assign rfl) ?_
              refine JL.nil ?_
              refine JN.next ?_
              refine JC.ret ?_
              refine JN.blkR ?_
              refine JN.passR ?_
              obtain rfl := run_done hd_10 hx
              refine JN.passR ?_
              refine JN.blkR ?_
              clear hx; have hx := hxo_5
              simp only [Sum.elim_inl, Sum.elim_inr] at hx
              refine JN.passR ?_
              refine JN.passR ?_
              refine JN.outP (vs := [.slice aov_52 m_54.length capv_52]) (K := [_]) (rst := []) (.inl rfl) rfl rfl (Res.tmp rfl rfl) (picks 0 rfl picks0) ?_
              obtain rfl := Option.some.inj hx
              exact ⟨aov_52, m_54.length, capv_52, Kr_51, rfl, rfl, rfl, (RowOf.weak (Nat.zero_le _) hsv_52), trivial⟩
            · have hxo_40 := hx; clear hx; have hx := ht_41; clear ht_41
              refine JC.block ?_
              refine JC.loopI (fun n l o g => ∃ s_42 : List Ptr × Int × Int, ∃ Kr_45 : Own, l = [(0, .slice aor_2 nr_2 capr_2), (1, .func (.func 25) #[] #[]), (5, .int .i64 s_42.2.1), (6, vv_37), (7, .int .i64 s_42.2.2)] ∧ o = [Kr_45] ∧ H = g ∧ run (slices_CompactFunc_Ptr_l1 p_1 s_7) n s_42 = some t_39 ∧ RowOf (New H H) R_Ptr 0 32 5 (.slice aor_2 nr_2 capr_2) s_42.1 Kr_45) FUEL ?_ ⟨(p_1, ((s_7 : Nat) : Int), 1), [(b_13, .cells cur_20 32 (0, 0))], rfl, rfl, rfl, hx, hr_2⟩ ⟨rfl, rfl, rfl, rfl, rfl, trivial⟩ ?_
              · rintro _ _ _ ⟨s_42, Kr_45, rfl, rfl, rfl, hn_43, hr_45⟩
                exact run_zero hn_43
              · rintro n_44 _ _ _ ⟨s_42, Kr_45, rfl, rfl, rfl, hn_43, hr_45⟩
                clear hx; obtain ⟨oo_47, hx, hd_46⟩ := run_some hn_43
                rw [slices_CompactFunc_Ptr_l1.eq_1] at hx
                refine JC.seq ?_
                refine JC.seq ?_
                refine JC.region ?_
                refine JL.val rfl rfl (R.move rfl) ?_
                refine JL.val rfl rfl (R.move rfl) ?_
                refine JL.val rfl rfl (R.lenE U22 rfl hlv_37) ?_
                refine JL.val rfl rfl (R.lss_i rfl rfl) ?_
                refine JL.nil ?_
                refine JN.next ?_
                refine JC.condB rfl (fun c_46 => ?_) (fun c_46 => ?_)
                · replace hx := cond_t c_46 hx
                  refine JC.skip ?_
                  refine JN.next ?_
                  refine JC.seq ?_
                  refine JC.block ?_
                  refine JC.seq ?_
                  refine JC.draw (so := [_]) 12 rfl Mixed ⟨⟨0, rfl⟩, trivial⟩ ?_
                  refine JA.val ⟨by kernel_rfl, by kernel_rfl⟩ (calm_only _) (i := 0) rfl ⟨by kernel_rfl, by kernel_rfl, rfl⟩ trivial (stab_of (Hle.refl _) ⟨⟨0, rfl⟩, trivial⟩) (R.move rfl) rfl ?_
                  refine JA.val ⟨by kernel_rfl, by kernel_rfl⟩ (calm_only _) (i := 1) rfl ⟨by kernel_rfl, by kernel_rfl, rfl⟩ trivial (stab_of (Hle.refl _) ⟨⟨0, rfl⟩, trivial⟩) (R.move rfl) rfl ?_
                  refine JA.val ⟨by kernel_rfl, by kernel_rfl⟩ (calm_only _) (i := 2) rfl ⟨by kernel_rfl, by kernel_rfl, rfl⟩ trivial (stab_of (Hle.refl _) ⟨⟨0, rfl⟩, trivial⟩) (R.move rfl) rfl ?_
                  obtain ⟨hp_47, hx⟩ := chk_some hx
                  obtain ⟨y_48, hN_49, hx⟩ := idx_some hx
                  obtain ⟨b_50, o_51, cs_52, cur_57, hK_58, hE_53, hR_54, hl_55, hc_56⟩ := RowOf.elem hr_45 hN_49
                  subst hK_58
                  obtain rfl := hR_54
                  refine JA.val ⟨by kernel_rfl, by kernel_rfl⟩ (calm_only _) (i := 3) rfl ⟨by kernel_rfl, by kernel_rfl, rfl⟩ trivial (stab_of (Hle.refl _) ⟨⟨0, rfl⟩, trivial⟩) (R.ix U22 S32 rfl rfl (ElemAt.sub hsv_37 hE_53 (i := s_42.2.2) (by have := hb_38; have := hp_47; omega) (by have := hb_38; have := hp_47; omega))) rfl ?_
                  refine JA.val ⟨by kernel_rfl, by kernel_rfl⟩ (calm_only _) (i := 4) rfl ⟨by kernel_rfl, by kernel_rfl, rfl⟩ trivial (stab_of (Hle.refl _) ⟨⟨0, rfl⟩, trivial⟩) (R.ldoE 0 (cs := [.int .i64 y_48.At, .int .u32 (y_48.Birth.toNat : Int), .int .u32 (y_48.Iv.toNat : Int), .int .u32 (y_48.Tag.toNat : Int), .int .u32 (y_48.Sum.toNat : Int)]) (k := 0) (vs := [.int .i64 y_48.At, .int .u32 (y_48.Birth.toNat : Int), .int .u32 (y_48.Iv.toNat : Int), .int .u32 (y_48.Tag.toNat : Int), .int .u32 (y_48.Sum.toNat : Int)]) S32 rfl rfl hc_56 rfl rfl) rfl ?_
                  refine JA.val ⟨by kernel_rfl, by kernel_rfl⟩ (calm_only _) (i := 5) rfl ⟨by kernel_rfl, by kernel_rfl, rfl⟩ trivial (stab_of (Hle.refl _) ⟨⟨0, rfl⟩, trivial⟩) (R.move rfl) rfl ?_
                  refine JA.val ⟨by kernel_rfl, by kernel_rfl⟩ (calm_only _) (i := 6) rfl ⟨by kernel_rfl, by kernel_rfl, rfl⟩ trivial (stab_of (Hle.refl _) ⟨⟨0, rfl⟩, trivial⟩) (R.move rfl) rfl ?_
                  refine JA.val ⟨by kernel_rfl, by kernel_rfl⟩ (calm_only _) (i := 7) rfl ⟨by kernel_rfl, by kernel_rfl, rfl⟩ trivial (stab_of (Hle.refl _) ⟨⟨0, rfl⟩, trivial⟩) (R.sub_i rfl rfl) rfl ?_
                  obtain ⟨hp_59, hx⟩ := chk_some hx
                  obtain ⟨y_60, hN_61, hx⟩ := idx_some hx
                  obtain ⟨b_62, o_63, cs_64, cur_69, hK_70, hE_65, hR_66, hl_67, hc_68⟩ := RowOf.elem hr_45 hN_61
                  obtain ⟨rfl, rfl⟩ : b_50 = b_62 ∧ cur_57 = cur_69 := by simpa using hK_70
                  obtain rfl := hR_66
                  refine JA.val ⟨by kernel_rfl, by kernel_rfl⟩ (calm_only _) (i := 8) rfl ⟨by kernel_rfl, by kernel_rfl, rfl⟩ trivial (stab_of (Hle.refl _) ⟨⟨0, rfl⟩, trivial⟩) (R.ix U22 S32 rfl rfl (ElemAt.sub hsv_37 hE_65 (i := w64 (s_42.2.2 - 1)) (by have := hb_38; have := hp_59; omega) (by have := hb_38; have := hp_59; omega))) rfl ?_
                  refine JA.val ⟨by kernel_rfl, by kernel_rfl⟩ (calm_only _) (i := 9) rfl ⟨by kernel_rfl, by kernel_rfl, rfl⟩ trivial (stab_of (Hle.refl _) ⟨⟨0, rfl⟩, trivial⟩) (R.ldoE 0 (cs := [.int .i64 y_60.At, .int .u32 (y_60.Birth.toNat : Int), .int .u32 (y_60.Iv.toNat : Int), .int .u32 (y_60.Tag.toNat : Int), .int .u32 (y_60.Sum.toNat : Int)]) (k := 0) (vs := [.int .i64 y_60.At, .int .u32 (y_60.Birth.toNat : Int), .int .u32 (y_60.Iv.toNat : Int), .int .u32 (y_60.Tag.toNat : Int), .int .u32 (y_60.Sum.toNat : Int)]) S32 rfl rfl hc_68 rfl rfl) rfl ?_
                  refine JA.one (i := 10) (by kernel_rfl) ?_
                  refine JO.step rfl trivial rfl (fun K hK => ?_)
                  obtain ⟨x_71, hr_72, hx⟩ := bnd_some hx
                  refine JL.callC (vs := [_, _]) (args := [_, _]) (K := []) (rst := [_]) E25 rfl rfl rfl picks0 (dead_Join_1_ok y_48 y_60 _ _ hr_72) rfl (fun u_73 Ku_73 Hu_73 hRu_73 hleu_73 hfu_73 => ?_)
                  obtain ⟨rfl, rfl, rfl, -⟩ := hRu_73
                  refine JL.nil ?_
                  refine hK _ _ _ (stab_of (Hle.refl _) ⟨⟨0, rfl⟩, trivial⟩) ?_
                  refine JA.val ⟨by kernel_rfl, by kernel_rfl⟩ (calm_only _) (i := 11) rfl ⟨by kernel_rfl, by kernel_rfl, rfl⟩ trivial (stab_of (Hle.refl _) ⟨⟨0, rfl⟩, trivial⟩) (R.not rfl) rfl ?_
                  refine JA.doneN (by kernel_rfl) ?_
                  refine JN.next ?_
                  refine JC.condB rfl (fun c_74 => ?_) (fun c_74 => ?_)
                  · replace hx := cond_t c_74 hx
                    refine JC.seq ?_
                    refine JC.region ?_
                    refine JL.val rfl rfl (R.move rfl) ?_
                    refine JL.val rfl rfl (R.move rfl) ?_
                    refine JL.val rfl rfl (R.move rfl) ?_
                    refine JL.val rfl rfl (R.move rfl) ?_
                    obtain ⟨hp_75, hx⟩ := chk_some hx
                    obtain ⟨y_76, hN_77, hx⟩ := idx_some hx
                    obtain ⟨b_78, o_79, cs_80, cur_85, hK_86, hE_81, hR_82, hl_83, hc_84⟩ := RowOf.elem hr_45 hN_77
                    obtain ⟨rfl, rfl⟩ : b_50 = b_78 ∧ cur_57 = cur_85 := by simpa using hK_86
                    obtain rfl := hR_82
                    refine JL.val rfl rfl (R.ix U22 S32 rfl rfl (ElemAt.sub hsv_37 hE_81 (i := s_42.2.2) (by have := hb_38; have := hp_75; omega) (by have := hb_38; have := hp_75; omega))) ?_
                    refine JL.val rfl rfl (R.ldoE 0 (cs := [.int .i64 y_76.At, .int .u32 (y_76.Birth.toNat : Int), .int .u32 (y_76.Iv.toNat : Int), .int .u32 (y_76.Tag.toNat : Int), .int .u32 (y_76.Sum.toNat : Int)]) (k := 0) (vs := [.int .i64 y_76.At, .int .u32 (y_76.Birth.toNat : Int), .int .u32 (y_76.Iv.toNat : Int), .int .u32 (y_76.Tag.toNat : Int), .int .u32 (y_76.Sum.toNat : Int)]) S32 rfl rfl hc_84 rfl rfl) ?_
                    obtain ⟨hp_87, hx⟩ := chk_some hx
                    obtain ⟨b_88, o_89, hE_90⟩ := RowOf.place hr_45 hp_87
                    refine JL.val rfl rfl (R.ix U22 S32 rfl rfl hE_90) ?_
                    obtain ⟨m_91, hm_92, hi_93, hx⟩ := setI_some hx
                    refine JL.stE 0 (k := s_42.2.1) (y := y_76) S32 rfl hr_45 rfl hE_90 rfl rfl (rfl) R_Ptr.one hm_92 (fun Kr_94 hr_94 hlr_94 => ?_)
                    refine JL.nil ?_
                    refine JN.next ?_
                    refine JC.region ?_
                    refine JL.val rfl rfl (R.move rfl) ?_
                    refine JL.val rfl rfl (R.add_i rfl rfl) ?_
                    refine JL.val rfl rfl (R.assign rfl) ?_
                    refine JL.nil ?_
                    refine JN.blkN ?_
                    refine JN.next ?_
                    refine JC.region ?_
                    refine JL.val rfl rfl (R.move rfl) ?_
                    refine JL.val rfl rfl (R.add_i rfl rfl) ?_
                    refine JL.val rfl rfl (R.assign rfl) ?_
                    refine JL.nil ?_
                    replace hx := run_next hd_46 hx
                    exact JN.cut ⟨(m_91, w64 (s_42.2.1 + 1), w64 (s_42.2.2 + 1)), Kr_94, rfl, rfl, rfl, hx, hr_94⟩ ⟨rfl, rfl, rfl, rfl, rfl, trivial⟩ rfl rfl
                  · replace hx := cond_f c_74 hx
                    refine JC.skip ?_
                    refine JN.blkN ?_
                    refine JN.next ?_
                    refine JC.region ?_
                    refine JL.val rfl rfl (R.move rfl) ?_
                    refine JL.val rfl rfl (R.add_i rfl rfl) ?_
                    refine JL.val rfl rfl (R.assign rfl) ?_
                    refine JL.nil ?_
                    replace hx := run_next hd_46 hx
                    exact JN.cut ⟨(s_42.1, s_42.2.1, w64 (s_42.2.2 + 1)), [(b_50, .cells cur_57 32 (0, 0))], rfl, rfl, rfl, hx, hr_45⟩ ⟨rfl, rfl, rfl, rfl, rfl, trivial⟩ rfl rfl
                · replace hx := cond_f c_46 hx
                  refine JC.exit ?_
                  refine JN.passX ?_
                  obtain rfl := run_done hd_46 hx
                  refine JN.passX ?_
                  refine JN.exitSame ?_
                  exact JN.cut ⟨Kr_45, rfl, rfl, rfl, hr_45⟩ ⟨rfl, rfl, trivial⟩ rfl rfl
          · replace hx := cond_f c_36 hx
            refine JC.skip ?_
            refine JN.blkN ?_
            refine JN.next ?_
            refine JC.region ?_
            refine JL.val rfl rfl (R.move rfl) ?_
            refine JL.val rfl rfl (R.inc rfl rfl (of_decide_eq_true c_10) (RowOf.lenI hr_2)) ?_
            refine JL.val rfl rfl (R.assign rfl) ?_
            refine JL.nil ?_
            replace hx := run_next hd_10 hx
            exact JN.cut ⟨s_7 + 1, rfl, rfl, rfl, hx⟩ ⟨rfl, rfl, rfl, trivial⟩ rfl rfl
        · replace hx := cond_f c_10 hx
          refine JC.exit ?_
          refine JN.passX ?_
          obtain rfl := run_done hd_10 hx
          refine JN.passX ?_
          refine JN.exitSame ?_
          exact JN.cut ⟨(), rfl, rfl, rfl, rfl⟩ ⟨rfl, trivial⟩ rfl rfl

set_option maxHeartbeats 1000000 in
theorem dead_Join_ok (p_1 : List Ptr) (p_3 : List Ptr) (H : Heaplet) {aoa_2 : Option Addr} {na_2 : Nat} {capa_2 : Nat} {aoa_4 : Option Addr} {na_4 : Nat} {capa_4 : Nat} (ha_2 : IsSlice H R_Ptr 5 (.slice aoa_2 na_2 capa_2) p_1) (ha_4 : IsSlice H R_Ptr 5 (.slice aoa_4 na_4 capa_4) p_3) (r : List Ptr × Int) (hx : dead_Join p_1 p_3 = some r) :
    Does Try.prog 8 #[.slice aoa_2 na_2 capa_2, .slice aoa_4 na_4 capa_4] [] H (fun u K' H' => ∃ ao0 : Option Addr, ∃ n0 : Nat, ∃ cap0 : Nat, ∃ K0 : Own, u = .tuple #[.slice ao0 n0 cap0, .int .i64 r.2] ∧ K' = [K0] ∧ H = H' ∧ RowOf (New H H) R_Ptr 0 32 5 (.slice ao0 n0 cap0) r.1 K0 ∧ (∀ p ∈ K0, p.1 ∉ ids (List.flatten [])) ∧ True) := by
  refine Does.enterL (vs := [.slice aoa_2 na_2 capa_2, .slice aoa_4 na_4 capa_4]) (l := [(0, .slice aoa_2 na_2 capa_2), (1, .slice aoa_4 na_4 capa_4)]) Try.func8 rfl rfl ⟨rfl, rfl, trivial⟩ (fun w hlt => ?_)
  rw [dead_Join.eq_1] at hx
  refine JC.seq ?_
  refine JC.region ?_
  refine JL.val rfl rfl (R.assign rfl) ?_
  refine JL.val rfl rfl (R.assign rfl) ?_
  refine JL.nil ?_
  refine JN.next ?_
  refine JC.seq ?_
  refine JC.seq ?_
  refine JC.region ?_
  refine JL.val rfl rfl (R.move rfl) ?_
  obtain ⟨x_5, hr_6, hx⟩ := bnd_some hx
  refine JL.callC (vs := [_]) (args := [_]) (K := []) (rst := []) E10 rfl rfl rfl picks0 (dead_Check_ok p_1 _ ha_2 _ hr_6) rfl (fun u_7 Ku_7 Hu_7 hRu_7 hleu_7 hfu_7 => ?_)
  obtain ⟨rfl, rfl, rfl, -⟩ := hRu_7
  refine JL.val rfl rfl (R.neq_i rfl rfl) ?_
  refine JL.val rfl rfl (R.move rfl) ?_
  refine JL.gSplit (t := 10) rfl (fun c_8 => ?_) (fun c_8 => ?_)
  · replace hx := cond_t c_8 hx
    refine JL.gNo rfl rfl rfl rfl rfl ?_
    refine JL.gNo rfl rfl rfl rfl rfl ?_
    refine JL.gNo rfl rfl rfl rfl rfl ?_
    refine JL.val rfl rfl (R.pickT rfl rfl) ?_
    refine JL.nil ?_
    refine JN.next ?_
    refine JC.condT rfl ?_
    refine JC.seq ?_
    refine JC.region ?_
    refine JL.val rfl rfl (R.assign rfl) ?_
    refine JL.val rfl rfl (R.assign rfl) ?_
    refine JL.nil ?_
    refine JN.next ?_
    refine JC.ret ?_
    refine JN.passR ?_
    refine JN.seg0 ?_
    refine JN.outP (vs := [.slice none 0 0, .int .i64 8]) (K := [_]) (rst := []) (.inl rfl) rfl rfl (Res.tmp rfl (Res.tmp rfl rfl)) (picks 0 rfl picks0) ?_
    obtain rfl := Option.some.inj hx
    exact ⟨none, 0, 0, [], rfl, rfl, rfl, (RowOf.nil _ _ _ _ _), (fun p hp => by cases hp), trivial⟩
  · replace hx := cond_f c_8 hx
    refine JL.gYes rfl rfl rfl ?_
    refine JL.val rfl rfl (R.move rfl) ?_
    refine JL.gYes rfl rfl rfl ?_
    obtain ⟨x_9, hr_10, hx⟩ := bnd_some hx
    refine JL.callC (vs := [_]) (args := [_]) (K := []) (rst := []) E10 rfl rfl rfl picks0 (dead_Check_ok p_3 _ ha_4 _ hr_10) rfl (fun u_11 Ku_11 Hu_11 hRu_11 hleu_11 hfu_11 => ?_)
    obtain ⟨rfl, rfl, rfl, -⟩ := hRu_11
    refine JL.gYes rfl rfl rfl ?_
    refine JL.val rfl rfl (R.neq_i rfl rfl) ?_
    refine JL.val rfl rfl (R.pickF rfl rfl) ?_
    refine JL.nil ?_
    refine JN.next ?_
    refine JC.condB rfl (fun c_12 => ?_) (fun c_12 => ?_)
    · replace hx := cond_t c_12 hx
      refine JC.seq ?_
      refine JC.region ?_
      refine JL.val rfl rfl (R.assign rfl) ?_
      refine JL.val rfl rfl (R.assign rfl) ?_
      refine JL.nil ?_
      refine JN.next ?_
      refine JC.ret ?_
      refine JN.passR ?_
      refine JN.seg0 ?_
      refine JN.outP (vs := [.slice none 0 0, .int .i64 8]) (K := [_]) (rst := []) (.inl rfl) rfl rfl (Res.tmp rfl (Res.tmp rfl rfl)) (picks 0 rfl picks0) ?_
      obtain rfl := Option.some.inj hx
      exact ⟨none, 0, 0, [], rfl, rfl, rfl, (RowOf.nil _ _ _ _ _), (fun p hp => by cases hp), trivial⟩
    · replace hx := cond_f c_12 hx
      refine JC.skip ?_
      refine JN.next ?_
      refine JC.seq ?_
      refine JC.region ?_
      refine JL.val rfl rfl (R.move rfl) ?_
      refine JL.val rfl rfl (R.move rfl) ?_
      refine JL.bslF (HF := H) (R := (RSl R_Ptr 5)) (ls := [p_1, p_3]) (vs := [.slice aoa_2 na_2 capa_2, .slice aoa_4 na_4 capa_4]) U61 I22 rfl rfl (⟨_, _, rfl, rfl, ⟨_, rfl, ha_2⟩, ⟨_, _, rfl, rfl, ⟨_, rfl, ha_4⟩, rfl⟩⟩) RSl.one rfl rfl rfl (by simp [maxLen]) rfl (fun vr_13 Kr_13 hr_13 => ?_)
      obtain ⟨aor_13, capr_13, rfl⟩ := RowOf.val hr_13
      obtain ⟨x_17, hr_18, hx⟩ := bnd_some hx
      refine JL.callL3 (vs := [_]) E20 rfl rfl (fun H_16 hle_15 hl_14 => slices_Concat_Ptr_ok ([p_1, p_3]) _ (Lent.row' 0 hl_14 (RSl.mono R_Ptr.mono) hle_15 rfl hr_13) _ hr_18) rfl (fun _ _ _ _ hR_20 hf_21 => ?_)
      obtain ⟨aor_19, nr_19, capr_19, Kr_19, rfl, rfl, rfl, hr_19, -, -⟩ := hR_20
      replace hr_19 := RowOf.base (RowOf.const (H2 := New H H) R_Ptr.const hr_19) (fun p hp => hf_21 p (mem_seg 0 rfl hp))
      refine JL.val rfl rfl (R.assign rfl) ?_
      refine JL.nil ?_
      refine JN.next ?_
      refine JC.seq ?_
      refine JC.region ?_
      refine JL.val rfl rfl (R.move rfl) ?_
      obtain ⟨x_22, hr_23, hx⟩ := bnd_some hx
      refine JL.callC (vs := [_, _]) (args := [_, _]) (K := [_]) (rst := [_]) E21 rfl rfl rfl (picks 0 rfl picks0) (slices_SortFunc_Ptr_dead_order_ok x_17 _ (RowOf.weak (Nat.zero_le _) (RowOf.const R_Ptr.const hr_19)) _ hr_23) rfl (fun u_24 Ku_24 Hu_24 hRu_24 hleu_24 hfu_24 => ?_)
      obtain ⟨Kr_25, rfl, rfl, rfl, hr_25, -⟩ := hRu_24
      replace hr_25 := (RowOf.up (RowOf.const (H2 := New H H) R_Ptr.const hr_25) (fun p hp => hfu_24 p (mem_seg 0 rfl hp)) (ids_cons (RowOf.ge hr_19) ids_nil))
      refine JL.nil ?_
      refine JN.next ?_
      refine JC.seq ?_
      refine JC.seq ?_
      refine JC.region ?_
      refine JL.val rfl rfl (R.move rfl) ?_
      obtain ⟨x_29, hr_30, hx⟩ := bnd_some hx
      refine JL.callL3 (vs := [_]) E24 rfl rfl (fun H_28 hle_27 hl_26 => slices_Clone_Ptr_ok x_22 _ (Lent.row' 0 hl_26 R_Ptr.mono hle_27 rfl (hr_25.old R_Ptr.mono)) _ hr_30) rfl (fun _ _ _ _ hR_32 hf_33 => ?_)
      obtain ⟨aor_31, nr_31, capr_31, Kr_31, rfl, rfl, rfl, hr_31, -, -⟩ := hR_32
      replace hr_31 := RowOf.base (RowOf.const (H2 := New H H) R_Ptr.const hr_31) (fun p hp => hf_33 p (mem_seg 0 rfl hp))
      obtain ⟨x_34, hr_35, hx⟩ := bnd_some hx
      refine JL.callC (vs := [_, _]) (args := [_, _]) (K := [_]) (rst := [_, _]) E23 rfl rfl rfl (picks 0 rfl picks0) (slices_CompactFunc_Ptr_ok x_29 _ (RowOf.weak (Nat.zero_le _) (RowOf.const R_Ptr.const hr_31)) _ hr_35) rfl (fun u_36 Ku_36 Hu_36 hRu_36 hleu_36 hfu_36 => ?_)
      obtain ⟨aor_37, nr_37, capr_37, Kr_37, rfl, rfl, rfl, hr_37, -⟩ := hRu_36
      replace hr_37 := (RowOf.up (RowOf.const (H2 := New H H) R_Ptr.const hr_37) (fun p hp => hfu_36 p (mem_seg 0 rfl hp)) (ids_cons (RowOf.ge hr_31) ids_nil))
      refine JL.val rfl rfl (R.lenL U22 rfl (RowOf.long hr_37)) ?_
      refine JL.val rfl rfl (R.move rfl) ?_
      refine JL.val rfl rfl (R.lenL U22 rfl (RowOf.long hr_25)) ?_
      refine JL.val rfl rfl (R.lss_i rfl rfl) ?_
      refine JL.nil ?_
      refine JN.next ?_
      refine JC.condB rfl (fun c_38 => ?_) (fun c_38 => ?_)
      · replace hx := cond_t c_38 hx
        refine JC.seq ?_
        refine JC.region ?_
        refine JL.val rfl rfl (R.assign rfl) ?_
        refine JL.val rfl rfl (R.assign rfl) ?_
        refine JL.nil ?_
        refine JN.next ?_
        refine JC.ret ?_
        refine JN.passR ?_
        refine JN.seg0 ?_
        refine JN.outP (vs := [.slice none 0 0, .int .i64 2]) (K := [_]) (rst := [_, _, _]) (.inl rfl) rfl rfl (Res.tmp rfl (Res.tmp rfl rfl)) (picks 0 rfl picks0) ?_
        obtain rfl := Option.some.inj hx
        exact ⟨none, 0, 0, [], rfl, rfl, rfl, (RowOf.nil _ _ _ _ _), (fun p hp => by cases hp), trivial⟩
      · replace hx := cond_f c_38 hx
        refine JC.skip ?_
        refine JN.next ?_
        refine JC.seq ?_
        refine JC.seq ?_
        refine JC.region ?_
        refine JL.val rfl rfl (R.move rfl) ?_
        refine JL.val rfl rfl (R.lenL U22 rfl (RowOf.long hr_25)) ?_
        refine JL.val rfl rfl (R.gtr_i rfl rfl) ?_
        refine JL.nil ?_
        refine JN.next ?_
        refine JC.condB rfl (fun c_39 => ?_) (fun c_39 => ?_)
        · replace hx := cond_t c_39 hx
          refine JC.seq ?_
          refine JC.region ?_
          refine JL.val rfl rfl (R.assign rfl) ?_
          refine JL.val rfl rfl (R.assign rfl) ?_
          refine JL.nil ?_
          refine JN.next ?_
          refine JC.ret ?_
          refine JN.passR ?_
          refine JN.seg0 ?_
          refine JN.outP (vs := [.slice none 0 0, .int .i64 9]) (K := [_]) (rst := [_, _, _]) (.inl rfl) rfl rfl (Res.tmp rfl (Res.tmp rfl rfl)) (picks 0 rfl picks0) ?_
          obtain rfl := Option.some.inj hx
          exact ⟨none, 0, 0, [], rfl, rfl, rfl, (RowOf.nil _ _ _ _ _), (fun p hp => by cases hp), trivial⟩
        · replace hx := cond_f c_39 hx
          refine JC.skip ?_
          refine JN.next ?_
          refine JC.seq ?_
          refine JC.region ?_
          refine JL.val rfl rfl (R.move rfl) ?_
          refine JL.val rfl rfl (R.assign rfl) ?_
          refine JL.val rfl rfl (R.assign rfl) ?_
          refine JL.nil ?_
          refine JN.next ?_
          refine JC.ret ?_
          refine JN.outP (vs := [.slice aor_19 nr_19 capr_19, .int .i64 0]) (K := [_]) (rst := [_, _]) (.inl rfl) rfl rfl (Res.tmp rfl (Res.tmp rfl rfl)) (picks 1 rfl picks0) ?_
          obtain rfl := Option.some.inj hx
          exact ⟨aor_19, nr_19, capr_19, Kr_25, rfl, rfl, rfl, (RowOf.weak (Nat.zero_le _) hr_25), (new_ids hr_25 hlt), trivial⟩

set_option maxHeartbeats 1000000 in
theorem dead_Add_ok (p_1 : List Ptr) (p_3 : Ptr) (H : Heaplet) {aoa_2 : Option Addr} {na_2 : Nat} {capa_2 : Nat} (ha_2 : IsSlice H R_Ptr 5 (.slice aoa_2 na_2 capa_2) p_1) (r : List Ptr × Int) (hx : dead_Add p_1 p_3 = some r) :
    Does Try.prog 11 #[.slice aoa_2 na_2 capa_2, .agg #[.int .i64 p_3.At, .int .u32 (p_3.Birth.toNat : Int), .int .u32 (p_3.Iv.toNat : Int), .int .u32 (p_3.Tag.toNat : Int), .int .u32 (p_3.Sum.toNat : Int)]] [] H (fun u K' H' => ∃ ao0 : Option Addr, ∃ n0 : Nat, ∃ cap0 : Nat, ∃ K0 : Own, u = .tuple #[.slice ao0 n0 cap0, .int .i64 r.2] ∧ K' = [K0] ∧ H = H' ∧ RowOf (New H H) R_Ptr 0 32 5 (.slice ao0 n0 cap0) r.1 K0 ∧ (∀ p ∈ K0, p.1 ∉ ids (List.flatten [])) ∧ True) := by
  refine Does.enterL (vs := [.slice aoa_2 na_2 capa_2, .agg #[.int .i64 p_3.At, .int .u32 (p_3.Birth.toNat : Int), .int .u32 (p_3.Iv.toNat : Int), .int .u32 (p_3.Tag.toNat : Int), .int .u32 (p_3.Sum.toNat : Int)]]) (l := [(0, .slice aoa_2 na_2 capa_2), (1, .agg #[.int .i64 p_3.At, .int .u32 (p_3.Birth.toNat : Int), .int .u32 (p_3.Iv.toNat : Int), .int .u32 (p_3.Tag.toNat : Int), .int .u32 (p_3.Sum.toNat : Int)])]) Try.func11 rfl rfl ⟨rfl, rfl, trivial⟩ (fun w hlt => ?_)
  rw [dead_Add.eq_1] at hx
  refine JC.seq ?_
  refine JC.region ?_
  refine JL.box rfl rfl (fun b_4 hb_4 => ?_)
  refine JL.val rfl rfl (R.assign rfl) ?_
  refine JL.val rfl rfl (R.assign rfl) ?_
  refine JL.nil ?_
  refine JN.next ?_
  refine JC.seq ?_
  refine JC.seq ?_
  refine JC.region ?_
  refine JL.val rfl rfl (R.ldoN 0 (vs := [.int .i64 p_3.At, .int .u32 (p_3.Birth.toNat : Int), .int .u32 (p_3.Iv.toNat : Int), .int .u32 (p_3.Tag.toNat : Int), .int .u32 (p_3.Sum.toNat : Int)]) S32 rfl rfl rfl rfl) ?_
  refine JL.bslF (HF := (New H H)) (R := R_Ptr) (ls := [p_3]) (vs := [.agg #[.int .i64 p_3.At, .int .u32 (p_3.Birth.toNat : Int), .int .u32 (p_3.Iv.toNat : Int), .int .u32 (p_3.Tag.toNat : Int), .int .u32 (p_3.Sum.toNat : Int)]]) U22 I32 rfl rfl (⟨_, _, rfl, rfl, rfl, rfl⟩) R_Ptr.one rfl rfl rfl (by simp [maxLen]) rfl (fun vr_5 Kr_5 hr_5 => ?_)
  obtain ⟨aor_5, capr_5, rfl⟩ := RowOf.val hr_5
  obtain ⟨x_9, hr_10, hx⟩ := bnd_some hx
  refine JL.callL2 (vs := [_]) (v := .int .i64 x_9) E10 rfl rfl (fun H_8 hle_7 hl_6 => Does.mono (dead_Check_ok ([p_3]) _ (Lent.row' 0 hl_6 R_Ptr.mono hle_7 rfl (hr_5.old R_Ptr.mono)) _ hr_10) (fun _ _ _ h => h.1)) rfl ?_
  refine JL.val rfl rfl (R.neq_i rfl rfl) ?_
  refine JL.nil ?_
  refine JN.next ?_
  refine JC.condB rfl (fun c_11 => ?_) (fun c_11 => ?_)
  · replace hx := cond_t c_11 hx
    refine JC.seq ?_
    refine JC.region ?_
    refine JL.val rfl rfl (R.assign rfl) ?_
    refine JL.val rfl rfl (R.assign rfl) ?_
    refine JL.nil ?_
    refine JN.next ?_
    refine JC.ret ?_
    refine JN.passR ?_
    refine JN.seg0 ?_
    refine JN.outP (vs := [.slice none 0 0, .int .i64 8]) (K := [_]) (rst := [_, _]) (.inl rfl) rfl rfl (Res.tmp rfl (Res.tmp rfl rfl)) (picks 0 rfl picks0) ?_
    obtain rfl := Option.some.inj hx
    exact ⟨none, 0, 0, [], rfl, rfl, rfl, (RowOf.nil _ _ _ _ _), (fun p hp => by cases hp), trivial⟩
  · replace hx := cond_f c_11 hx
    refine JC.skip ?_
    refine JN.next ?_
    refine JC.seq ?_
    refine JC.region ?_
    refine JL.val rfl rfl (R.move rfl) ?_
    refine JL.val rfl rfl (R.ldoN 1 (vs := [.int .i64 p_3.At, .int .u32 (p_3.Birth.toNat : Int), .int .u32 (p_3.Iv.toNat : Int), .int .u32 (p_3.Tag.toNat : Int), .int .u32 (p_3.Sum.toNat : Int)]) S32 rfl rfl rfl rfl) ?_
    refine JL.bslF (HF := (New H H)) (R := R_Ptr) (ls := [p_3]) (vs := [.agg #[.int .i64 p_3.At, .int .u32 (p_3.Birth.toNat : Int), .int .u32 (p_3.Iv.toNat : Int), .int .u32 (p_3.Tag.toNat : Int), .int .u32 (p_3.Sum.toNat : Int)]]) U22 I32 rfl rfl (⟨_, _, rfl, rfl, rfl, rfl⟩) R_Ptr.one rfl rfl rfl (by simp [maxLen]) rfl (fun vr_12 Kr_12 hr_12 => ?_)
    obtain ⟨aor_12, capr_12, rfl⟩ := RowOf.val hr_12
    obtain ⟨x_16, hr_17, hx⟩ := bnd_some hx
    refine JL.callL3 (vs := [_, _]) E8 rfl rfl (fun H_15 hle_14 hl_13 => dead_Join_ok p_1 ([p_3]) _ (IsSlice.mono R_Ptr.mono hle_14 ha_2) (Lent.row' 0 hl_13 R_Ptr.mono hle_14 rfl (hr_12.old R_Ptr.mono)) _ hr_17) rfl (fun _ _ _ _ hR_19 hf_20 => ?_)
    obtain ⟨aor_18, nr_18, capr_18, Kr_18, rfl, rfl, rfl, hr_18, -, -⟩ := hR_19
    replace hr_18 := RowOf.base (RowOf.const (H2 := New H H) R_Ptr.const hr_18) (fun p hp => hf_20 p (mem_seg 0 rfl hp))
    refine JL.val rfl rfl (R.extract rfl rfl) ?_
    refine JL.val rfl rfl (R.extract rfl rfl) ?_
    refine JL.val rfl rfl (R.assign rfl) ?_
    refine JL.val rfl rfl (R.assign rfl) ?_
    refine JL.nil ?_
    refine JN.next ?_
    refine JC.ret ?_
    refine JN.outP (vs := [.slice aor_18 nr_18 capr_18, .int .i64 x_16.2]) (K := [_]) (rst := [_, _, _]) (.inl rfl) rfl rfl (Res.tmp rfl (Res.tmp rfl rfl)) (picks 0 rfl picks0) ?_
    obtain rfl := Option.some.inj hx
    exact ⟨aor_18, nr_18, capr_18, Kr_18, rfl, rfl, rfl, (RowOf.weak (Nat.zero_le _) hr_18), (new_ids hr_18 hlt), trivial⟩

set_option maxHeartbeats 1000000 in
theorem law16_alive_ok (H : Heaplet) (r : Bool) (hx : law16_alive = some r) :
    Does Try.prog 7 #[] [] H (fun u K' H' => u = .bool r ∧ K' = [] ∧ H = H' ∧ True) := by
  refine Does.enterL (vs := []) (l := []) Try.func7 rfl rfl trivial (fun w hlt => ?_)
  rw [law16_alive.eq_1] at hx
  refine JC.seq ?_
  refine JC.region ?_
  refine JL.val rfl rfl (R.assign rfl) ?_
  refine JL.nil ?_
  refine JN.next ?_
  refine JC.seq ?_
  refine JC.region ?_
  obtain ⟨x_1, hr_2, hx⟩ := bnd_some hx
  refine JL.callC (vs := [_, _]) (args := [_, _]) (K := []) (rst := []) E19 rfl rfl rfl picks0 (law16_at_ok 20 (1 : UInt32) _ _ hr_2) rfl (fun u_3 Ku_3 Hu_3 hRu_3 hleu_3 hfu_3 => ?_)
  obtain ⟨rfl, rfl, rfl, -⟩ := hRu_3
  obtain ⟨x_4, hr_5, hx⟩ := bnd_some hx
  refine JL.callC (vs := [_, _]) (args := [_, _]) (K := []) (rst := []) E19 rfl rfl rfl picks0 (law16_at_ok 30 (1 : UInt32) _ _ hr_5) rfl (fun u_6 Ku_6 Hu_6 hRu_6 hleu_6 hfu_6 => ?_)
  obtain ⟨rfl, rfl, rfl, -⟩ := hRu_6
  refine JL.bslF (HF := (New H H)) (R := R_Ptr) (ls := [x_1, x_4]) (vs := [.agg #[.int .i64 x_1.At, .int .u32 (x_1.Birth.toNat : Int), .int .u32 (x_1.Iv.toNat : Int), .int .u32 (x_1.Tag.toNat : Int), .int .u32 (x_1.Sum.toNat : Int)], .agg #[.int .i64 x_4.At, .int .u32 (x_4.Birth.toNat : Int), .int .u32 (x_4.Iv.toNat : Int), .int .u32 (x_4.Tag.toNat : Int), .int .u32 (x_4.Sum.toNat : Int)]]) U22 I32 rfl rfl (⟨_, _, rfl, rfl, rfl, ⟨_, _, rfl, rfl, rfl, rfl⟩⟩) R_Ptr.one rfl rfl rfl (by simp [maxLen]) rfl (fun vr_7 Kr_7 hr_7 => ?_)
  obtain ⟨aor_7, capr_7, rfl⟩ := RowOf.val hr_7
  obtain ⟨x_8, hr_9, hx⟩ := bnd_some hx
  refine JL.callC (vs := [_, _]) (args := [_, _]) (K := []) (rst := [_]) E19 rfl rfl rfl picks0 (law16_at_ok 25 (1 : UInt32) _ _ hr_9) rfl (fun u_10 Ku_10 Hu_10 hRu_10 hleu_10 hfu_10 => ?_)
  obtain ⟨rfl, rfl, rfl, -⟩ := hRu_10
  obtain ⟨x_14, hr_15, hx⟩ := bnd_some hx
  refine JL.callL3 (vs := [_, _]) E11 rfl rfl (fun H_13 hle_12 hl_11 => dead_Add_ok ([x_1, x_4]) x_8 _ (Lent.row' 0 hl_11 R_Ptr.mono hle_12 rfl (hr_7.old R_Ptr.mono)) _ hr_15) rfl (fun _ _ _ _ hR_17 hf_18 => ?_)
  obtain ⟨aor_16, nr_16, capr_16, Kr_16, rfl, rfl, rfl, hr_16, -, -⟩ := hR_17
  replace hr_16 := RowOf.base (RowOf.const (H2 := New H H) R_Ptr.const hr_16) (fun p hp => hf_18 p (mem_seg 0 rfl hp))
  refine JL.val rfl rfl (R.move rfl) ?_
  refine JL.val rfl rfl (R.extract rfl rfl) ?_
  refine JL.val rfl rfl (R.extract rfl rfl) ?_
  refine JL.val rfl rfl (R.assign rfl) ?_
  refine JL.val rfl rfl (R.assign rfl) ?_
  refine JL.nil ?_
  refine JN.next ?_
  refine JC.seq ?_
  obtain ⟨t_19, ht_21, hx⟩ := bnd_some hx
  refine JC.cut (fun l o g => l = [(0, .bool t_19)] ∧ o = [] ∧ H = g) ?_ ?_
  · rintro _ _ _ ⟨rfl, rfl, rfl⟩
    refine JN.next ?_
    refine JC.ret ?_
    refine JN.outP (vs := [.bool t_19]) (K := []) (rst := []) (.inl rfl) rfl rfl (Res.tmp rfl rfl) picks0 ?_
    obtain rfl := Option.some.inj hx
    exact ⟨rfl, rfl, rfl, trivial⟩
  · have hxo_20 := hx; clear hx; have hx := ht_21; clear ht_21
    refine JC.region ?_
    refine JL.val rfl rfl (R.move rfl) ?_
    refine JL.val rfl rfl (R.eql_i rfl rfl) ?_
    refine JL.val rfl rfl (R.move rfl) ?_
    refine JL.gSplit (t := 13) rfl (fun c_22 => ?_) (fun c_22 => ?_)
    · replace hx := cond_t c_22 hx
      refine JL.gYes rfl rfl rfl ?_
      refine JL.val rfl rfl (R.move rfl) ?_
      refine JL.gYes rfl rfl rfl ?_
      refine JL.val rfl rfl (R.lenL U22 rfl (RowOf.long hr_16)) ?_
      refine JL.gYes rfl rfl rfl ?_
      refine JL.val rfl rfl (R.eql_i rfl rfl) ?_
      refine JL.val rfl rfl (R.pickT rfl rfl) ?_
      refine JL.val rfl rfl (R.move rfl) ?_
      refine JL.gSplit (t := 18) rfl (fun c_23 => ?_) (fun c_23 => ?_)
      · replace hx := cond_t c_23 hx
        refine JL.gYes rfl rfl rfl ?_
        refine JL.val rfl rfl (R.move rfl) ?_
        refine JL.gYes rfl rfl rfl ?_
        obtain ⟨y_24, hN_25, hx⟩ := idx_some hx
        obtain ⟨b_26, o_27, cs_28, cur_33, hK_34, hE_29, hR_30, hl_31, hc_32⟩ := RowOf.elem hr_16 hN_25
        subst hK_34
        obtain rfl := hR_30
        refine JL.val rfl rfl (R.ix U22 S32 rfl rfl hE_29) ?_
        refine JL.gYes rfl rfl rfl ?_
        refine JL.val rfl rfl (R.fa F32_0 rfl) ?_
        refine JL.gYes rfl rfl rfl ?_
        refine JL.val rfl rfl (R.ldo 0 S3 rfl rfl (hc_32 0 _ rfl)) ?_
        refine JL.gYes rfl rfl rfl ?_
        refine JL.val rfl rfl (R.eql_i rfl rfl) ?_
        refine JL.val rfl rfl (R.pickT rfl rfl) ?_
        refine JL.val rfl rfl (R.move rfl) ?_
        refine JL.gSplit (t := 25) rfl (fun c_35 => ?_) (fun c_35 => ?_)
        · replace hx := cond_t c_35 hx
          refine JL.gYes rfl rfl rfl ?_
          refine JL.val rfl rfl (R.move rfl) ?_
          refine JL.gYes rfl rfl rfl ?_
          obtain ⟨y_36, hN_37, hx⟩ := idx_some hx
          obtain ⟨b_38, o_39, cs_40, cur_45, hK_46, hE_41, hR_42, hl_43, hc_44⟩ := RowOf.elem hr_16 hN_37
          obtain ⟨rfl, rfl⟩ : b_26 = b_38 ∧ cur_33 = cur_45 := by simpa using hK_46
          obtain rfl := hR_42
          refine JL.val rfl rfl (R.ix U22 S32 rfl rfl hE_41) ?_
          refine JL.gYes rfl rfl rfl ?_
          refine JL.val rfl rfl (R.fa F32_0 rfl) ?_
          refine JL.gYes rfl rfl rfl ?_
          refine JL.val rfl rfl (R.ldo 0 S3 rfl rfl (hc_44 0 _ rfl)) ?_
          refine JL.gYes rfl rfl rfl ?_
          refine JL.val rfl rfl (R.eql_i rfl rfl) ?_
          refine JL.val rfl rfl (R.pickT rfl rfl) ?_
          refine JL.val rfl rfl (R.move rfl) ?_
          refine JL.gSplit (t := 32) rfl (fun c_47 => ?_) (fun c_47 => ?_)
          · replace hx := cond_t c_47 hx
            refine JL.gYes rfl rfl rfl ?_
            refine JL.val rfl rfl (R.move rfl) ?_
            refine JL.gYes rfl rfl rfl ?_
            obtain ⟨y_48, hN_49, hx⟩ := idx_some hx
            obtain ⟨b_50, o_51, cs_52, cur_57, hK_58, hE_53, hR_54, hl_55, hc_56⟩ := RowOf.elem hr_16 hN_49
            obtain ⟨rfl, rfl⟩ : b_26 = b_50 ∧ cur_33 = cur_57 := by simpa using hK_58
            obtain rfl := hR_54
            refine JL.val rfl rfl (R.ix U22 S32 rfl rfl hE_53) ?_
            refine JL.gYes rfl rfl rfl ?_
            refine JL.val rfl rfl (R.fa F32_0 rfl) ?_
            refine JL.gYes rfl rfl rfl ?_
            refine JL.val rfl rfl (R.ldo 0 S3 rfl rfl (hc_56 0 _ rfl)) ?_
            refine JL.gYes rfl rfl rfl ?_
            refine JL.val rfl rfl (R.eql_i rfl rfl) ?_
            refine JL.val rfl rfl (R.pickT rfl rfl) ?_
            refine JL.val rfl rfl (R.assign rfl) ?_
            refine JL.nil ?_
            obtain rfl := Option.some.inj hx
            refine JN.forget 1 ?_
            refine JN.forget 0 ?_
            exact JN.cut ⟨rfl, rfl, rfl⟩ ⟨rfl, trivial⟩ rfl rfl
          · replace hx := cond_f c_47 hx
            refine JL.gNo rfl rfl rfl rfl rfl ?_
            refine JL.gNo rfl rfl rfl rfl rfl ?_
            refine JL.gNo rfl rfl rfl rfl rfl ?_
            refine JL.gNo rfl rfl rfl rfl rfl ?_
            refine JL.gNo rfl rfl rfl rfl rfl ?_
            refine JL.val rfl rfl (R.pickF rfl rfl) ?_
            refine JL.val rfl rfl (R.assign rfl) ?_
            refine JL.nil ?_
            obtain rfl := Option.some.inj hx
            refine JN.forget 1 ?_
            refine JN.forget 0 ?_
            exact JN.cut ⟨rfl, rfl, rfl⟩ ⟨rfl, trivial⟩ rfl rfl
        · replace hx := cond_f c_35 hx
          refine JL.gNo rfl rfl rfl rfl rfl ?_
          refine JL.gNo rfl rfl rfl rfl rfl ?_
          refine JL.gNo rfl rfl rfl rfl rfl ?_
          refine JL.gNo rfl rfl rfl rfl rfl ?_
          refine JL.gNo rfl rfl rfl rfl rfl ?_
          refine JL.val rfl rfl (R.pickF rfl rfl) ?_
          refine JL.val rfl rfl (R.move rfl) ?_
          refine JL.gNo rfl rfl rfl rfl rfl ?_
          refine JL.gNo rfl rfl rfl rfl rfl ?_
          refine JL.gNo rfl rfl rfl rfl rfl ?_
          refine JL.gNo rfl rfl rfl rfl rfl ?_
          refine JL.gNo rfl rfl rfl rfl rfl ?_
          refine JL.val rfl rfl (R.pickF rfl rfl) ?_
          refine JL.val rfl rfl (R.assign rfl) ?_
          refine JL.nil ?_
          obtain rfl := Option.some.inj hx
          refine JN.forget 1 ?_
          refine JN.forget 0 ?_
          exact JN.cut ⟨rfl, rfl, rfl⟩ ⟨rfl, trivial⟩ rfl rfl
      · replace hx := cond_f c_23 hx
        refine JL.gNo rfl rfl rfl rfl rfl ?_
        refine JL.gNo rfl rfl rfl rfl rfl ?_
        refine JL.gNo rfl rfl rfl rfl rfl ?_
        refine JL.gNo rfl rfl rfl rfl rfl ?_
        refine JL.gNo rfl rfl rfl rfl rfl ?_
        refine JL.val rfl rfl (R.pickF rfl rfl) ?_
        refine JL.val rfl rfl (R.move rfl) ?_
        refine JL.gNo rfl rfl rfl rfl rfl ?_
        refine JL.gNo rfl rfl rfl rfl rfl ?_
        refine JL.gNo rfl rfl rfl rfl rfl ?_
        refine JL.gNo rfl rfl rfl rfl rfl ?_
        refine JL.gNo rfl rfl rfl rfl rfl ?_
        refine JL.val rfl rfl (R.pickF rfl rfl) ?_
        refine JL.val rfl rfl (R.move rfl) ?_
        refine JL.gNo rfl rfl rfl rfl rfl ?_
        refine JL.gNo rfl rfl rfl rfl rfl ?_
        refine JL.gNo rfl rfl rfl rfl rfl ?_
        refine JL.gNo rfl rfl rfl rfl rfl ?_
        refine JL.gNo rfl rfl rfl rfl rfl ?_
        refine JL.val rfl rfl (R.pickF rfl rfl) ?_
        refine JL.val rfl rfl (R.assign rfl) ?_
        refine JL.nil ?_
        obtain rfl := Option.some.inj hx
        refine JN.forget 1 ?_
        refine JN.forget 0 ?_
        exact JN.cut ⟨rfl, rfl, rfl⟩ ⟨rfl, trivial⟩ rfl rfl
    · replace hx := cond_f c_22 hx
      refine JL.gNo rfl rfl rfl rfl rfl ?_
      refine JL.gNo rfl rfl rfl rfl rfl ?_
      refine JL.gNo rfl rfl rfl rfl rfl ?_
      refine JL.val rfl rfl (R.pickF rfl rfl) ?_
      refine JL.val rfl rfl (R.move rfl) ?_
      refine JL.gNo rfl rfl rfl rfl rfl ?_
      refine JL.gNo rfl rfl rfl rfl rfl ?_
      refine JL.gNo rfl rfl rfl rfl rfl ?_
      refine JL.gNo rfl rfl rfl rfl rfl ?_
      refine JL.gNo rfl rfl rfl rfl rfl ?_
      refine JL.val rfl rfl (R.pickF rfl rfl) ?_
      refine JL.val rfl rfl (R.move rfl) ?_
      refine JL.gNo rfl rfl rfl rfl rfl ?_
      refine JL.gNo rfl rfl rfl rfl rfl ?_
      refine JL.gNo rfl rfl rfl rfl rfl ?_
      refine JL.gNo rfl rfl rfl rfl rfl ?_
      refine JL.gNo rfl rfl rfl rfl rfl ?_
      refine JL.val rfl rfl (R.pickF rfl rfl) ?_
      refine JL.val rfl rfl (R.move rfl) ?_
      refine JL.gNo rfl rfl rfl rfl rfl ?_
      refine JL.gNo rfl rfl rfl rfl rfl ?_
      refine JL.gNo rfl rfl rfl rfl rfl ?_
      refine JL.gNo rfl rfl rfl rfl rfl ?_
      refine JL.gNo rfl rfl rfl rfl rfl ?_
      refine JL.val rfl rfl (R.pickF rfl rfl) ?_
      refine JL.val rfl rfl (R.assign rfl) ?_
      refine JL.nil ?_
      obtain rfl := Option.some.inj hx
      refine JN.forget 1 ?_
      refine JN.forget 0 ?_
      exact JN.cut ⟨rfl, rfl, rfl⟩ ⟨rfl, trivial⟩ rfl rfl

set_option maxHeartbeats 1000000 in
theorem law16_same_ok (p_1 : List Ptr) (p_3 : List Ptr) (H : Heaplet) {aoa_2 : Option Addr} {na_2 : Nat} {capa_2 : Nat} {aoa_4 : Option Addr} {na_4 : Nat} {capa_4 : Nat} (ha_2 : IsSlice H R_Ptr 5 (.slice aoa_2 na_2 capa_2) p_1) (ha_4 : IsSlice H R_Ptr 5 (.slice aoa_4 na_4 capa_4) p_3) (r : Bool) (hx : law16_same p_1 p_3 = some r) :
    Does Try.prog 9 #[.slice aoa_2 na_2 capa_2, .slice aoa_4 na_4 capa_4] [] H (fun u K' H' => u = .bool r ∧ K' = [] ∧ H = H' ∧ True) := by
  refine Does.enterL (vs := [.slice aoa_2 na_2 capa_2, .slice aoa_4 na_4 capa_4]) (l := [(0, .slice aoa_2 na_2 capa_2), (1, .slice aoa_4 na_4 capa_4)]) Try.func9 rfl rfl ⟨rfl, rfl, trivial⟩ (fun w hlt => ?_)
  rw [law16_same.eq_1] at hx
  refine JC.seq ?_
  refine JC.region ?_
  refine JL.val rfl rfl (R.assign rfl) ?_
  refine JL.nil ?_
  refine JN.next ?_
  refine JC.seq ?_
  refine JC.seq ?_
  refine JC.region ?_
  refine JL.val rfl rfl (R.assign rfl) ?_
  refine JL.nil ?_
  refine JN.next ?_
  obtain ⟨t_5, ht_7, hx⟩ := bnd_some hx
  refine JC.cut (fun l o g => ∃ t_5a : Unit, l = [(0, .slice aoa_2 na_2 capa_2), (1, .slice aoa_4 na_4 capa_4)] ∧ o = [] ∧ H = g ∧ t_5 = .inl t_5a) ?_ ?_
  · rintro _ _ _ ⟨t_5a, rfl, rfl, rfl, rfl⟩
    simp only [Sum.elim_inl] at hx
    refine JN.next ?_
    refine JC.seq ?_
    refine JC.region ?_
    refine JL.val rfl rfl (R.move rfl) ?_
    refine JL.val rfl rfl (R.lenL U22 rfl (IsSlice.long ha_2)) ?_
    refine JL.val rfl rfl (R.move rfl) ?_
    refine JL.val rfl rfl (R.lenL U22 rfl (IsSlice.long ha_4)) ?_
    refine JL.val rfl rfl (R.eql_i rfl rfl) ?_
    refine JL.val rfl rfl (R.assign rfl) ?_
    refine JL.nil ?_
    refine JN.next ?_
    refine JC.ret ?_
    refine JN.outP (vs := [.bool (decide ((p_1.length : Int) = (p_3.length : Int)))]) (K := []) (rst := []) (.inl rfl) rfl rfl (Res.tmp rfl rfl) picks0 ?_
    obtain rfl := Option.some.inj hx
    exact ⟨rfl, rfl, rfl, trivial⟩
  · have hxo_6 := hx; clear hx; have hx := ht_7; clear ht_7
    refine JC.block ?_
    refine JC.loopI (fun n l o g => ∃ s_8 : Nat, l = [(0, .slice aoa_2 na_2 capa_2), (1, .slice aoa_4 na_4 capa_4), (5, .int .i64 ((s_8 : Nat) : Int))] ∧ o = [] ∧ H = g ∧ run (law16_same_l1 p_1 p_3) n s_8 = some t_5) FUEL ?_ ⟨0, rfl, rfl, rfl, hx⟩ ⟨rfl, rfl, rfl, trivial⟩ ?_
    · rintro _ _ _ ⟨s_8, rfl, rfl, rfl, hn_9⟩
      exact run_zero hn_9
    · rintro n_10 _ _ _ ⟨s_8, rfl, rfl, rfl, hn_9⟩
      clear hx; obtain ⟨oo_12, hx, hd_11⟩ := run_some hn_9
      rw [law16_same_l1.eq_1] at hx
      refine JC.seq ?_
      refine JC.seq ?_
      refine JC.region ?_
      refine JL.val rfl rfl (R.move rfl) ?_
      refine JL.val rfl rfl (R.move rfl) ?_
      refine JL.val rfl rfl (R.lenL U22 rfl (IsSlice.long ha_2)) ?_
      refine JL.val rfl rfl (R.lss_i rfl rfl) ?_
      refine JL.val rfl rfl (R.move rfl) ?_
      refine JL.gSplit (t := 10) rfl (fun c_11 => ?_) (fun c_11 => ?_)
      · replace hx := cond_t c_11 hx
        refine JL.gYes rfl rfl rfl ?_
        refine JL.val rfl rfl (R.move rfl) ?_
        refine JL.gYes rfl rfl rfl ?_
        refine JL.val rfl rfl (R.move rfl) ?_
        refine JL.gYes rfl rfl rfl ?_
        refine JL.val rfl rfl (R.lenL U22 rfl (IsSlice.long ha_4)) ?_
        refine JL.gYes rfl rfl rfl ?_
        refine JL.val rfl rfl (R.lss_i rfl rfl) ?_
        refine JL.val rfl rfl (R.pickT rfl rfl) ?_
        refine JL.nil ?_
        refine JN.next ?_
        refine JC.condB rfl (fun c_12 => ?_) (fun c_12 => ?_)
        · replace hx := cond_t c_12 hx
          refine JC.skip ?_
          refine JN.next ?_
          refine JC.seq ?_
          refine JC.block ?_
          refine JC.seq ?_
          refine JC.draw (so := []) 9 rfl Mixed trivial ?_
          refine JA.val ⟨by kernel_rfl, by kernel_rfl⟩ (calm_only _) (i := 0) rfl ⟨by kernel_rfl, by kernel_rfl, rfl⟩ trivial (stab_of (Hle.refl _) trivial) (R.move rfl) rfl ?_
          refine JA.val ⟨by kernel_rfl, by kernel_rfl⟩ (calm_only _) (i := 1) rfl ⟨by kernel_rfl, by kernel_rfl, rfl⟩ trivial (stab_of (Hle.refl _) trivial) (R.move rfl) rfl ?_
          obtain ⟨y_13, hN_14, hx⟩ := idx_some hx
          obtain ⟨b_15, o_16, cs_17, hE_18, hR_19, hl_20, hc_21⟩ := IsSlice.elem ha_2 hN_14
          obtain rfl := hR_19
          refine JA.val ⟨by kernel_rfl, by kernel_rfl⟩ (calm_only _) (i := 2) rfl ⟨by kernel_rfl, by kernel_rfl, rfl⟩ trivial (stab_of (Hle.refl _) trivial) (R.ix U22 S32 rfl rfl hE_18) rfl ?_
          refine JA.val ⟨by kernel_rfl, by kernel_rfl⟩ (calm_only _) (i := 3) rfl ⟨by kernel_rfl, by kernel_rfl, rfl⟩ trivial (stab_of (Hle.refl _) trivial) (R.ldHE (cs := [.int .i64 y_13.At, .int .u32 (y_13.Birth.toNat : Int), .int .u32 (y_13.Iv.toNat : Int), .int .u32 (y_13.Tag.toNat : Int), .int .u32 (y_13.Sum.toNat : Int)]) (k := 0) (vs := [.int .i64 y_13.At, .int .u32 (y_13.Birth.toNat : Int), .int .u32 (y_13.Iv.toNat : Int), .int .u32 (y_13.Tag.toNat : Int), .int .u32 (y_13.Sum.toNat : Int)]) S32 rfl hc_21 rfl rfl) rfl ?_
          refine JA.val ⟨by kernel_rfl, by kernel_rfl⟩ (calm_only _) (i := 4) rfl ⟨by kernel_rfl, by kernel_rfl, rfl⟩ trivial (stab_of (Hle.refl _) trivial) (R.move rfl) rfl ?_
          refine JA.val ⟨by kernel_rfl, by kernel_rfl⟩ (calm_only _) (i := 5) rfl ⟨by kernel_rfl, by kernel_rfl, rfl⟩ trivial (stab_of (Hle.refl _) trivial) (R.move rfl) rfl ?_
          obtain ⟨y_22, hN_23, hx⟩ := idx_some hx
          obtain ⟨b_24, o_25, cs_26, hE_27, hR_28, hl_29, hc_30⟩ := IsSlice.elem ha_4 hN_23
          obtain rfl := hR_28
          refine JA.val ⟨by kernel_rfl, by kernel_rfl⟩ (calm_only _) (i := 6) rfl ⟨by kernel_rfl, by kernel_rfl, rfl⟩ trivial (stab_of (Hle.refl _) trivial) (R.ix U22 S32 rfl rfl hE_27) rfl ?_
          refine JA.val ⟨by kernel_rfl, by kernel_rfl⟩ (calm_only _) (i := 7) rfl ⟨by kernel_rfl, by kernel_rfl, rfl⟩ trivial (stab_of (Hle.refl _) trivial) (R.ldHE (cs := [.int .i64 y_22.At, .int .u32 (y_22.Birth.toNat : Int), .int .u32 (y_22.Iv.toNat : Int), .int .u32 (y_22.Tag.toNat : Int), .int .u32 (y_22.Sum.toNat : Int)]) (k := 0) (vs := [.int .i64 y_22.At, .int .u32 (y_22.Birth.toNat : Int), .int .u32 (y_22.Iv.toNat : Int), .int .u32 (y_22.Tag.toNat : Int), .int .u32 (y_22.Sum.toNat : Int)]) S32 rfl hc_30 rfl rfl) rfl ?_
          refine JA.val ⟨by kernel_rfl, by kernel_rfl⟩ (calm_only _) (i := 8) rfl ⟨by kernel_rfl, by kernel_rfl, rfl⟩ trivial (stab_of (Hle.refl _) trivial) (R.neqAgg QU32 QP32 QG32 QF32 rfl rfl (EqF.i (by decide) S3 U3 rfl rfl (EqF.u32 (a := y_13.Birth) (b := y_22.Birth) (by decide) S30 U30 rfl rfl (EqF.u32 (a := y_13.Iv) (b := y_22.Iv) (by decide) S30 U30 rfl rfl (EqF.u32 (a := y_13.Tag) (b := y_22.Tag) (by decide) S30 U30 rfl rfl (EqF.u32 (a := y_13.Sum) (b := y_22.Sum) (by decide) S30 U30 rfl rfl EqF.nil)))))) rfl ?_
          refine JA.doneN (by kernel_rfl) ?_
          refine JN.next ?_
          refine JC.condB rfl (fun c_31 => ?_) (fun c_31 => ?_)
          · replace hx := cond_t c_31 hx
            refine JC.seq ?_
            refine JC.region ?_
            refine JL.val rfl rfl (R.assign rfl) ?_
            refine JL.nil ?_
            refine JN.next ?_
            refine JC.ret ?_
            refine JN.blkR ?_
            refine JN.passR ?_
            obtain rfl := run_done hd_11 hx
            refine JN.passR ?_
            refine JN.blkR ?_
            clear hx; have hx := hxo_6
            simp only [Sum.elim_inl, Sum.elim_inr] at hx
            refine JN.passR ?_
            refine JN.passR ?_
            refine JN.outP (vs := [.bool false]) (K := []) (rst := []) (.inl rfl) rfl rfl (Res.tmp rfl rfl) picks0 ?_
            obtain rfl := Option.some.inj hx
            exact ⟨rfl, rfl, rfl, trivial⟩
          · replace hx := cond_f c_31 hx
            refine JC.skip ?_
            refine JN.blkN ?_
            refine JN.next ?_
            refine JC.region ?_
            refine JL.val rfl rfl (R.move rfl) ?_
            refine JL.val rfl rfl (R.inc rfl rfl (of_decide_eq_true c_11) (IsSlice.lenI ha_2)) ?_
            refine JL.val rfl rfl (R.assign rfl) ?_
            refine JL.nil ?_
            replace hx := run_next hd_11 hx
            exact JN.cut ⟨s_8 + 1, rfl, rfl, rfl, hx⟩ ⟨rfl, rfl, rfl, trivial⟩ rfl rfl
        · replace hx := cond_f c_12 hx
          refine JC.exit ?_
          refine JN.passX ?_
          obtain rfl := run_done hd_11 hx
          refine JN.passX ?_
          refine JN.exitSame ?_
          exact JN.cut ⟨(), rfl, rfl, rfl, rfl⟩ ⟨rfl, rfl, trivial⟩ rfl rfl
      · replace hx := cond_f c_11 hx
        refine JL.gNo rfl rfl rfl rfl rfl ?_
        refine JL.gNo rfl rfl rfl rfl rfl ?_
        refine JL.gNo rfl rfl rfl rfl rfl ?_
        refine JL.gNo rfl rfl rfl rfl rfl ?_
        refine JL.val rfl rfl (R.pickF rfl rfl) ?_
        refine JL.nil ?_
        refine JN.next ?_
        refine JC.condF rfl ?_
        refine JC.exit ?_
        refine JN.passX ?_
        obtain rfl := run_done hd_11 hx
        refine JN.passX ?_
        refine JN.exitSame ?_
        exact JN.cut ⟨(), rfl, rfl, rfl, rfl⟩ ⟨rfl, rfl, trivial⟩ rfl rfl

set_option maxHeartbeats 1000000 in
theorem law16_DeadJoins_ok (p_1 : List Ptr) (p_3 : List Ptr) (p_5 : List Ptr) (H : Heaplet) {aoa_2 : Option Addr} {na_2 : Nat} {capa_2 : Nat} {aoa_4 : Option Addr} {na_4 : Nat} {capa_4 : Nat} {aoa_6 : Option Addr} {na_6 : Nat} {capa_6 : Nat} (ha_2 : IsSlice H R_Ptr 5 (.slice aoa_2 na_2 capa_2) p_1) (ha_4 : IsSlice H R_Ptr 5 (.slice aoa_4 na_4 capa_4) p_3) (ha_6 : IsSlice H R_Ptr 5 (.slice aoa_6 na_6 capa_6) p_5) (r : Bool) (hx : law16_DeadJoins p_1 p_3 p_5 = some r) :
    Does Try.prog 3 #[.slice aoa_2 na_2 capa_2, .slice aoa_4 na_4 capa_4, .slice aoa_6 na_6 capa_6] [] H (fun u K' H' => u = .bool r ∧ K' = [] ∧ H = H' ∧ True) := by
  refine Does.enterL (vs := [.slice aoa_2 na_2 capa_2, .slice aoa_4 na_4 capa_4, .slice aoa_6 na_6 capa_6]) (l := [(0, .slice aoa_2 na_2 capa_2), (1, .slice aoa_4 na_4 capa_4), (2, .slice aoa_6 na_6 capa_6)]) Try.func3 rfl rfl ⟨rfl, rfl, rfl, trivial⟩ (fun w hlt => ?_)
  rw [law16_DeadJoins.eq_1] at hx
  refine JC.seq ?_
  refine JC.region ?_
  refine JL.val rfl rfl (R.assign rfl) ?_
  refine JL.nil ?_
  refine JN.next ?_
  refine JC.seq ?_
  refine JC.region ?_
  obtain ⟨x_7, hr_8, hx⟩ := bnd_some hx
  refine JL.callC (vs := []) (args := []) (K := []) (rst := []) E7 rfl rfl rfl picks0 (law16_alive_ok _ _ hr_8) rfl (fun u_9 Ku_9 Hu_9 hRu_9 hleu_9 hfu_9 => ?_)
  obtain ⟨rfl, rfl, rfl, -⟩ := hRu_9
  refine JL.val rfl rfl (R.assign rfl) ?_
  refine JL.nil ?_
  refine JN.next ?_
  refine JC.seq ?_
  refine JC.seq ?_
  refine JC.region ?_
  refine JL.val rfl rfl (R.move rfl) ?_
  refine JL.val rfl rfl (R.lenL U22 rfl (IsSlice.long ha_2)) ?_
  refine JL.val rfl rfl (R.gtr_i rfl rfl) ?_
  refine JL.val rfl rfl (R.move rfl) ?_
  refine JL.gSplit (t := 24) rfl (fun c_10 => ?_) (fun c_10 => ?_)
  · replace hx := cond_t c_10 hx
    refine JL.gNo rfl rfl rfl rfl rfl ?_
    refine JL.gNo rfl rfl rfl rfl rfl ?_
    refine JL.gNo rfl rfl rfl rfl rfl ?_
    refine JL.val rfl rfl (R.pickT rfl rfl) ?_
    refine JL.val rfl rfl (R.move rfl) ?_
    refine JL.gNo rfl rfl rfl rfl rfl ?_
    refine JL.gNo rfl rfl rfl rfl rfl ?_
    refine JL.gNo rfl rfl rfl rfl rfl ?_
    refine JL.val rfl rfl (R.pickT rfl rfl) ?_
    refine JL.nil ?_
    refine JN.next ?_
    refine JC.condT rfl ?_
    refine JC.seq ?_
    refine JC.region ?_
    refine JL.val rfl rfl (R.move rfl) ?_
    refine JL.val rfl rfl (R.assign rfl) ?_
    refine JL.nil ?_
    refine JN.next ?_
    refine JC.ret ?_
    refine JN.passR ?_
    refine JN.outP (vs := [.bool x_7]) (K := []) (rst := []) (.inl rfl) rfl rfl (Res.tmp rfl rfl) picks0 ?_
    obtain rfl := Option.some.inj hx
    exact ⟨rfl, rfl, rfl, trivial⟩
  · replace hx := cond_f c_10 hx
    refine JL.gYes rfl rfl rfl ?_
    refine JL.val rfl rfl (R.move rfl) ?_
    refine JL.gYes rfl rfl rfl ?_
    refine JL.val rfl rfl (R.lenL U22 rfl (IsSlice.long ha_4)) ?_
    refine JL.gYes rfl rfl rfl ?_
    refine JL.val rfl rfl (R.gtr_i rfl rfl) ?_
    refine JL.val rfl rfl (R.pickF rfl rfl) ?_
    refine JL.val rfl rfl (R.move rfl) ?_
    refine JL.gSplit (t := 29) rfl (fun c_11 => ?_) (fun c_11 => ?_)
    · replace hx := cond_t c_11 hx
      refine JL.gNo rfl rfl rfl rfl rfl ?_
      refine JL.gNo rfl rfl rfl rfl rfl ?_
      refine JL.gNo rfl rfl rfl rfl rfl ?_
      refine JL.val rfl rfl (R.pickT rfl rfl) ?_
      refine JL.nil ?_
      refine JN.next ?_
      refine JC.condT rfl ?_
      refine JC.seq ?_
      refine JC.region ?_
      refine JL.val rfl rfl (R.move rfl) ?_
      refine JL.val rfl rfl (R.assign rfl) ?_
      refine JL.nil ?_
      refine JN.next ?_
      refine JC.ret ?_
      refine JN.passR ?_
      refine JN.outP (vs := [.bool x_7]) (K := []) (rst := []) (.inl rfl) rfl rfl (Res.tmp rfl rfl) picks0 ?_
      obtain rfl := Option.some.inj hx
      exact ⟨rfl, rfl, rfl, trivial⟩
    · replace hx := cond_f c_11 hx
      refine JL.gYes rfl rfl rfl ?_
      refine JL.val rfl rfl (R.move rfl) ?_
      refine JL.gYes rfl rfl rfl ?_
      refine JL.val rfl rfl (R.lenL U22 rfl (IsSlice.long ha_6)) ?_
      refine JL.gYes rfl rfl rfl ?_
      refine JL.val rfl rfl (R.gtr_i rfl rfl) ?_
      refine JL.val rfl rfl (R.pickF rfl rfl) ?_
      refine JL.nil ?_
      refine JN.next ?_
      refine JC.condB rfl (fun c_12 => ?_) (fun c_12 => ?_)
      · replace hx := cond_t c_12 hx
        refine JC.seq ?_
        refine JC.region ?_
        refine JL.val rfl rfl (R.move rfl) ?_
        refine JL.val rfl rfl (R.assign rfl) ?_
        refine JL.nil ?_
        refine JN.next ?_
        refine JC.ret ?_
        refine JN.passR ?_
        refine JN.outP (vs := [.bool x_7]) (K := []) (rst := []) (.inl rfl) rfl rfl (Res.tmp rfl rfl) picks0 ?_
        obtain rfl := Option.some.inj hx
        exact ⟨rfl, rfl, rfl, trivial⟩
      · replace hx := cond_f c_12 hx
        refine JC.skip ?_
        refine JN.next ?_
        refine JC.seq ?_
        refine JC.region ?_
        refine JL.val rfl rfl (R.move rfl) ?_
        refine JL.val rfl rfl (R.move rfl) ?_
        obtain ⟨x_13, hr_14, hx⟩ := bnd_some hx
        refine JL.callC (vs := [_, _]) (args := [_, _]) (K := []) (rst := []) E8 rfl rfl rfl picks0 (dead_Join_ok p_1 p_3 _ ha_2 ha_4 _ hr_14) rfl (fun u_15 Ku_15 Hu_15 hRu_15 hleu_15 hfu_15 => ?_)
        obtain ⟨aor_16, nr_16, capr_16, Kr_16, rfl, rfl, rfl, hr_16, hnewr_16, -⟩ := hRu_15
        replace hr_16 := (RowOf.base (RowOf.const (H2 := New H H) R_Ptr.const hr_16) (fun p hp => (hfu_15 p (mem_seg 0 rfl hp)).resolve_left (hnewr_16 p hp)))
        refine JL.val rfl rfl (R.move rfl) ?_
        refine JL.val rfl rfl (R.extract rfl rfl) ?_
        refine JL.val rfl rfl (R.extract rfl rfl) ?_
        refine JL.val rfl rfl (R.assign rfl) ?_
        refine JL.val rfl rfl (R.assign rfl) ?_
        refine JL.nil ?_
        refine JN.next ?_
        refine JC.seq ?_
        refine JC.region ?_
        refine JL.val rfl rfl (R.move rfl) ?_
        refine JL.val rfl rfl (R.move rfl) ?_
        obtain ⟨x_17, hr_18, hx⟩ := bnd_some hx
        refine JL.callC (vs := [_, _]) (args := [_, _]) (K := []) (rst := [_]) E8 rfl rfl rfl picks0 (dead_Join_ok p_3 p_1 _ ha_4 ha_2 _ hr_18) rfl (fun u_19 Ku_19 Hu_19 hRu_19 hleu_19 hfu_19 => ?_)
        obtain ⟨aor_20, nr_20, capr_20, Kr_20, rfl, rfl, rfl, hr_20, hnewr_20, -⟩ := hRu_19
        replace hr_20 := (RowOf.base (RowOf.const (H2 := New H H) R_Ptr.const hr_20) (fun p hp => (hfu_19 p (mem_seg 0 rfl hp)).resolve_left (hnewr_20 p hp)))
        refine JL.val rfl rfl (R.move rfl) ?_
        refine JL.val rfl rfl (R.extract rfl rfl) ?_
        refine JL.val rfl rfl (R.extract rfl rfl) ?_
        refine JL.val rfl rfl (R.assign rfl) ?_
        refine JL.val rfl rfl (R.assign rfl) ?_
        refine JL.nil ?_
        refine JN.next ?_
        refine JC.seq ?_
        obtain ⟨t_21, ht_23, hx⟩ := bnd_some hx
        refine JC.cut (fun l o g => ∃ t_21a : Unit, l = [(0, .slice aoa_2 na_2 capa_2), (1, .slice aoa_4 na_4 capa_4), (2, .slice aoa_6 na_6 capa_6), (7, .bool x_7), (8, .slice aor_16 nr_16 capr_16), (9, .int .i64 x_13.2)] ∧ o = [Kr_16] ∧ H = g ∧ t_21 = .inl t_21a) ?_ ?_
        · rintro _ _ _ ⟨t_21a, rfl, rfl, rfl, rfl⟩
          simp only [Sum.elim_inl] at hx
          refine JN.next ?_
          refine JC.seq ?_
          refine JC.region ?_
          refine JL.val rfl rfl (R.move rfl) ?_
          obtain ⟨x_33, hr_34, hx⟩ := bnd_some hx
          refine JL.callC (vs := [_, _]) (args := [_, _]) (K := []) (rst := [_]) E8 rfl rfl rfl picks0 (dead_Join_ok p_1 ([] : List Ptr) _ ha_2 (IsSlice.nil _ _ _) _ hr_34) rfl (fun u_35 Ku_35 Hu_35 hRu_35 hleu_35 hfu_35 => ?_)
          obtain ⟨aor_36, nr_36, capr_36, Kr_36, rfl, rfl, rfl, hr_36, hnewr_36, -⟩ := hRu_35
          replace hr_36 := (RowOf.base (RowOf.const (H2 := New H H) R_Ptr.const hr_36) (fun p hp => (hfu_35 p (mem_seg 0 rfl hp)).resolve_left (hnewr_36 p hp)))
          refine JL.val rfl rfl (R.move rfl) ?_
          refine JL.val rfl rfl (R.extract rfl rfl) ?_
          refine JL.val rfl rfl (R.extract rfl rfl) ?_
          refine JL.val rfl rfl (R.assign rfl) ?_
          refine JL.val rfl rfl (R.assign rfl) ?_
          refine JL.nil ?_
          refine JN.next ?_
          refine JC.seq ?_
          obtain ⟨t_37, ht_39, hx⟩ := bnd_some hx
          refine JC.cut (fun l o g => ∃ t_37a : Unit, l = [(0, .slice aoa_2 na_2 capa_2), (1, .slice aoa_4 na_4 capa_4), (2, .slice aoa_6 na_6 capa_6), (7, .bool x_7), (8, .slice aor_16 nr_16 capr_16), (9, .int .i64 x_13.2)] ∧ o = [Kr_16] ∧ H = g ∧ t_37 = .inl t_37a) ?_ ?_
          · rintro _ _ _ ⟨t_37a, rfl, rfl, rfl, rfl⟩
            simp only [Sum.elim_inl] at hx
            refine JN.next ?_
            refine JC.seq ?_
            refine JC.seq ?_
            refine JC.region ?_
            refine JL.val rfl rfl (R.move rfl) ?_
            refine JL.val rfl rfl (R.neq_i rfl rfl) ?_
            refine JL.nil ?_
            refine JN.next ?_
            refine JC.condB rfl (fun c_51 => ?_) (fun c_51 => ?_)
            · replace hx := cond_t c_51 hx
              refine JC.seq ?_
              obtain ⟨t_52, ht_54, hx⟩ := bnd_some hx
              refine JC.cut (fun l o g => l = [(6, .bool t_52)] ∧ o = [] ∧ H = g) ?_ ?_
              · rintro _ _ _ ⟨rfl, rfl, rfl⟩
                refine JN.next ?_
                refine JC.ret ?_
                refine JN.passR ?_
                refine JN.outP (vs := [.bool t_52]) (K := []) (rst := []) (.inl rfl) rfl rfl (Res.tmp rfl rfl) picks0 ?_
                obtain rfl := Option.some.inj hx
                exact ⟨rfl, rfl, rfl, trivial⟩
              · have hxo_53 := hx; clear hx; have hx := ht_54; clear ht_54
                refine JC.region ?_
                refine JL.val rfl rfl (R.move rfl) ?_
                refine JL.val rfl rfl (R.move rfl) ?_
                refine JL.gSplit (t := 91) rfl (fun c_55 => ?_) (fun c_55 => ?_)
                · replace hx := cond_t c_55 hx
                  refine JL.gYes rfl rfl rfl ?_
                  refine JL.val rfl rfl (R.move rfl) ?_
                  refine JL.gYes rfl rfl rfl ?_
                  refine JL.val rfl rfl (R.lenL U22 rfl (RowOf.long hr_16)) ?_
                  refine JL.gYes rfl rfl rfl ?_
                  refine JL.val rfl rfl (R.eql_i rfl rfl) ?_
                  refine JL.val rfl rfl (R.pickT rfl rfl) ?_
                  refine JL.val rfl rfl (R.assign rfl) ?_
                  refine JL.nil ?_
                  obtain rfl := Option.some.inj hx
                  refine JN.forget 0 ?_
                  exact JN.cut ⟨rfl, rfl, rfl⟩ ⟨rfl, trivial⟩ rfl rfl
                · replace hx := cond_f c_55 hx
                  refine JL.gNo rfl rfl rfl rfl rfl ?_
                  refine JL.gNo rfl rfl rfl rfl rfl ?_
                  refine JL.gNo rfl rfl rfl rfl rfl ?_
                  refine JL.val rfl rfl (R.pickF rfl rfl) ?_
                  refine JL.val rfl rfl (R.assign rfl) ?_
                  refine JL.nil ?_
                  obtain rfl := Option.some.inj hx
                  refine JN.forget 0 ?_
                  exact JN.cut ⟨rfl, rfl, rfl⟩ ⟨rfl, trivial⟩ rfl rfl
            · replace hx := cond_f c_51 hx
              refine JC.skip ?_
              refine JN.next ?_
              refine JC.seq ?_
              refine JC.region ?_
              refine JL.val rfl rfl (R.move rfl) ?_
              refine JL.val rfl rfl (R.move rfl) ?_
              obtain ⟨x_59, hr_60, hx⟩ := bnd_some hx
              refine JL.callL3 (vs := [_, _]) E8 rfl rfl (fun H_58 hle_57 hl_56 => dead_Join_ok x_13.1 p_5 _ (Lent.row' 0 hl_56 R_Ptr.mono hle_57 rfl (hr_16.old R_Ptr.mono)) (IsSlice.mono R_Ptr.mono hle_57 ha_6) _ hr_60) rfl (fun _ _ _ _ hR_62 hf_63 => ?_)
              obtain ⟨aor_61, nr_61, capr_61, Kr_61, rfl, rfl, rfl, hr_61, -, -⟩ := hR_62
              replace hr_61 := RowOf.base (RowOf.const (H2 := New H H) R_Ptr.const hr_61) (fun p hp => hf_63 p (mem_seg 0 rfl hp))
              refine JL.val rfl rfl (R.move rfl) ?_
              refine JL.val rfl rfl (R.extract rfl rfl) ?_
              refine JL.val rfl rfl (R.extract rfl rfl) ?_
              refine JL.val rfl rfl (R.assign rfl) ?_
              refine JL.val rfl rfl (R.assign rfl) ?_
              refine JL.nil ?_
              refine JN.next ?_
              refine JC.seq ?_
              refine JC.region ?_
              refine JL.val rfl rfl (R.move rfl) ?_
              refine JL.val rfl rfl (R.move rfl) ?_
              obtain ⟨x_64, hr_65, hx⟩ := bnd_some hx
              refine JL.callC (vs := [_, _]) (args := [_, _]) (K := []) (rst := [_, _]) E8 rfl rfl rfl picks0 (dead_Join_ok p_3 p_5 _ ha_4 ha_6 _ hr_65) rfl (fun u_66 Ku_66 Hu_66 hRu_66 hleu_66 hfu_66 => ?_)
              obtain ⟨aor_67, nr_67, capr_67, Kr_67, rfl, rfl, rfl, hr_67, hnewr_67, -⟩ := hRu_66
              replace hr_67 := (RowOf.base (RowOf.const (H2 := New H H) R_Ptr.const hr_67) (fun p hp => (hfu_66 p (mem_seg 0 rfl hp)).resolve_left (hnewr_67 p hp)))
              refine JL.val rfl rfl (R.move rfl) ?_
              refine JL.val rfl rfl (R.extract rfl rfl) ?_
              refine JL.val rfl rfl (R.extract rfl rfl) ?_
              refine JL.val rfl rfl (R.assign rfl) ?_
              refine JL.val rfl rfl (R.assign rfl) ?_
              refine JL.nil ?_
              refine JN.next ?_
              refine JC.seq ?_
              refine JC.seq ?_
              refine JC.region ?_
              refine JL.val rfl rfl (R.move rfl) ?_
              refine JL.val rfl rfl (R.neq_i rfl rfl) ?_
              refine JL.val rfl rfl (R.move rfl) ?_
              refine JL.gSplit (t := 110) rfl (fun c_68 => ?_) (fun c_68 => ?_)
              · replace hx := cond_t c_68 hx
                refine JL.gNo rfl rfl rfl rfl rfl ?_
                refine JL.gNo rfl rfl rfl rfl rfl ?_
                refine JL.val rfl rfl (R.pickT rfl rfl) ?_
                refine JL.nil ?_
                refine JN.next ?_
                refine JC.condT rfl ?_
                refine JC.seq ?_
                obtain ⟨t_69, ht_71, hx⟩ := bnd_some hx
                refine JC.cut (fun l o g => l = [(6, .bool t_69)] ∧ o = [] ∧ H = g) ?_ ?_
                · rintro _ _ _ ⟨rfl, rfl, rfl⟩
                  refine JN.next ?_
                  refine JC.ret ?_
                  refine JN.passR ?_
                  refine JN.outP (vs := [.bool t_69]) (K := []) (rst := []) (.inl rfl) rfl rfl (Res.tmp rfl rfl) picks0 ?_
                  obtain rfl := Option.some.inj hx
                  exact ⟨rfl, rfl, rfl, trivial⟩
                · have hxo_70 := hx; clear hx; have hx := ht_71; clear ht_71
                  refine JC.region ?_
                  refine JL.val rfl rfl (R.move rfl) ?_
                  refine JL.val rfl rfl (R.move rfl) ?_
                  refine JL.gSplit (t := 115) rfl (fun c_72 => ?_) (fun c_72 => ?_)
                  · replace hx := cond_t c_72 hx
                    refine JL.gYes rfl rfl rfl ?_
                    refine JL.val rfl rfl (R.move rfl) ?_
                    refine JL.gYes rfl rfl rfl ?_
                    refine JL.val rfl rfl (R.neq_i rfl rfl) ?_
                    refine JL.val rfl rfl (R.pickT rfl rfl) ?_
                    refine JL.val rfl rfl (R.assign rfl) ?_
                    refine JL.nil ?_
                    obtain rfl := Option.some.inj hx
                    refine JN.forget 2 ?_
                    refine JN.forget 1 ?_
                    refine JN.forget 0 ?_
                    exact JN.cut ⟨rfl, rfl, rfl⟩ ⟨rfl, trivial⟩ rfl rfl
                  · replace hx := cond_f c_72 hx
                    refine JL.gNo rfl rfl rfl rfl rfl ?_
                    refine JL.gNo rfl rfl rfl rfl rfl ?_
                    refine JL.val rfl rfl (R.pickF rfl rfl) ?_
                    refine JL.val rfl rfl (R.assign rfl) ?_
                    refine JL.nil ?_
                    obtain rfl := Option.some.inj hx
                    refine JN.forget 2 ?_
                    refine JN.forget 1 ?_
                    refine JN.forget 0 ?_
                    exact JN.cut ⟨rfl, rfl, rfl⟩ ⟨rfl, trivial⟩ rfl rfl
              · replace hx := cond_f c_68 hx
                refine JL.gYes rfl rfl rfl ?_
                refine JL.val rfl rfl (R.move rfl) ?_
                refine JL.gYes rfl rfl rfl ?_
                refine JL.val rfl rfl (R.neq_i rfl rfl) ?_
                refine JL.val rfl rfl (R.pickF rfl rfl) ?_
                refine JL.nil ?_
                refine JN.next ?_
                refine JC.condB rfl (fun c_73 => ?_) (fun c_73 => ?_)
                · replace hx := cond_t c_73 hx
                  refine JC.seq ?_
                  obtain ⟨t_74, ht_76, hx⟩ := bnd_some hx
                  refine JC.cut (fun l o g => l = [(6, .bool t_74)] ∧ o = [] ∧ H = g) ?_ ?_
                  · rintro _ _ _ ⟨rfl, rfl, rfl⟩
                    refine JN.next ?_
                    refine JC.ret ?_
                    refine JN.passR ?_
                    refine JN.outP (vs := [.bool t_74]) (K := []) (rst := []) (.inl rfl) rfl rfl (Res.tmp rfl rfl) picks0 ?_
                    obtain rfl := Option.some.inj hx
                    exact ⟨rfl, rfl, rfl, trivial⟩
                  · have hxo_75 := hx; clear hx; have hx := ht_76; clear ht_76
                    refine JC.region ?_
                    refine JL.val rfl rfl (R.move rfl) ?_
                    refine JL.val rfl rfl (R.move rfl) ?_
                    refine JL.gSplit (t := 115) rfl (fun c_77 => ?_) (fun c_77 => ?_)
                    · replace hx := cond_t c_77 hx
                      refine JL.gYes rfl rfl rfl ?_
                      refine JL.val rfl rfl (R.move rfl) ?_
                      refine JL.gYes rfl rfl rfl ?_
                      refine JL.val rfl rfl (R.neq_i rfl rfl) ?_
                      refine JL.val rfl rfl (R.pickT rfl rfl) ?_
                      refine JL.val rfl rfl (R.assign rfl) ?_
                      refine JL.nil ?_
                      obtain rfl := Option.some.inj hx
                      refine JN.forget 2 ?_
                      refine JN.forget 1 ?_
                      refine JN.forget 0 ?_
                      exact JN.cut ⟨rfl, rfl, rfl⟩ ⟨rfl, trivial⟩ rfl rfl
                    · replace hx := cond_f c_77 hx
                      refine JL.gNo rfl rfl rfl rfl rfl ?_
                      refine JL.gNo rfl rfl rfl rfl rfl ?_
                      refine JL.val rfl rfl (R.pickF rfl rfl) ?_
                      refine JL.val rfl rfl (R.assign rfl) ?_
                      refine JL.nil ?_
                      obtain rfl := Option.some.inj hx
                      refine JN.forget 2 ?_
                      refine JN.forget 1 ?_
                      refine JN.forget 0 ?_
                      exact JN.cut ⟨rfl, rfl, rfl⟩ ⟨rfl, trivial⟩ rfl rfl
                · replace hx := cond_f c_73 hx
                  refine JC.skip ?_
                  refine JN.next ?_
                  refine JC.seq ?_
                  refine JC.region ?_
                  refine JL.val rfl rfl (R.move rfl) ?_
                  refine JL.val rfl rfl (R.move rfl) ?_
                  obtain ⟨x_81, hr_82, hx⟩ := bnd_some hx
                  refine JL.callL3 (vs := [_, _]) E8 rfl rfl (fun H_80 hle_79 hl_78 => dead_Join_ok p_1 x_64.1 _ (IsSlice.mono R_Ptr.mono hle_79 ha_2) (Lent.row' 0 hl_78 R_Ptr.mono hle_79 rfl (hr_67.old R_Ptr.mono)) _ hr_82) rfl (fun _ _ _ _ hR_84 hf_85 => ?_)
                  obtain ⟨aor_83, nr_83, capr_83, Kr_83, rfl, rfl, rfl, hr_83, -, -⟩ := hR_84
                  replace hr_83 := RowOf.base (RowOf.const (H2 := New H H) R_Ptr.const hr_83) (fun p hp => hf_85 p (mem_seg 0 rfl hp))
                  refine JL.val rfl rfl (R.move rfl) ?_
                  refine JL.val rfl rfl (R.extract rfl rfl) ?_
                  refine JL.val rfl rfl (R.extract rfl rfl) ?_
                  refine JL.val rfl rfl (R.assign rfl) ?_
                  refine JL.val rfl rfl (R.assign rfl) ?_
                  refine JL.nil ?_
                  refine JN.next ?_
                  refine JC.seq ?_
                  obtain ⟨t_86, ht_88, hx⟩ := bnd_some hx
                  refine JC.cut (fun l o g => l = [(6, .bool t_86)] ∧ o = [] ∧ H = g) ?_ ?_
                  · rintro _ _ _ ⟨rfl, rfl, rfl⟩
                    refine JN.next ?_
                    refine JC.ret ?_
                    refine JN.outP (vs := [.bool t_86]) (K := []) (rst := []) (.inl rfl) rfl rfl (Res.tmp rfl rfl) picks0 ?_
                    obtain rfl := Option.some.inj hx
                    exact ⟨rfl, rfl, rfl, trivial⟩
                  · have hxo_87 := hx; clear hx; have hx := ht_88; clear ht_88
                    refine JC.region ?_
                    refine JL.val rfl rfl (R.move rfl) ?_
                    refine JL.val rfl rfl (R.move rfl) ?_
                    refine JL.gSplit (t := 126) rfl (fun c_89 => ?_) (fun c_89 => ?_)
                    · replace hx := cond_t c_89 hx
                      refine JL.gYes rfl rfl rfl ?_
                      refine JL.val rfl rfl (R.move rfl) ?_
                      refine JL.gYes rfl rfl rfl ?_
                      refine JL.val rfl rfl (R.eql_i rfl rfl) ?_
                      refine JL.val rfl rfl (R.pickT rfl rfl) ?_
                      refine JL.val rfl rfl (R.move rfl) ?_
                      refine JL.gSplit (t := 130) rfl (fun c_90 => ?_) (fun c_90 => ?_)
                      · replace hx := cond_t c_90 hx
                        refine JL.gYes rfl rfl rfl ?_
                        refine JL.val rfl rfl (R.move rfl) ?_
                        refine JL.gYes rfl rfl rfl ?_
                        refine JL.val rfl rfl (R.move rfl) ?_
                        refine JL.gYes rfl rfl rfl ?_
                        obtain ⟨x_94, hr_95, hx⟩ := bnd_some hx
                        refine JL.callL2 (vs := [_, _]) (v := .bool x_94) E9 rfl rfl (fun H_93 hle_92 hl_91 => Does.mono (law16_same_ok x_59.1 x_81.1 _ (Lent.row' 2 hl_91 R_Ptr.mono hle_92 rfl (hr_61.old R_Ptr.mono)) (Lent.row' 0 hl_91 R_Ptr.mono hle_92 rfl (hr_83.old R_Ptr.mono)) _ hr_95) (fun _ _ _ h => h.1)) rfl ?_
                        refine JL.val rfl rfl (R.pickT rfl rfl) ?_
                        refine JL.val rfl rfl (R.assign rfl) ?_
                        refine JL.nil ?_
                        obtain rfl := Option.some.inj hx
                        refine JN.forget 3 ?_
                        refine JN.forget 2 ?_
                        refine JN.forget 1 ?_
                        refine JN.forget 0 ?_
                        exact JN.cut ⟨rfl, rfl, rfl⟩ ⟨rfl, trivial⟩ rfl rfl
                      · replace hx := cond_f c_90 hx
                        refine JL.gNo rfl rfl rfl rfl rfl ?_
                        refine JL.gNo rfl rfl rfl rfl rfl ?_
                        refine JL.gNo rfl rfl rfl rfl rfl ?_
                        refine JL.val rfl rfl (R.pickF rfl rfl) ?_
                        refine JL.val rfl rfl (R.assign rfl) ?_
                        refine JL.nil ?_
                        obtain rfl := Option.some.inj hx
                        refine JN.forget 3 ?_
                        refine JN.forget 2 ?_
                        refine JN.forget 1 ?_
                        refine JN.forget 0 ?_
                        exact JN.cut ⟨rfl, rfl, rfl⟩ ⟨rfl, trivial⟩ rfl rfl
                    · replace hx := cond_f c_89 hx
                      refine JL.gNo rfl rfl rfl rfl rfl ?_
                      refine JL.gNo rfl rfl rfl rfl rfl ?_
                      refine JL.val rfl rfl (R.pickF rfl rfl) ?_
                      refine JL.val rfl rfl (R.move rfl) ?_
                      refine JL.gNo rfl rfl rfl rfl rfl ?_
                      refine JL.gNo rfl rfl rfl rfl rfl ?_
                      refine JL.gNo rfl rfl rfl rfl rfl ?_
                      refine JL.val rfl rfl (R.pickF rfl rfl) ?_
                      refine JL.val rfl rfl (R.assign rfl) ?_
                      refine JL.nil ?_
                      obtain rfl := Option.some.inj hx
                      refine JN.forget 3 ?_
                      refine JN.forget 2 ?_
                      refine JN.forget 1 ?_
                      refine JN.forget 0 ?_
                      exact JN.cut ⟨rfl, rfl, rfl⟩ ⟨rfl, trivial⟩ rfl rfl
          · have hxo_38 := hx; clear hx; have hx := ht_39; clear ht_39
            refine JC.seq ?_
            refine JC.region ?_
            refine JL.val rfl rfl (R.move rfl) ?_
            obtain ⟨x_40, hr_41, hx⟩ := bnd_some hx
            refine JL.callC (vs := [_]) (args := [_]) (K := []) (rst := [_, _]) E10 rfl rfl rfl picks0 (dead_Check_ok p_1 _ ha_2 _ hr_41) rfl (fun u_42 Ku_42 Hu_42 hRu_42 hleu_42 hfu_42 => ?_)
            obtain ⟨rfl, rfl, rfl, -⟩ := hRu_42
            refine JL.val rfl rfl (R.eql_i rfl rfl) ?_
            refine JL.val rfl rfl (R.move rfl) ?_
            refine JL.gSplit (t := 78) rfl (fun c_43 => ?_) (fun c_43 => ?_)
            · replace hx := cond_t c_43 hx
              refine JL.gYes rfl rfl rfl ?_
              refine JL.val rfl rfl (R.move rfl) ?_
              refine JL.gYes rfl rfl rfl ?_
              refine JL.val rfl rfl (R.neq_i rfl rfl) ?_
              refine JL.gYes rfl rfl rfl ?_
              refine JL.val rfl rfl (R.move rfl) ?_
              refine JL.gSplit (t := 81) rfl (fun c_44 => ?_) (fun c_44 => ?_)
              · replace hx := cond_t c_44 hx
                refine JL.gNo rfl rfl rfl rfl rfl ?_
                refine JL.gNo rfl rfl rfl rfl rfl ?_
                refine JL.gNo rfl rfl rfl rfl rfl ?_
                refine JL.gNo rfl rfl rfl rfl rfl ?_
                refine JL.gYes rfl rfl rfl ?_
                refine JL.val rfl rfl (R.pickT rfl rfl) ?_
                refine JL.val rfl rfl (R.pickT rfl rfl) ?_
                refine JL.nil ?_
                refine JN.next ?_
                refine JC.condT rfl ?_
                refine JC.seq ?_
                refine JC.region ?_
                refine JL.val rfl rfl (R.assign rfl) ?_
                refine JL.nil ?_
                refine JN.next ?_
                refine JC.ret ?_
                obtain rfl := Option.some.inj hx
                clear hx; have hx := hxo_38
                simp only [Sum.elim_inl, Sum.elim_inr] at hx
                refine JN.passR ?_
                refine JN.passR ?_
                refine JN.outP (vs := [.bool false]) (K := []) (rst := [_, _]) (.inl rfl) rfl rfl (Res.tmp rfl rfl) picks0 ?_
                obtain rfl := Option.some.inj hx
                exact ⟨rfl, rfl, rfl, trivial⟩
              · replace hx := cond_f c_44 hx
                refine JL.gYes rfl rfl rfl ?_
                refine JL.val rfl rfl (R.move rfl) ?_
                refine JL.gYes rfl rfl rfl ?_
                refine JL.val rfl rfl (R.move rfl) ?_
                refine JL.gYes rfl rfl rfl ?_
                obtain ⟨x_48, hr_49, hx⟩ := bnd_some hx
                refine JL.callL2 (vs := [_, _]) (v := .bool x_48) E9 rfl rfl (fun H_47 hle_46 hl_45 => Does.mono (law16_same_ok x_33.1 p_1 _ (Lent.row' 0 hl_45 R_Ptr.mono hle_46 rfl (hr_36.old R_Ptr.mono)) (IsSlice.mono R_Ptr.mono hle_46 ha_2) _ hr_49) (fun _ _ _ h => h.1)) rfl ?_
                refine JL.gYes rfl rfl rfl ?_
                refine JL.val rfl rfl (R.not rfl) ?_
                refine JL.gYes rfl rfl rfl ?_
                refine JL.val rfl rfl (R.pickF rfl rfl) ?_
                refine JL.val rfl rfl (R.pickT rfl rfl) ?_
                refine JL.nil ?_
                refine JN.next ?_
                refine JC.condB rfl (fun c_50 => ?_) (fun c_50 => ?_)
                · replace hx := cond_t c_50 hx
                  refine JC.seq ?_
                  refine JC.region ?_
                  refine JL.val rfl rfl (R.assign rfl) ?_
                  refine JL.nil ?_
                  refine JN.next ?_
                  refine JC.ret ?_
                  obtain rfl := Option.some.inj hx
                  clear hx; have hx := hxo_38
                  simp only [Sum.elim_inl, Sum.elim_inr] at hx
                  refine JN.passR ?_
                  refine JN.passR ?_
                  refine JN.outP (vs := [.bool false]) (K := []) (rst := [_, _]) (.inl rfl) rfl rfl (Res.tmp rfl rfl) picks0 ?_
                  obtain rfl := Option.some.inj hx
                  exact ⟨rfl, rfl, rfl, trivial⟩
                · replace hx := cond_f c_50 hx
                  refine JC.skip ?_
                  obtain rfl := Option.some.inj hx
                  refine JN.forget 0 ?_
                  exact JN.cut ⟨(), rfl, rfl, rfl, rfl⟩ ⟨rfl, rfl, rfl, rfl, rfl, rfl, trivial⟩ rfl rfl
            · replace hx := cond_f c_43 hx
              refine JL.gNo rfl rfl rfl rfl rfl ?_
              refine JL.gNo rfl rfl rfl rfl rfl ?_
              refine JL.gNo rfl rfl rfl rfl rfl ?_
              refine JL.gNoU rfl rfl rfl rfl ?_
              refine JL.gNoU rfl rfl rfl rfl ?_
              refine JL.gNoU rfl rfl rfl rfl ?_
              refine JL.gNoU rfl rfl rfl rfl ?_
              refine JL.gNo rfl rfl rfl rfl rfl ?_
              refine JL.val rfl rfl (R.pickF rfl rfl) ?_
              refine JL.nil ?_
              refine JN.next ?_
              refine JC.condF rfl ?_
              refine JC.skip ?_
              obtain rfl := Option.some.inj hx
              refine JN.forget 0 ?_
              exact JN.cut ⟨(), rfl, rfl, rfl, rfl⟩ ⟨rfl, rfl, rfl, rfl, rfl, rfl, trivial⟩ rfl rfl
        · have hxo_22 := hx; clear hx; have hx := ht_23; clear ht_23
          refine JC.seq ?_
          refine JC.region ?_
          refine JL.val rfl rfl (R.move rfl) ?_
          refine JL.val rfl rfl (R.move rfl) ?_
          refine JL.val rfl rfl (R.neq_i rfl rfl) ?_
          refine JL.val rfl rfl (R.move rfl) ?_
          refine JL.gSplit (t := 50) rfl (fun c_24 => ?_) (fun c_24 => ?_)
          · replace hx := cond_t c_24 hx
            refine JL.gNo rfl rfl rfl rfl rfl ?_
            refine JL.gNo rfl rfl rfl rfl rfl ?_
            refine JL.gNo rfl rfl rfl rfl rfl ?_
            refine JL.gNo rfl rfl rfl rfl rfl ?_
            refine JL.val rfl rfl (R.pickT rfl rfl) ?_
            refine JL.val rfl rfl (R.move rfl) ?_
            refine JL.gNo rfl rfl rfl rfl rfl ?_
            refine JL.gNo rfl rfl rfl rfl rfl ?_
            refine JL.gNo rfl rfl rfl rfl rfl ?_
            refine JL.gNoU rfl rfl rfl rfl ?_
            refine JL.gNoU rfl rfl rfl rfl ?_
            refine JL.gNoU rfl rfl rfl rfl ?_
            refine JL.gNoU rfl rfl rfl rfl ?_
            refine JL.gNoU rfl rfl rfl rfl ?_
            refine JL.gNoU rfl rfl rfl rfl ?_
            refine JL.gNoU rfl rfl rfl rfl ?_
            refine JL.gNoU rfl rfl rfl rfl ?_
            refine JL.gNo rfl rfl rfl rfl rfl ?_
            refine JL.val rfl rfl (R.pickT rfl rfl) ?_
            refine JL.nil ?_
            refine JN.next ?_
            refine JC.condT rfl ?_
            refine JC.seq ?_
            refine JC.region ?_
            refine JL.val rfl rfl (R.assign rfl) ?_
            refine JL.nil ?_
            refine JN.next ?_
            refine JC.ret ?_
            obtain rfl := Option.some.inj hx
            clear hx; have hx := hxo_22
            simp only [Sum.elim_inl, Sum.elim_inr] at hx
            refine JN.passR ?_
            refine JN.passR ?_
            refine JN.outP (vs := [.bool false]) (K := []) (rst := [_, _]) (.inl rfl) rfl rfl (Res.tmp rfl rfl) picks0 ?_
            obtain rfl := Option.some.inj hx
            exact ⟨rfl, rfl, rfl, trivial⟩
          · replace hx := cond_f c_24 hx
            refine JL.gYes rfl rfl rfl ?_
            refine JL.val rfl rfl (R.move rfl) ?_
            refine JL.gYes rfl rfl rfl ?_
            refine JL.val rfl rfl (R.move rfl) ?_
            refine JL.gYes rfl rfl rfl ?_
            obtain ⟨x_28, hr_29, hx⟩ := bnd_some hx
            refine JL.callL2 (vs := [_, _]) (v := .bool x_28) E9 rfl rfl (fun H_27 hle_26 hl_25 => Does.mono (law16_same_ok x_13.1 x_17.1 _ (Lent.row' 1 hl_25 R_Ptr.mono hle_26 rfl (hr_16.old R_Ptr.mono)) (Lent.row' 0 hl_25 R_Ptr.mono hle_26 rfl (hr_20.old R_Ptr.mono)) _ hr_29) (fun _ _ _ h => h.1)) rfl ?_
            refine JL.gYes rfl rfl rfl ?_
            refine JL.val rfl rfl (R.not rfl) ?_
            refine JL.val rfl rfl (R.pickF rfl rfl) ?_
            refine JL.val rfl rfl (R.move rfl) ?_
            refine JL.gSplit (t := 56) rfl (fun c_30 => ?_) (fun c_30 => ?_)
            · replace hx := cond_t c_30 hx
              refine JL.gNo rfl rfl rfl rfl rfl ?_
              refine JL.gNo rfl rfl rfl rfl rfl ?_
              refine JL.gNo rfl rfl rfl rfl rfl ?_
              refine JL.gNoU rfl rfl rfl rfl ?_
              refine JL.gNoU rfl rfl rfl rfl ?_
              refine JL.gNoU rfl rfl rfl rfl ?_
              refine JL.gNoU rfl rfl rfl rfl ?_
              refine JL.gNoU rfl rfl rfl rfl ?_
              refine JL.gNoU rfl rfl rfl rfl ?_
              refine JL.gNoU rfl rfl rfl rfl ?_
              refine JL.gNoU rfl rfl rfl rfl ?_
              refine JL.gNo rfl rfl rfl rfl rfl ?_
              refine JL.val rfl rfl (R.pickT rfl rfl) ?_
              refine JL.nil ?_
              refine JN.next ?_
              refine JC.condT rfl ?_
              refine JC.seq ?_
              refine JC.region ?_
              refine JL.val rfl rfl (R.assign rfl) ?_
              refine JL.nil ?_
              refine JN.next ?_
              refine JC.ret ?_
              obtain rfl := Option.some.inj hx
              clear hx; have hx := hxo_22
              simp only [Sum.elim_inl, Sum.elim_inr] at hx
              refine JN.passR ?_
              refine JN.passR ?_
              refine JN.outP (vs := [.bool false]) (K := []) (rst := [_, _]) (.inl rfl) rfl rfl (Res.tmp rfl rfl) picks0 ?_
              obtain rfl := Option.some.inj hx
              exact ⟨rfl, rfl, rfl, trivial⟩
            · replace hx := cond_f c_30 hx
              refine JL.gYes rfl rfl rfl ?_
              refine JL.val rfl rfl (R.move rfl) ?_
              refine JL.gYes rfl rfl rfl ?_
              refine JL.val rfl rfl (R.eql_i rfl rfl) ?_
              refine JL.gYes rfl rfl rfl ?_
              refine JL.val rfl rfl (R.move rfl) ?_
              refine JL.gSplit (t := 59) rfl (fun c_31 => ?_) (fun c_31 => ?_)
              · replace hx := cond_t c_31 hx
                refine JL.gYes rfl rfl rfl ?_
                refine JL.val rfl rfl (R.move rfl) ?_
                refine JL.gYes rfl rfl rfl ?_
                refine JL.val rfl rfl (R.lenL U22 rfl (RowOf.long hr_16)) ?_
                refine JL.gYes rfl rfl rfl ?_
                refine JL.val rfl rfl (R.move rfl) ?_
                refine JL.gYes rfl rfl rfl ?_
                refine JL.val rfl rfl (R.lenL U22 rfl (IsSlice.long ha_2)) ?_
                refine JL.gYes rfl rfl rfl ?_
                refine JL.val rfl rfl (R.move rfl) ?_
                refine JL.gYes rfl rfl rfl ?_
                refine JL.val rfl rfl (R.lenL U22 rfl (IsSlice.long ha_4)) ?_
                refine JL.gYes rfl rfl rfl ?_
                refine JL.val rfl rfl (R.add_i rfl rfl) ?_
                refine JL.gYes rfl rfl rfl ?_
                refine JL.val rfl rfl (R.neq_i rfl rfl) ?_
                refine JL.gYes rfl rfl rfl ?_
                refine JL.val rfl rfl (R.pickT rfl rfl) ?_
                refine JL.val rfl rfl (R.pickF rfl rfl) ?_
                refine JL.nil ?_
                refine JN.next ?_
                refine JC.condB rfl (fun c_32 => ?_) (fun c_32 => ?_)
                · replace hx := cond_t c_32 hx
                  refine JC.seq ?_
                  refine JC.region ?_
                  refine JL.val rfl rfl (R.assign rfl) ?_
                  refine JL.nil ?_
                  refine JN.next ?_
                  refine JC.ret ?_
                  obtain rfl := Option.some.inj hx
                  clear hx; have hx := hxo_22
                  simp only [Sum.elim_inl, Sum.elim_inr] at hx
                  refine JN.passR ?_
                  refine JN.passR ?_
                  refine JN.outP (vs := [.bool false]) (K := []) (rst := [_, _]) (.inl rfl) rfl rfl (Res.tmp rfl rfl) picks0 ?_
                  obtain rfl := Option.some.inj hx
                  exact ⟨rfl, rfl, rfl, trivial⟩
                · replace hx := cond_f c_32 hx
                  refine JC.skip ?_
                  obtain rfl := Option.some.inj hx
                  refine JN.forget 0 ?_
                  exact JN.cut ⟨(), rfl, rfl, rfl, rfl⟩ ⟨rfl, rfl, rfl, rfl, rfl, rfl, trivial⟩ rfl rfl
              · replace hx := cond_f c_31 hx
                refine JL.gNo rfl rfl rfl rfl rfl ?_
                refine JL.gNo rfl rfl rfl rfl rfl ?_
                refine JL.gNo rfl rfl rfl rfl rfl ?_
                refine JL.gNo rfl rfl rfl rfl rfl ?_
                refine JL.gNo rfl rfl rfl rfl rfl ?_
                refine JL.gNo rfl rfl rfl rfl rfl ?_
                refine JL.gNo rfl rfl rfl rfl rfl ?_
                refine JL.gNo rfl rfl rfl rfl rfl ?_
                refine JL.gYes rfl rfl rfl ?_
                refine JL.val rfl rfl (R.pickF rfl rfl) ?_
                refine JL.val rfl rfl (R.pickF rfl rfl) ?_
                refine JL.nil ?_
                refine JN.next ?_
                refine JC.condF rfl ?_
                refine JC.skip ?_
                obtain rfl := Option.some.inj hx
                refine JN.forget 0 ?_
                exact JN.cut ⟨(), rfl, rfl, rfl, rfl⟩ ⟨rfl, rfl, rfl, rfl, rfl, rfl, trivial⟩ rfl rfl

set_option maxHeartbeats 1000000 in
theorem dead_Split_ok (p_1 : List Ptr) (p_3 : UInt32) (H : Heaplet) {aoa_2 : Option Addr} {na_2 : Nat} {capa_2 : Nat} (ha_2 : IsSlice H R_Ptr 5 (.slice aoa_2 na_2 capa_2) p_1) (r : List Ptr × List Ptr × Int) (hx : dead_Split p_1 p_3 = some r) :
    Does Try.prog 13 #[.slice aoa_2 na_2 capa_2, .int .u32 (p_3.toNat : Int)] [] H (fun u K' H' => ∃ ao0 : Option Addr, ∃ n0 : Nat, ∃ cap0 : Nat, ∃ K0 : Own, ∃ ao1 : Option Addr, ∃ n1 : Nat, ∃ cap1 : Nat, ∃ K1 : Own, u = .tuple #[.slice ao0 n0 cap0, .slice ao1 n1 cap1, .int .i64 r.2.2] ∧ K' = [K0, K1] ∧ H = H' ∧ RowOf (New H H) R_Ptr 0 32 5 (.slice ao0 n0 cap0) r.1 K0 ∧ (∀ p ∈ K0, p.1 ∉ ids (List.flatten [])) ∧ RowOf (New H H) R_Ptr 0 32 5 (.slice ao1 n1 cap1) r.2.1 K1 ∧ (∀ p ∈ K1, p.1 ∉ ids (List.flatten [])) ∧ True) := by
  refine Does.enterL (vs := [.slice aoa_2 na_2 capa_2, .int .u32 (p_3.toNat : Int)]) (l := [(0, .slice aoa_2 na_2 capa_2), (1, .int .u32 (p_3.toNat : Int))]) Try.func13 rfl rfl ⟨rfl, rfl, trivial⟩ (fun w hlt => ?_)
  rw [dead_Split.eq_1] at hx
  refine JC.seq ?_
  refine JC.region ?_
  refine JL.alloc Z22 rfl (fun b_4 hb_4 => ?_)
  refine JL.alloc Z22 rfl (fun b_5 hb_5 => ?_)
  refine JL.val rfl rfl (R.assign rfl) ?_
  refine JL.nil ?_
  refine JN.next ?_
  refine JC.seq ?_
  refine JC.seq ?_
  refine JC.region ?_
  refine JL.val rfl rfl (R.move rfl) ?_
  obtain ⟨x_6, hr_7, hx⟩ := bnd_some hx
  refine JL.callC (vs := [_]) (args := [_]) (K := []) (rst := [_, _]) E10 rfl rfl rfl picks0 (dead_Check_ok p_1 _ ha_2 _ hr_7) rfl (fun u_8 Ku_8 Hu_8 hRu_8 hleu_8 hfu_8 => ?_)
  obtain ⟨rfl, rfl, rfl, -⟩ := hRu_8
  refine JL.val rfl rfl (R.assign rfl) ?_
  refine JL.nil ?_
  refine JN.next ?_
  refine JC.seq ?_
  refine JC.region ?_
  refine JL.val rfl rfl (R.move rfl) ?_
  refine JL.val rfl rfl (R.neq_i rfl rfl) ?_
  refine JL.nil ?_
  refine JN.next ?_
  refine JC.condB rfl (fun c_9 => ?_) (fun c_9 => ?_)
  · replace hx := cond_t c_9 hx
    refine JC.seq ?_
    refine JC.region ?_
    refine JL.val rfl rfl (R.move rfl) ?_
    refine JL.store 1 S22 rfl rfl rfl rfl rfl (Nat.le_of_ble_eq_true rfl) ?_
    refine JL.store 0 S22 rfl rfl rfl rfl rfl (Nat.le_of_ble_eq_true rfl) ?_
    refine JL.val rfl rfl (R.assign rfl) ?_
    refine JL.nil ?_
    refine JN.next ?_
    refine JC.ret ?_
    refine JN.passR ?_
    refine JN.seg0 ?_
    refine JN.seg0 ?_
    refine JN.outP (vs := [.slice none 0 0, .slice none 0 0, .int .i64 x_6]) (K := [_, _]) (rst := [_, _]) (.inl rfl) rfl rfl (Res.cell1 3 rfl rfl S22 rfl (Res.cell1 2 rfl rfl S22 rfl (Res.tmp rfl rfl))) (picks 0 rfl (picks 0 rfl picks0)) ?_
    obtain rfl := Option.some.inj hx
    exact ⟨none, 0, 0, [], none, 0, 0, [], rfl, rfl, rfl, (RowOf.nil _ _ _ _ _), (fun p hp => by cases hp), (RowOf.nil _ _ _ _ _), (fun p hp => by cases hp), trivial⟩
  · replace hx := cond_f c_9 hx
    refine JC.skip ?_
    refine JN.next ?_
    refine JC.seq ?_
    refine JC.seq ?_
    refine JC.region ?_
    refine JL.val rfl rfl (R.move rfl) ?_
    refine JL.val rfl rfl (R.lenL U22 rfl (IsSlice.long ha_2)) ?_
    refine JL.val rfl rfl (R.move rfl) ?_
    refine JL.nil ?_
    refine JN.next ?_
    obtain ⟨t_10, ht_12, hx⟩ := bnd_some hx
    refine JC.cut (fun l o g => ∃ aor_18 : Option Addr, ∃ nr_18 : Nat, ∃ capr_18 : Nat, ∃ Kr_18 : Own, ∃ aor_19 : Option Addr, ∃ nr_19 : Nat, ∃ capr_19 : Nat, ∃ Kr_19 : Own, l = [(4, .pointer (some ⟨b_4, 0, none⟩)), (5, .pointer (some ⟨b_5, 0, none⟩))] ∧ o = [[(b_4, .cells #[.slice aor_18 nr_18 capr_18] 22 (0, 0))], Kr_18, [(b_5, .cells #[.slice aor_19 nr_19 capr_19] 22 (0, 0))], Kr_19] ∧ H = g ∧ RowOf (New H H) R_Ptr w.heap.size 32 5 (.slice aor_18 nr_18 capr_18) t_10.1 Kr_18 ∧ RowOf (New H H) R_Ptr w.heap.size 32 5 (.slice aor_19 nr_19 capr_19) t_10.2 Kr_19) ?_ ?_
    · rintro _ _ _ ⟨aor_18, nr_18, capr_18, Kr_18, aor_19, nr_19, capr_19, Kr_19, rfl, rfl, rfl, hr_18, hr_19⟩
      refine JN.next ?_
      refine JC.seq ?_
      refine JC.region ?_
      refine JL.val rfl rfl (R.ldo 0 S22 rfl rfl rfl) ?_
      refine JL.val rfl rfl (R.ldo 2 S22 rfl rfl rfl) ?_
      refine JL.store 0 S22 rfl rfl rfl rfl rfl (Nat.le_of_ble_eq_true rfl) ?_
      refine JL.store 2 S22 rfl rfl rfl rfl rfl (Nat.le_of_ble_eq_true rfl) ?_
      refine JL.val rfl rfl (R.assign rfl) ?_
      refine JL.nil ?_
      refine JN.next ?_
      refine JC.ret ?_
      refine JN.outP (vs := [.slice aor_18 nr_18 capr_18, .slice aor_19 nr_19 capr_19, .int .i64 0]) (K := [_, _]) (rst := [_, _]) (.inl rfl) rfl rfl (Res.cell1 0 rfl rfl S22 rfl (Res.cell1 2 rfl rfl S22 rfl (Res.tmp rfl rfl))) (picks 1 rfl (picks 2 rfl picks0)) ?_
      obtain rfl := Option.some.inj hx
      exact ⟨aor_18, nr_18, capr_18, Kr_18, aor_19, nr_19, capr_19, Kr_19, rfl, rfl, rfl, (RowOf.weak (Nat.zero_le _) hr_18), (new_ids hr_18 hlt), (RowOf.weak (Nat.zero_le _) hr_19), (new_ids hr_19 hlt), trivial⟩
    · have hxo_11 := hx; clear hx; have hx := ht_12; clear ht_12
      refine JC.block ?_
      refine JC.seg0 ?_
      refine JC.seg0 ?_
      refine JC.front 2 rfl ?_
      refine JC.front 2 rfl ?_
      refine JC.front 3 rfl ?_
      refine JC.loopI (fun n l o g => ∃ s_13 : List Ptr × List Ptr × Nat, ∃ aor_16 : Option Addr, ∃ nr_16 : Nat, ∃ capr_16 : Nat, ∃ Kr_16 : Own, ∃ aor_17 : Option Addr, ∃ nr_17 : Nat, ∃ capr_17 : Nat, ∃ Kr_17 : Own, l = [(1, .int .u32 (p_3.toNat : Int)), (4, .pointer (some ⟨b_4, 0, none⟩)), (5, .pointer (some ⟨b_5, 0, none⟩)), (16, .slice aoa_2 na_2 capa_2), (17, .int .i64 (p_1.length : Int)), (18, .int .i64 ((s_13.2.2 : Nat) : Int))] ∧ o = [[(b_4, .cells #[.slice aor_16 nr_16 capr_16] 22 (0, 0))], Kr_16, [(b_5, .cells #[.slice aor_17 nr_17 capr_17] 22 (0, 0))], Kr_17] ∧ H = g ∧ run (dead_Split_l1 p_1 p_3) n s_13 = some t_10 ∧ RowOf (New H H) R_Ptr w.heap.size 32 5 (.slice aor_16 nr_16 capr_16) s_13.1 Kr_16 ∧ RowOf (New H H) R_Ptr w.heap.size 32 5 (.slice aor_17 nr_17 capr_17) s_13.2.1 Kr_17) FUEL ?_ ⟨(([] : List Ptr), ([] : List Ptr), 0), none, 0, 0, [], none, 0, 0, [], rfl, rfl, rfl, hx, (RowOf.nil _ _ _ _ _), (RowOf.nil _ _ _ _ _)⟩ ⟨rfl, rfl, rfl, rfl, rfl, rfl, trivial⟩ ?_
      · rintro _ _ _ ⟨s_13, aor_16, nr_16, capr_16, Kr_16, aor_17, nr_17, capr_17, Kr_17, rfl, rfl, rfl, hn_14, hr_16, hr_17⟩
        exact run_zero hn_14
      · rintro n_15 _ _ _ ⟨s_13, aor_16, nr_16, capr_16, Kr_16, aor_17, nr_17, capr_17, Kr_17, rfl, rfl, rfl, hn_14, hr_16, hr_17⟩
        clear hx; obtain ⟨oo_19, hx, hd_18⟩ := run_some hn_14
        rw [dead_Split_l1.eq_1] at hx
        refine JC.seq ?_
        refine JC.region ?_
        refine JL.val rfl rfl (R.lss_i rfl rfl) ?_
        refine JL.nil ?_
        refine JN.next ?_
        refine JC.seq ?_
        refine JC.condB rfl (fun c_18 => ?_) (fun c_18 => ?_)
        · replace hx := cond_t c_18 hx
          refine JC.skip ?_
          refine JN.next ?_
          refine JC.seq ?_
          refine JC.block ?_
          refine JC.seq ?_
          refine JC.region ?_
          obtain ⟨y_19, hN_20, hx⟩ := idx_some hx
          obtain ⟨b_21, o_22, cs_23, hE_24, hR_25, hl_26, hc_27⟩ := IsSlice.elem ha_2 hN_20
          obtain rfl := hR_25
          refine JL.val rfl rfl (R.ix U22 S32 rfl rfl hE_24) ?_
          refine JL.val rfl rfl (R.ldHE (cs := [.int .i64 y_19.At, .int .u32 (y_19.Birth.toNat : Int), .int .u32 (y_19.Iv.toNat : Int), .int .u32 (y_19.Tag.toNat : Int), .int .u32 (y_19.Sum.toNat : Int)]) (k := 0) (vs := [.int .i64 y_19.At, .int .u32 (y_19.Birth.toNat : Int), .int .u32 (y_19.Iv.toNat : Int), .int .u32 (y_19.Tag.toNat : Int), .int .u32 (y_19.Sum.toNat : Int)]) S32 rfl hc_27 rfl rfl) ?_
          refine JL.alloc Z32 rfl (fun b_28 hb_28 => ?_)
          refine JL.store 0 S32 rfl rfl rfl rfl rfl (Nat.le_of_ble_eq_true rfl) ?_
          refine JL.nil ?_
          refine JN.next ?_
          refine JC.seq ?_
          refine JC.region ?_
          refine JL.val rfl rfl (R.assign rfl) ?_
          refine JL.nil ?_
          refine JN.next ?_
          refine JC.seq ?_
          refine JC.seq ?_
          refine JC.region ?_
          refine JL.val rfl rfl (R.fa F32_1 rfl) ?_
          refine JL.val rfl rfl (R.ldo 0 S30 rfl rfl rfl) ?_
          refine JL.val rfl rfl (R.move rfl) ?_
          refine JL.val rfl rfl (R.gtr32 (a := y_19.Birth) (b := p_3) rfl rfl) ?_
          refine JL.nil ?_
          refine JN.next ?_
          refine JC.condB rfl (fun c_29 => ?_) (fun c_29 => ?_)
          · replace hx := cond_t c_29 hx
            refine JC.region ?_
            refine JL.val rfl rfl (R.assign rfl) ?_
            refine JL.nil ?_
            refine JN.next ?_
            refine JC.draw (so := [_, _, _]) 9 rfl Mixed ⟨⟨0, rfl⟩, ⟨1, rfl⟩, ⟨2, rfl⟩, trivial⟩ ?_
            refine JA.val ⟨by kernel_rfl, by kernel_rfl⟩ (calm_only _) (i := 0) rfl ⟨by kernel_rfl, by kernel_rfl, rfl⟩ trivial (stab_of (Hle.refl _) ⟨⟨0, rfl⟩, ⟨1, rfl⟩, ⟨2, rfl⟩, trivial⟩) (R.move rfl) rfl ?_
            refine JA.val ⟨by kernel_rfl, by kernel_rfl⟩ (calm_only _) (i := 1) rfl ⟨by kernel_rfl, by kernel_rfl, rfl⟩ trivial (stab_of (Hle.refl _) ⟨⟨0, rfl⟩, ⟨1, rfl⟩, ⟨2, rfl⟩, trivial⟩) (R.move rfl) rfl ?_
            refine JA.val ⟨by kernel_rfl, by kernel_rfl⟩ (calm_only _) (i := 2) rfl ⟨by kernel_rfl, by kernel_rfl, rfl⟩ trivial (stab_of (Hle.refl _) ⟨⟨0, rfl⟩, ⟨1, rfl⟩, ⟨2, rfl⟩, trivial⟩) (R.nilCheck rfl) rfl ?_
            refine JA.val ⟨by kernel_rfl, by kernel_rfl⟩ (calm_only _) (i := 4) rfl ⟨by kernel_rfl, by kernel_rfl, rfl⟩ trivial (stab_of (Hle.refl _) ⟨⟨0, rfl⟩, ⟨1, rfl⟩, ⟨2, rfl⟩, trivial⟩) (R.ldoN 0 (vs := [.int .i64 y_19.At, .int .u32 (y_19.Birth.toNat : Int), .int .u32 (y_19.Iv.toNat : Int), .int .u32 (y_19.Tag.toNat : Int), .int .u32 (y_19.Sum.toNat : Int)]) S32 rfl rfl rfl rfl) rfl ?_
            refine JA.two (i := 3) (j := 5) (by kernel_rfl) ?_ ?_
            · refine JO.step rfl trivial rfl (fun K hK => ?_)
              refine JL.val rfl rfl (R.ldo 3 S22 rfl rfl rfl) ?_
              refine JL.nil ?_
              refine hK _ _ _ (stab_of (Hle.refl _) ⟨⟨0, rfl⟩, ⟨1, rfl⟩, ⟨2, rfl⟩, trivial⟩) ?_
              refine JA.one (i := 5) (by kernel_rfl) ?_
              refine JO.step rfl trivial rfl (fun K hK => ?_)
              refine JL.bslF (HF := (New H H)) (R := R_Ptr) (ls := [y_19]) (vs := [.agg #[.int .i64 y_19.At, .int .u32 (y_19.Birth.toNat : Int), .int .u32 (y_19.Iv.toNat : Int), .int .u32 (y_19.Tag.toNat : Int), .int .u32 (y_19.Sum.toNat : Int)]]) U22 I32 rfl rfl (⟨_, _, rfl, rfl, rfl, rfl⟩) R_Ptr.one rfl rfl rfl (by simp [maxLen]) rfl (fun vr_30 Kr_30 hr_30 => ?_)
              obtain ⟨aor_30, capr_30, rfl⟩ := RowOf.val hr_30
              refine JL.nil ?_
              refine hK _ _ _ (stab_of (Hle.refl _) ⟨⟨1, rfl⟩, ⟨2, rfl⟩, ⟨3, rfl⟩, trivial⟩) ?_
              refine JA.one (i := 6) (by kernel_rfl) ?_
              refine JO.step rfl trivial rfl (fun K hK => ?_)
              obtain ⟨q_31, hm_32, hl_33, hx⟩ := app_some hx
              refine JL.appF (HF := (New H H)) 5 U22 I32 rfl rfl hr_17 rfl (SrcF.row 0 U22 rfl hr_30) hm_32 hl_33 rfl (Nat.le_refl _) rfl (fun vr_34 Kr_34 hr_34 => ?_)
              obtain ⟨aor_34, capr_34, rfl⟩ := RowOf.val hr_34
              refine JL.nil ?_
              refine hK _ _ _ (stab_of (Hle.refl _) ⟨⟨1, rfl⟩, ⟨2, rfl⟩, ⟨3, rfl⟩, trivial⟩) ?_
              refine JA.val ⟨by kernel_rfl, by kernel_rfl⟩ (calm_only _) (i := 7) rfl ⟨by kernel_rfl, by kernel_rfl, rfl⟩ trivial (stab_of (Hle.refl _) ⟨⟨1, rfl⟩, ⟨2, rfl⟩, ⟨3, rfl⟩, trivial⟩) (R.nilCheck rfl) rfl ?_
              refine JA.one (i := 8) (by kernel_rfl) ?_
              refine JO.step rfl trivial rfl (fun K hK => ?_)
              refine JL.store 4 S22 rfl rfl rfl rfl rfl (Nat.le_of_ble_eq_true rfl) ?_
              refine JL.nil ?_
              refine hK _ _ _ (stab_of (Hle.refl _) ⟨⟨1, rfl⟩, ⟨2, rfl⟩, ⟨3, rfl⟩, trivial⟩) ?_
              refine JA.doneN (by kernel_rfl) ?_
              refine JN.blkN ?_
              refine JN.next ?_
              refine JC.region ?_
              refine JL.val rfl rfl (R.inc rfl rfl (of_decide_eq_true c_18) (IsSlice.lenI ha_2)) ?_
              refine JL.val rfl rfl (R.move rfl) ?_
              refine JL.nil ?_
              replace hx := run_next hd_18 hx
              refine JN.forget 1 ?_
              refine JN.forget 0 ?_
              refine JN.front 3 rfl ?_
              refine JN.front 3 rfl ?_
              refine JN.front 3 rfl ?_
              refine JN.front 3 rfl ?_
              exact JN.cut ⟨(s_13.1, q_31, s_13.2.2 + 1), aor_16, nr_16, capr_16, Kr_16, aor_34, q_31.length, capr_34, Kr_34, rfl, rfl, rfl, hx, hr_16, hr_34⟩ ⟨rfl, rfl, rfl, rfl, rfl, rfl, trivial⟩ rfl rfl
            · refine JO.step rfl trivial rfl (fun K hK => ?_)
              refine JL.bslF (HF := (New H H)) (R := R_Ptr) (ls := [y_19]) (vs := [.agg #[.int .i64 y_19.At, .int .u32 (y_19.Birth.toNat : Int), .int .u32 (y_19.Iv.toNat : Int), .int .u32 (y_19.Tag.toNat : Int), .int .u32 (y_19.Sum.toNat : Int)]]) U22 I32 rfl rfl (⟨_, _, rfl, rfl, rfl, rfl⟩) R_Ptr.one rfl rfl rfl (by simp [maxLen]) rfl (fun vr_35 Kr_35 hr_35 => ?_)
              obtain ⟨aor_35, capr_35, rfl⟩ := RowOf.val hr_35
              refine JL.nil ?_
              refine hK _ _ _ (stab_of (Hle.refl _) ⟨⟨1, rfl⟩, ⟨2, rfl⟩, ⟨3, rfl⟩, trivial⟩) ?_
              refine JA.one (i := 3) (by kernel_rfl) ?_
              refine JO.step rfl trivial rfl (fun K hK => ?_)
              refine JL.val rfl rfl (R.ldo 4 S22 rfl rfl rfl) ?_
              refine JL.nil ?_
              refine hK _ _ _ (stab_of (Hle.refl _) ⟨⟨1, rfl⟩, ⟨2, rfl⟩, ⟨3, rfl⟩, trivial⟩) ?_
              refine JA.one (i := 6) (by kernel_rfl) ?_
              refine JO.step rfl trivial rfl (fun K hK => ?_)
              obtain ⟨q_36, hm_37, hl_38, hx⟩ := app_some hx
              refine JL.appF (HF := (New H H)) 5 U22 I32 rfl rfl hr_17 rfl (SrcF.row 0 U22 rfl hr_35) hm_37 hl_38 rfl (Nat.le_refl _) rfl (fun vr_39 Kr_39 hr_39 => ?_)
              obtain ⟨aor_39, capr_39, rfl⟩ := RowOf.val hr_39
              refine JL.nil ?_
              refine hK _ _ _ (stab_of (Hle.refl _) ⟨⟨1, rfl⟩, ⟨2, rfl⟩, ⟨3, rfl⟩, trivial⟩) ?_
              refine JA.val ⟨by kernel_rfl, by kernel_rfl⟩ (calm_only _) (i := 7) rfl ⟨by kernel_rfl, by kernel_rfl, rfl⟩ trivial (stab_of (Hle.refl _) ⟨⟨1, rfl⟩, ⟨2, rfl⟩, ⟨3, rfl⟩, trivial⟩) (R.nilCheck rfl) rfl ?_
              refine JA.one (i := 8) (by kernel_rfl) ?_
              refine JO.step rfl trivial rfl (fun K hK => ?_)
              refine JL.store 4 S22 rfl rfl rfl rfl rfl (Nat.le_of_ble_eq_true rfl) ?_
              refine JL.nil ?_
              refine hK _ _ _ (stab_of (Hle.refl _) ⟨⟨1, rfl⟩, ⟨2, rfl⟩, ⟨3, rfl⟩, trivial⟩) ?_
              refine JA.doneN (by kernel_rfl) ?_
              refine JN.blkN ?_
              refine JN.next ?_
              refine JC.region ?_
              refine JL.val rfl rfl (R.inc rfl rfl (of_decide_eq_true c_18) (IsSlice.lenI ha_2)) ?_
              refine JL.val rfl rfl (R.move rfl) ?_
              refine JL.nil ?_
              replace hx := run_next hd_18 hx
              refine JN.forget 1 ?_
              refine JN.forget 0 ?_
              refine JN.front 3 rfl ?_
              refine JN.front 3 rfl ?_
              refine JN.front 3 rfl ?_
              refine JN.front 3 rfl ?_
              exact JN.cut ⟨(s_13.1, q_36, s_13.2.2 + 1), aor_16, nr_16, capr_16, Kr_16, aor_39, q_36.length, capr_39, Kr_39, rfl, rfl, rfl, hx, hr_16, hr_39⟩ ⟨rfl, rfl, rfl, rfl, rfl, rfl, trivial⟩ rfl rfl
          · replace hx := cond_f c_29 hx
            refine JC.skip ?_
            refine JN.next ?_
            refine JC.draw (so := [_, _, _]) 9 rfl Mixed ⟨⟨0, rfl⟩, ⟨3, rfl⟩, ⟨4, rfl⟩, trivial⟩ ?_
            refine JA.val ⟨by kernel_rfl, by kernel_rfl⟩ (calm_only _) (i := 0) rfl ⟨by kernel_rfl, by kernel_rfl, rfl⟩ trivial (stab_of (Hle.refl _) ⟨⟨0, rfl⟩, ⟨3, rfl⟩, ⟨4, rfl⟩, trivial⟩) (R.move rfl) rfl ?_
            refine JA.val ⟨by kernel_rfl, by kernel_rfl⟩ (calm_only _) (i := 1) rfl ⟨by kernel_rfl, by kernel_rfl, rfl⟩ trivial (stab_of (Hle.refl _) ⟨⟨0, rfl⟩, ⟨3, rfl⟩, ⟨4, rfl⟩, trivial⟩) (R.move rfl) rfl ?_
            refine JA.val ⟨by kernel_rfl, by kernel_rfl⟩ (calm_only _) (i := 2) rfl ⟨by kernel_rfl, by kernel_rfl, rfl⟩ trivial (stab_of (Hle.refl _) ⟨⟨0, rfl⟩, ⟨3, rfl⟩, ⟨4, rfl⟩, trivial⟩) (R.nilCheck rfl) rfl ?_
            refine JA.val ⟨by kernel_rfl, by kernel_rfl⟩ (calm_only _) (i := 4) rfl ⟨by kernel_rfl, by kernel_rfl, rfl⟩ trivial (stab_of (Hle.refl _) ⟨⟨0, rfl⟩, ⟨3, rfl⟩, ⟨4, rfl⟩, trivial⟩) (R.ldoN 0 (vs := [.int .i64 y_19.At, .int .u32 (y_19.Birth.toNat : Int), .int .u32 (y_19.Iv.toNat : Int), .int .u32 (y_19.Tag.toNat : Int), .int .u32 (y_19.Sum.toNat : Int)]) S32 rfl rfl rfl rfl) rfl ?_
            refine JA.two (i := 3) (j := 5) (by kernel_rfl) ?_ ?_
            · refine JO.step rfl trivial rfl (fun K hK => ?_)
              refine JL.val rfl rfl (R.ldo 1 S22 rfl rfl rfl) ?_
              refine JL.nil ?_
              refine hK _ _ _ (stab_of (Hle.refl _) ⟨⟨0, rfl⟩, ⟨3, rfl⟩, ⟨4, rfl⟩, trivial⟩) ?_
              refine JA.one (i := 5) (by kernel_rfl) ?_
              refine JO.step rfl trivial rfl (fun K hK => ?_)
              refine JL.bslF (HF := (New H H)) (R := R_Ptr) (ls := [y_19]) (vs := [.agg #[.int .i64 y_19.At, .int .u32 (y_19.Birth.toNat : Int), .int .u32 (y_19.Iv.toNat : Int), .int .u32 (y_19.Tag.toNat : Int), .int .u32 (y_19.Sum.toNat : Int)]]) U22 I32 rfl rfl (⟨_, _, rfl, rfl, rfl, rfl⟩) R_Ptr.one rfl rfl rfl (by simp [maxLen]) rfl (fun vr_40 Kr_40 hr_40 => ?_)
              obtain ⟨aor_40, capr_40, rfl⟩ := RowOf.val hr_40
              refine JL.nil ?_
              refine hK _ _ _ (stab_of (Hle.refl _) ⟨⟨1, rfl⟩, ⟨4, rfl⟩, ⟨5, rfl⟩, trivial⟩) ?_
              refine JA.one (i := 6) (by kernel_rfl) ?_
              refine JO.step rfl trivial rfl (fun K hK => ?_)
              obtain ⟨q_41, hm_42, hl_43, hx⟩ := app_some hx
              refine JL.appF (HF := (New H H)) 3 U22 I32 rfl rfl hr_16 rfl (SrcF.row 0 U22 rfl hr_40) hm_42 hl_43 rfl (Nat.le_refl _) rfl (fun vr_44 Kr_44 hr_44 => ?_)
              obtain ⟨aor_44, capr_44, rfl⟩ := RowOf.val hr_44
              refine JL.nil ?_
              refine hK _ _ _ (stab_of (Hle.refl _) ⟨⟨1, rfl⟩, ⟨4, rfl⟩, ⟨5, rfl⟩, trivial⟩) ?_
              refine JA.val ⟨by kernel_rfl, by kernel_rfl⟩ (calm_only _) (i := 7) rfl ⟨by kernel_rfl, by kernel_rfl, rfl⟩ trivial (stab_of (Hle.refl _) ⟨⟨1, rfl⟩, ⟨4, rfl⟩, ⟨5, rfl⟩, trivial⟩) (R.nilCheck rfl) rfl ?_
              refine JA.one (i := 8) (by kernel_rfl) ?_
              refine JO.step rfl trivial rfl (fun K hK => ?_)
              refine JL.store 2 S22 rfl rfl rfl rfl rfl (Nat.le_of_ble_eq_true rfl) ?_
              refine JL.nil ?_
              refine hK _ _ _ (stab_of (Hle.refl _) ⟨⟨1, rfl⟩, ⟨4, rfl⟩, ⟨5, rfl⟩, trivial⟩) ?_
              refine JA.doneN (by kernel_rfl) ?_
              refine JN.blkN ?_
              refine JN.next ?_
              refine JC.region ?_
              refine JL.val rfl rfl (R.inc rfl rfl (of_decide_eq_true c_18) (IsSlice.lenI ha_2)) ?_
              refine JL.val rfl rfl (R.move rfl) ?_
              refine JL.nil ?_
              replace hx := run_next hd_18 hx
              refine JN.forget 1 ?_
              refine JN.forget 0 ?_
              refine JN.front 3 rfl ?_
              refine JN.front 3 rfl ?_
              refine JN.front 3 rfl ?_
              refine JN.front 3 rfl ?_
              exact JN.cut ⟨(q_41, s_13.2.1, s_13.2.2 + 1), aor_44, q_41.length, capr_44, Kr_44, aor_17, nr_17, capr_17, Kr_17, rfl, rfl, rfl, hx, hr_44, hr_17⟩ ⟨rfl, rfl, rfl, rfl, rfl, rfl, trivial⟩ rfl rfl
            · refine JO.step rfl trivial rfl (fun K hK => ?_)
              refine JL.bslF (HF := (New H H)) (R := R_Ptr) (ls := [y_19]) (vs := [.agg #[.int .i64 y_19.At, .int .u32 (y_19.Birth.toNat : Int), .int .u32 (y_19.Iv.toNat : Int), .int .u32 (y_19.Tag.toNat : Int), .int .u32 (y_19.Sum.toNat : Int)]]) U22 I32 rfl rfl (⟨_, _, rfl, rfl, rfl, rfl⟩) R_Ptr.one rfl rfl rfl (by simp [maxLen]) rfl (fun vr_45 Kr_45 hr_45 => ?_)
              obtain ⟨aor_45, capr_45, rfl⟩ := RowOf.val hr_45
              refine JL.nil ?_
              refine hK _ _ _ (stab_of (Hle.refl _) ⟨⟨1, rfl⟩, ⟨4, rfl⟩, ⟨5, rfl⟩, trivial⟩) ?_
              refine JA.one (i := 3) (by kernel_rfl) ?_
              refine JO.step rfl trivial rfl (fun K hK => ?_)
              refine JL.val rfl rfl (R.ldo 2 S22 rfl rfl rfl) ?_
              refine JL.nil ?_
              refine hK _ _ _ (stab_of (Hle.refl _) ⟨⟨1, rfl⟩, ⟨4, rfl⟩, ⟨5, rfl⟩, trivial⟩) ?_
              refine JA.one (i := 6) (by kernel_rfl) ?_
              refine JO.step rfl trivial rfl (fun K hK => ?_)
              obtain ⟨q_46, hm_47, hl_48, hx⟩ := app_some hx
              refine JL.appF (HF := (New H H)) 3 U22 I32 rfl rfl hr_16 rfl (SrcF.row 0 U22 rfl hr_45) hm_47 hl_48 rfl (Nat.le_refl _) rfl (fun vr_49 Kr_49 hr_49 => ?_)
              obtain ⟨aor_49, capr_49, rfl⟩ := RowOf.val hr_49
              refine JL.nil ?_
              refine hK _ _ _ (stab_of (Hle.refl _) ⟨⟨1, rfl⟩, ⟨4, rfl⟩, ⟨5, rfl⟩, trivial⟩) ?_
              refine JA.val ⟨by kernel_rfl, by kernel_rfl⟩ (calm_only _) (i := 7) rfl ⟨by kernel_rfl, by kernel_rfl, rfl⟩ trivial (stab_of (Hle.refl _) ⟨⟨1, rfl⟩, ⟨4, rfl⟩, ⟨5, rfl⟩, trivial⟩) (R.nilCheck rfl) rfl ?_
              refine JA.one (i := 8) (by kernel_rfl) ?_
              refine JO.step rfl trivial rfl (fun K hK => ?_)
              refine JL.store 2 S22 rfl rfl rfl rfl rfl (Nat.le_of_ble_eq_true rfl) ?_
              refine JL.nil ?_
              refine hK _ _ _ (stab_of (Hle.refl _) ⟨⟨1, rfl⟩, ⟨4, rfl⟩, ⟨5, rfl⟩, trivial⟩) ?_
              refine JA.doneN (by kernel_rfl) ?_
              refine JN.blkN ?_
              refine JN.next ?_
              refine JC.region ?_
              refine JL.val rfl rfl (R.inc rfl rfl (of_decide_eq_true c_18) (IsSlice.lenI ha_2)) ?_
              refine JL.val rfl rfl (R.move rfl) ?_
              refine JL.nil ?_
              replace hx := run_next hd_18 hx
              refine JN.forget 1 ?_
              refine JN.forget 0 ?_
              refine JN.front 3 rfl ?_
              refine JN.front 3 rfl ?_
              refine JN.front 3 rfl ?_
              refine JN.front 3 rfl ?_
              exact JN.cut ⟨(q_46, s_13.2.1, s_13.2.2 + 1), aor_49, q_46.length, capr_49, Kr_49, aor_17, nr_17, capr_17, Kr_17, rfl, rfl, rfl, hx, hr_49, hr_17⟩ ⟨rfl, rfl, rfl, rfl, rfl, rfl, trivial⟩ rfl rfl
        · replace hx := cond_f c_18 hx
          refine JC.exit ?_
          refine JN.passX ?_
          obtain rfl := run_done hd_18 hx
          refine JN.passX ?_
          refine JN.exitSame ?_
          refine JN.front 3 rfl ?_
          refine JN.front 3 rfl ?_
          refine JN.front 3 rfl ?_
          refine JN.front 3 rfl ?_
          exact JN.cut ⟨aor_16, nr_16, capr_16, Kr_16, aor_17, nr_17, capr_17, Kr_17, rfl, rfl, rfl, hr_16, hr_17⟩ ⟨rfl, rfl, trivial⟩ rfl rfl
end Go.Proofs.Ytbdmdhfphnklbaa
