import Derived.Test.YtpggcoheldampaaGreatDoorNb
import Derived.Test.YtpggcoheldampaaGreatDoorEv1
import Derived.KernelRfl
/-
  What is proved here: what the function one of law 21 answers, by value; it is computed at once from here on.
-/
namespace Go.Proofs.YtpggcoheldampaaGreatDoor
open Go Go.Ow Go.RowKit Go.Proofs Go.Ev
set_option linter.unusedVariables false
/-- one native more -/
noncomputable def more (f0 : FuncId) (g : Phi) (N : Nat1) : Nat1 := fun f => Bool.rec (N f) (some g) (Nat.beq f f0)
theorem more_ok {P : Program} {f0 : FuncId} {g0 : Phi} {N : Nat1} (h0 : SFn P f0 g0) (hN : ∀ f g, N f = some g → SFn P f g) (f : FuncId) (g : Phi) (e : more f0 g0 N f = some g) : SFn P f g := by
  rcases bb_some (show (Bool.rec (N f) (some g0) (Nat.beq f f0) : Option Phi) = some g from e) with ⟨h1, h2⟩ | ⟨_, h2⟩
  · cases h2
    rw [Nat.eq_of_beq_eq_true h1]; exact h0
  · exact hN f g h2
def one21T : List TV := [.a ([(.s 256 1 ([(.s 256 1 (ib .u8 [] 256)), (.s 256 1 (ib .u8 [67, 1, 0, 0, 0, 1, 0, 0, 0, 14, 1, 0, 0, 0, 0, 0, 0, 0, 0, 0, 0, 88, 206, 71, 237, 138, 5, 159, 19] 227)), (.s 256 1 (ib .u8 [67, 2, 0, 0, 0, 1, 0, 0, 0, 17, 2, 0, 0, 0, 0, 0, 0, 0, 0, 0, 0, 116, 171, 50, 78, 193, 74, 104, 255] 227))] ++ rp 11 (.s 256 1 (ib .u8 [] 256)) ++ [(.s 256 1 (ib .u8 [82, 1, 0, 1, 0, 0, 0, 0, 0, 0, 0, 0, 0, 0, 0, 0, 12, 1, 0, 0, 0, 0, 0, 0, 0, 0, 0, 0, 6, 27, 29, 100, 0, 0, 0, 0, 0, 0, 0, 0, 0, 0, 0, 0, 0, 0, 0, 0, 0, 0, 0, 0, 0, 0, 0, 0, 0, 0, 0, 0, 0, 0, 0, 0, 0, 0, 0, 0, 0, 0, 0, 0, 0, 0, 0, 0, 0, 0, 0, 0, 13, 1, 0, 0, 0, 0, 0, 0, 0, 0, 0, 0, 6, 27, 29, 100] 160)), (.s 256 1 (ib .u8 [1, 1, 1, 0, 1, 0, 0, 1] 248)), (.s 256 1 (ib .u8 [1, 0, 0, 0, 49, 186, 245, 160, 28, 195, 247, 161, 116, 74, 218, 162, 250, 77, 254, 75, 79, 77, 221, 131] 232)), (.s 256 1 (ib .u8 [82, 2, 0, 3, 0, 0, 0, 1, 0, 0, 0, 0, 0, 0, 0, 0, 15, 2, 0, 0, 0, 0, 0, 0, 0, 0, 0, 0, 63, 109, 193, 45, 0, 0, 0, 0, 0, 0, 0, 0, 0, 0, 0, 0, 0, 0, 0, 0, 0, 0, 0, 0, 0, 0, 0, 0, 0, 0, 0, 0, 0, 0, 0, 0, 0, 0, 0, 0, 0, 0, 0, 0, 0, 0, 0, 0, 0, 0, 0, 0, 16, 2, 0, 0, 0, 0, 0, 0, 0, 0, 0, 0, 1, 155, 204, 60] 160))] ++ rp 238 (.s 256 1 (ib .u8 [] 256)))), nl, (.s 256 1 (ib .u8 [1, 1, 1, 1, 1, 1, 1, 1, 1, 1, 1, 1, 0, 0, 0, 1, 1, 1] 238)), (vi .u32 1), (vi .u32 0), (vi .u32 2), (vi .i64 17), (vi .u32 2), (vi .u32 0), (vi .u32 0), (vi .u32 1311943540), (.s 3 1 ([(vi .i64 15), (vi .i64 16), (vi .i64 17)])), (.s 1 13 ([(vi .i64 1), (vi .u8 1), (vi .i64 1), (vi .i64 0), (vi .u32 1), (vi .u32 1), (vi .i64 0), (vi .i64 0)] ++ rp 4 (vi .u32 0) ++ [nl])), (.s 8 1 ([(.s 24 1 (ib .u8 [1, 0, 0, 0, 49, 186, 245, 160, 28, 195, 247, 161, 116, 74, 218, 162, 250, 77, 254, 75, 79, 77, 221, 131] 0))] ++ rp 7 nl)), (.s 8 1 ([(.s 16 1 (ib .u8 [] 16))] ++ rp 7 nl)), (.s 2 12 ([(vi .i64 1), (vi .i64 0), (vi .i64 0), (vi .u8 0), (vi .i64 0), (vi .i64 0), (.s 256 1 (ib .u8 [97, 98, 99] 253)), (vi .i64 0)] ++ rp 4 (vi .u32 0) ++ [(vi .i64 1), (vi .i64 0), (vi .i64 15), (vi .u8 1), (vi .i64 1), (vi .i64 5), nl, (vi .i64 0)] ++ rp 4 (vi .u32 0))), (vi .i64 0), (vi .i64 2), (vi .u32 3)]),
  .d (.v (.bool true))]
theorem one21 : rdR Tryz.prog ((ev Tryz.prog nats gOf 100000).f 11 [] ⟨full 2, 0⟩) = some one21T := by kernel_rfl
noncomputable def nat21 : Nat1 := more 11 (nK one21T) nats
theorem nat21_ok (f : FuncId) (g : Phi) (e : nat21 f = some g) : SFn Tryz.prog f g := more_ok (nK_ok mixed enP nats_ok one21 (en Tryz.func11 rfl)) nats_ok f g e
end Go.Proofs.YtpggcoheldampaaGreatDoor
