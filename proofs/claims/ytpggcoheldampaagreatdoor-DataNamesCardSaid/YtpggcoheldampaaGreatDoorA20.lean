import Derived.Test.YtpggcoheldampaaGreatDoorNb
import Derived.KernelRfl
/-
  What is proved here: the function alive of law 20 comes to true; it is computed at once from here on.
-/
namespace Go.Proofs.YtpggcoheldampaaGreatDoor
open Go Go.Ow Go.RowKit Go.Proofs Go.Ev
set_option linter.unusedVariables false
theorem alive20 : okB ((ev Tryz.prog nats gOf 100000).f 14 [] ⟨full 2, 0⟩) = true := by kernel_rfl
/-- true, without arguments -/
noncomputable def nTrue : Phi := fun vs h => List.rec (some (.bool true, h)) (fun _ _ _ => none) vs
theorem nTrue_ok {P : Program} {f : FuncId} (hE : Enters P f) (C : ∀ w, CallsIn Fence.wide 0 P f #[] w (fun e w' => e = .returned (.bool true) ∧ Kept [] w w')) : SFn P f nTrue :=
  .of hE (fun vs h v h' e m S w0 w r hb => by
    cases vs with
    | cons => cases e
    | nil =>
      cases e
      show CallsIn Fence.wide 0 P f _ w _
      refine CallsIn.mono (C w) (fun e w' q => ?_)
      obtain ⟨rfl, hk⟩ := q
      exact ⟨m, Ext.refl _ _, Nat.le_refl _, r.kept hk, bel_bool, by rw [inst_bool]⟩)
theorem fAlive20 : SFn Tryz.prog 14 nTrue := nTrue_ok (en Tryz.func14 rfl) (fun w => true_run nats_ok alive20 w)
/-- one native more -/
noncomputable def more (f0 : FuncId) (g : Phi) (N : Nat1) : Nat1 := fun f => Bool.rec (N f) (some g) (Nat.beq f f0)
theorem more_ok {P : Program} {f0 : FuncId} {g0 : Phi} {N : Nat1} (h0 : SFn P f0 g0) (hN : ∀ f g, N f = some g → SFn P f g) (f : FuncId) (g : Phi) (e : more f0 g0 N f = some g) : SFn P f g := by
  rcases bb_some (show (Bool.rec (N f) (some g0) (Nat.beq f f0) : Option Phi) = some g from e) with ⟨h1, h2⟩ | ⟨_, h2⟩
  · cases h2
    rw [Nat.eq_of_beq_eq_true h1]; exact h0
  · exact hN f g h2
end Go.Proofs.YtpggcoheldampaaGreatDoor
