import Derived.Test.YtpggcoheldampaaGreatDoorO30
import Derived.KernelRfl
/-
  What is proved here: the function alive of law 30 comes to true; it is computed at once from here on.
-/
namespace Go.Proofs.YtpggcoheldampaaGreatDoor
open Go Go.Ow Go.RowKit Go.Proofs Go.Ev
set_option linter.unusedVariables false
theorem alive30 : okB ((ev Tryz.prog nat30 gOf 100000).f 46 [] ⟨full 2, 0⟩) = true := by kernel_rfl
/-- true, without arguments -/
noncomputable def nTrue : Phi := fun vs h => List.rec (some (.bool true, h)) (fun _ _ _ => none) vs
theorem nTrue_ok {P : Program} {f : FuncId} (hE : Enters P f) (C : ∀ w, CallsIn Fence.wide 0 P f #[] w (fun e w' => e = .returned (.bool true) ∧ Kept [] w w')) : SFn P f nTrue :=
  .of hE (fun vs h v h' e m S w0 w r hb => by
    cases vs with
    | cons => cases e
    | nil =>
      cases e
      show CallsIn Fence.wide 0 P f _ w _
      refine CallsIn.mono (C w) (fun e w' q => ?_)
      obtain ⟨rfl, hk⟩ := q
      exact ⟨m, Ext.refl _ _, Nat.le_refl _, r.kept hk, bel_bool, by rw [inst_bool]⟩)
theorem fAlive30 : SFn Tryz.prog 46 nTrue := nTrue_ok (en Tryz.func46 rfl) (fun w => true_run nat30_ok alive30 w)
end Go.Proofs.YtpggcoheldampaaGreatDoor
