import Derived.Test.YtpggcoheldampaaGreatDoorRows
import Derived.Test.YtpggcoheldampaaGreatDoorD30
import Derived.Test.YtpggcoheldampaaGreatDoorJ30
import Derived.Test.YtpggcoheldampaaGreatDoorOwMf
import Derived.ProofKit
import Derived.LaidMore
import Derived.OpenShut
import Derived.Stop.Joined
import Derived.SevenTiedAt
import Derived.Lay
import Derived.MakeChecks
import Derived.Test.YtpggcoheldampaaGreatDoorTie
import Derived.Test.YtpggcoheldampaaGreatDoorCards
/-
  What is proved here: from the plain law to the given statement: it is true of every input, and leaves it as it was. No condition.
-/
namespace Go.Proofs.YtpggcoheldampaaGreatDoor
open Go.ChangeShapes Go.WideShapes Go.ChangeAt Go.RowKit Go.Ow
set_option linter.unusedVariables false
set_option linter.unusedSimpArgs false

theorem knob : ownKnob Tryz.prog.godebug = none := by kernel_rfl
theorem laid : laidOutB Tryz.prog = true := by kernel_rfl
section
variable {H : Type} {enc : TypeId × Value → H} {W : World}
end
/-- a call that changes nothing that stood, and comes to true, in the words of contracts -/
theorem doesT {f : FuncId} (h : ∀ w, CallsIn Fence.wide 0 Tryz.prog f #[] w (fun e w' => e = .returned (.bool true) ∧ Kept [] w w')) (H : Heaplet) : Does Tryz.prog f #[] [] H (fun u K' H' => u = .bool true ∧ K' = []) := fun w ha hk =>
  CallsIn.mono (h w) (fun e w' q => by
    obtain ⟨rfl, hK⟩ := q
    refine ⟨_, [], H, rfl, ⟨rfl, rfl⟩, ⟨fun b o v e => ?_, ⟨(fun p hp => by cases hp), List.nodup_nil, (fun p hp => by cases hp)⟩, hK, (fun p hp => by cases hp), Hle.refl _, fun _ _ _ => rfl, Mem.soft0⟩⟩
    have h1 := ha b o v e
    have hb : b < w.heap.size := by
      rcases Nat.lt_or_ge b w.heap.size with c | c
      · exact c
      · simp only [World.cell?] at h1
        rw [Array.getElem?_eq_none c] at h1; cases h1
    rw [World.cell?_of_block (hK.block b hb (by simp))]; exact h1)
namespace takeNames
abbrev laid2 : List (String × DataW Unit) := [("unicode/utf8.acceptRanges", Rows.laid_unicode_utf8_acceptRanges), ("unicode/utf8.first", Rows.laid_unicode_utf8_first)]
/-- a heap in which the two tables lie meets the condition -/
theorem door_met (os : Os) (args : Array Value) : laidMetH Tryz.prog laid2 ((World.laidAll Tryz.prog os laid2).forCall (fun _ _ => 0) ⟨#[], args, []⟩).memory := by
  rw [MakeChecks.laidMetH_plain _ _ _ (by kernel_rfl)]; exact laidMet_laidAll _ (by kernel_rfl) (by kernel_rfl)
theorem door_shaped (os : Os) : (World.laidAll Tryz.prog os laid2).Shaped Tryz.prog := World.shaped_of_ZipB (by kernel_rfl) (by kernel_rfl)
set_option maxRecDepth 100000 in
theorem lifted (os : Os) (started : os.Started) (H : Type) (enc : TypeId × Value → H) :
    ReturnsInHanded {} Tryz.checked os 9 .any (fun w args => (Rows.takeNamesSpec.pre enc Tryz.prog Tryz.f9 [] false w args ∧ laidMetH Tryz.prog laid2 w) ∧ sizedMet enc Tryz.prog Tryz.f9 (OpenSpec.ofChange Rows.takeNamesSpec) false w args)
      (Rows.takeNamesSpec.post enc Tryz.prog Tryz.f9 false true false false) := by
  refine returnsInHanded_of_change_and (C := Tryz.checked) (X := fun w _ => laidMetH Tryz.prog laid2 w) (fun _ _ _ hh h => h.of_heap hh) knob started (by kernel_rfl) Tryz.func9
    (ChangeSpec.witness_shaped (enc := enc) (C := Tryz.checked) (os := os) (X := fun w _ => laidMetH Tryz.prog laid2 w) false (World.laidAll Tryz.prog os laid2) #[] 8 (World.laidAll_os _ _ _) (door_shaped os) (by kernel_rfl) (by kernel_rfl) (by kernel_rfl) (door_met os _)) ?_
  intro W base args ds gs before hval0 hW _ _ hL _
  have hval : ∀ (j : Nat) t v, Tryz.f9.params[j]? = some t → args[j]? = some v → Value.okWide Tryz.prog W .any base t v := hval0
  have hW' := hW
  obtain ⟨p, q, hA0, hV, rfl, hfz, hnd⟩ := hW
  have hA : DataW.TrodAll enc Tryz.prog W 0 (fun _ => true) true Tryz.f9.params.toList args.toList ds p := hA0
  rw [Tryz.params9] at hA hval
  obtain ⟨hargs, rfl, rfl⟩ := trodAll_nil hA
  obtain rfl : args = #[] := by cases args; simp_all
  obtain ⟨rfl, rfl⟩ := trodVars_none hV
  exact lift_true (tb := 4) laid (by kernel_rfl) (by kernel_rfl) Tryz.underlying4 rfl hW' rfl (doesT names30_run (HW W)) (fun u K H' h => h.1)

theorem over : Rows.takeNamesRow.holds Tryz.pinned (OpenSpec.ofChange Rows.takeNamesSpec) :=
  OpenClaim.holds_of_wide 9 Tryz.f9 rfl rfl rfl rfl rfl rfl rfl ⟨rfl, rfl, rfl, rfl, rfl⟩ rfl rfl rfl rfl rfl namedJ Tryz.func9 closedJ instJ wrapJ
    (fun os started H enc _ => lifted os started H enc)
end takeNames
theorem takeNames_holds : Rows.TakeNamesSaid := takeNames.over
end Go.Proofs.YtpggcoheldampaaGreatDoor
