import Derived.Test.YtnahhdmkiffgnaaGreatDoornSendBack
import Derived.Test.YtnahhdmkiffgnaaGreatDoorKSendBack
import Derived.Test.YtnahhdmkiffgnaaGreatDoorTie
import Derived.KernelRfl
import Derived.Test.YtnahhdmkiffgnaaGreatDoorCards
/-
  What is proved here: the tied card of SendBack: the statement is true of every input. No condition.
-/
namespace Go.Proofs.YtnahhdmkiffgnaaGreatDoor
open Go
theorem w26 : Tryz.pinned.checked.prog.wantsStandIn 26 = false := by kernel_rfl
theorem w23 : Tryz.pinned.checked.prog.wantsStandIn 23 = false := by kernel_rfl
theorem wJ {j : Nat} {t : TypeId} (ht : (#[26, 23] : Array TypeId)[j]? = some t) : Tryz.pinned.checked.prog.wantsStandIn t = false := by
  obtain ⟨h1, h2⟩ := Array.getElem?_eq_some_iff.1 ht
  have h3 : j = 0 ∨ j = 1 := by simp at h1; omega
  rcases h3 with rfl | rfl
  · exact (show t = 26 from h2.symm) ▸ w26
  · exact (show t = 23 from h2.symm) ▸ w23
theorem sendBackCard_holds : Rows.SendBackCardSaid :=
  Claim7.holds_tied_plain_at .later [] [.data, .pinned] true (true, "10b67b422e409de54a2029828b342e7a0670c362c2f90a61021b52f05a5e126f") false
    sendBack_holds (fun _ h => by cases h) kW (fun _ h => by cases h) sendBack_row_tie rfl ⟨rfl, rfl⟩ kM rfl
    (fun f fn hf hfn => by
      obtain rfl : f = 3 := Option.some.inj (namedJ.symm.trans hf) |>.symm
      obtain rfl : fn = Tryz.f3 := (Option.some.inj (Tryz.func3.symm.trans hfn)).symm
      exact ⟨kL, fun j t ht => wJ (Tryz.params3 ▸ ht)⟩)
    kG
end Go.Proofs.YtnahhdmkiffgnaaGreatDoor
