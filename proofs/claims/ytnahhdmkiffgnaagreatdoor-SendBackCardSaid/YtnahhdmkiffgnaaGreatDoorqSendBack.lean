import Derived.Test.YtnahhdmkiffgnaaGreatDoornSendBack
import Derived.Test.YtnahhdmkiffgnaaGreatDoorKSendBack
import Derived.Test.YtnahhdmkiffgnaaGreatDoorTie
import Derived.KernelRfl
import Derived.Test.YtnahhdmkiffgnaaGreatDoorCards
/-
  What is proved here: the tied card of SendBack: the statement is true of every input. No condition.
-/
namespace Go.Proofs.YtnahhdmkiffgnaaGreatDoor
open Go
theorem w26:Tryz.pinned.checked.prog.wantsStandIn 26=false:=by kernel_rfl
theorem w23:Tryz.pinned.checked.prog.wantsStandIn 23=false:=by kernel_rfl
theorem sendBackCard_holds:Rows.SendBackCardSaid:=
  Claim7.holds_tied_plain_at .later [] [.data, .pinned] true (true, "10b67b422e409de54a2029828b342e7a0670c362c2f90a61021b52f05a5e126f") false
    sendBack_holds (λ_ h=>by cases h) kW (λ_ h=>by cases h) sendBack_row_tie rfl ⟨rfl,rfl⟩ kM rfl
    (λf fn hf hfn=>by
      obtain rfl:f=3:=Option.some.inj (namedJ.symm.trans hf) |>.symm
      obtain rfl:fn=Tryz.f3:=(Option.some.inj (Tryz.func3.symm.trans hfn)).symm
      exact⟨kL,λj t ht=>by
        rw[Tryz.params3]at ht
        match j,ht with
        |0,ht=>obtain rfl:26=t:=by simpa using ht
                   exact w26
        |1,ht=>obtain rfl:23=t:=by simpa using ht
                   exact w23
        |j+2,ht=>simp at ht⟩)
    kG
end Go.Proofs.YtnahhdmkiffgnaaGreatDoor
