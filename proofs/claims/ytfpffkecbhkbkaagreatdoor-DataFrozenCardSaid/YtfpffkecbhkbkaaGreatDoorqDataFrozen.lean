import Derived.Test.YtfpffkecbhkbkaaGreatDoornDataFrozen
import Derived.Test.YtfpffkecbhkbkaaGreatDoorKDataFrozen
import Derived.Test.YtfpffkecbhkbkaaGreatDoorTie
import Derived.KernelRfl
import Derived.Test.YtfpffkecbhkbkaaGreatDoorCards
/-
  What is proved here: the tied card of DataFrozen: the statement is true of every input. No condition.
-/
namespace Go.Proofs.YtfpffkecbhkbkaaGreatDoor
open Go
theorem w36:Tryz.pinned.checked.prog.wantsStandIn 36=false:=by kernel_rfl
theorem w3:Tryz.pinned.checked.prog.wantsStandIn 3=false:=by kernel_rfl
theorem w26:Tryz.pinned.checked.prog.wantsStandIn 26=false:=by kernel_rfl
theorem w5:Tryz.pinned.checked.prog.wantsStandIn 5=false:=by kernel_rfl
theorem wJ{j:Nat}{t:TypeId}(ht:(#[36,3,3,3,26,5,3]:Array TypeId)[j]? =some t):Tryz.pinned.checked.prog.wantsStandIn t=false:=by
  obtain⟨h1,h2⟩:=Th.1 ht;have h3:j=0∨j=1∨j=2∨j=3∨j=4∨j=5∨j=6:=by simp at h1;omega
  rcases h3 with rfl|rfl|rfl|rfl|rfl|rfl|rfl
  · exact(show t=36 from h2.symm)▸w36
  · exact(show t=3 from h2.symm)▸w3
  · exact(show t=3 from h2.symm)▸w3
  · exact(show t=3 from h2.symm)▸w3
  · exact(show t=26 from h2.symm)▸w26
  · exact(show t=5 from h2.symm)▸w5
  · exact(show t=3 from h2.symm)▸w3
theorem dataFrozenCard_holds:Rows.DataFrozenCardSaid:=
  Claim7.holds_tied_plain_at .later [] [.data, .pinned] true (true, "af6ca35b5678703c5542c6193a262a950510be07770eef9caf49b610a83f8092") false
    dataFrozen_holds (λ_ h=>by cases h) kW (λ_ h=>by cases h) dataFrozen_row_tie rfl ⟨rfl,rfl⟩ kM rfl
    (λf fn hf hfn=>by
      obtain rfl:f=3:=TK (namedJ.symm.trans hf) |>.symm;obtain rfl:fn=Tryz.f3:=(TK (Tryz.func3.symm.trans hfn)).symm;exact⟨kL,λj t ht=>wJ (Tryz.params3▸ht)⟩)
    kG
end Go.Proofs.YtfpffkecbhkbkaaGreatDoor
