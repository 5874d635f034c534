import Derived.Test.YtooeopogefefiaaGreatDoornSnapRefuses
import Derived.Test.YtooeopogefefiaaGreatDoorKSnapRefuses
import Derived.Test.YtooeopogefefiaaGreatDoorTie
import Derived.KernelRfl
import Derived.Test.YtooeopogefefiaaGreatDoorCards
/-
  What is proved here: the tied card of SnapRefuses: the statement is true of every input. No condition.
-/
namespace Go.Proofs.YtooeopogefefiaaGreatDoor
open Go
theorem w36:Tryz.pinned.checked.prog.wantsStandIn 36=false:=by kernel_rfl
theorem w3:Tryz.pinned.checked.prog.wantsStandIn 3=false:=by kernel_rfl
theorem wJ{j:Nat}{t:TypeId}(ht:(#[36,3]:Array TypeId)[j]? =some t):Tryz.pinned.checked.prog.wantsStandIn t=false:=by
  obtain⟨h1,h2⟩:=Th.1 ht;have h3:j=0\/j=1:=by simp at h1;omega
  rcases h3 with rfl|rfl
  . exact(show t=36 from h2.symm)▸w36
  . exact(show t=3 from h2.symm)▸w3
theorem snapRefusesCard_holds:Rows.SnapRefusesCardSaid:=
  Claim7.holds_tied_plain_at .later [] [.data, .pinned] true (true, "4aff0288b791b317c6b5a8e40bb2c921b77f0e9b2200fbdeb263fa8c092f6c82") false
    snapRefuses_holds (λ_ h=>by cases h) kW (λ_ h=>by cases h) snapRefuses_row_tie rfl ⟨rfl,rfl⟩ kM rfl
    (λf fn hf hfn=>by
      obtain rfl:f=3:=TJ (namedJ.symm.trans hf) |>.symm;obtain rfl:fn=Tryz.f3:=(TJ (Tryz.func3.symm.trans hfn)).symm;exact⟨kL,λj t ht=>wJ (Tryz.params3▸ht)⟩)
    kG
end Go.Proofs.YtooeopogefefiaaGreatDoor
