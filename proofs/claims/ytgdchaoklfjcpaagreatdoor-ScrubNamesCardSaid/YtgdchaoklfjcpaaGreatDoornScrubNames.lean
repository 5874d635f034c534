import Derived.Test.YtgdchaoklfjcpaaGreatDoorRows
import Derived.Test.YtgdchaoklfjcpaaGreatDoorK4
import Derived.Test.YtgdchaoklfjcpaaGreatDoorOwMi
import Derived.Test.YtgdchaoklfjcpaaGreatDoorJScrubNames
import Derived.Test.YtgdchaoklfjcpaaGreatDoorOwMh
import Derived.ProofKit
import Derived.LaidMore
import Derived.OpenShut
import Derived.Stop.Joined
import Derived.SevenTiedAt
import Derived.Lay
import Derived.MakeChecks
import Derived.Test.YtgdchaoklfjcpaaGreatDoorTie
import Derived.Test.YtgdchaoklfjcpaaGreatDoorCards
/- Proved: from the plain law to the given statement: it is true of every input, and leaves it as it was. No condition. -/
set_option linter.unusedSimpArgs false
set_option linter.unusedVariables false
namespace Go.Proofs.YtgdchaoklfjcpaaGreatDoor
open Go.ChangeShapes Go.WideShapes Go.ChangeAt Go.RowKit Go.Ow
theorem knob:ownKnob Tryz.prog.godebug=none:=by kernel_rfl
theorem laid:laidOutB Tryz.prog=true:=by kernel_rfl
section
variable{H:Type}{enc:TypeId×Value->H}{W:World}
end
namespace scrubNames
abbrev ZHA : List (String × DataW Unit) := [("unicode/utf8.acceptRanges", Rows.laid_unicode_utf8_acceptRanges), ("unicode/utf8.first", Rows.laid_unicode_utf8_first)]
theorem ZP7 (os:Os)(args:Array Value):laidMetH Tryz.prog ZHA ((World.laidAll Tryz.prog os ZHA).forCall (λ_ _=>0) ⟨#[],args,[]⟩).memory:=by
  rw[MakeChecks.laidMetH_plain _ _ _<|by kernel_rfl];exact laidMet_laidAll _ (by kernel_rfl)<|by kernel_rfl
theorem ZLr (os:Os):(World.laidAll Tryz.prog os ZHA).Shaped Tryz.prog:=World.shaped_of_ZipB (by kernel_rfl)<|by kernel_rfl
set_option maxRecDepth 100000 in
theorem ZSy (os:Os)(s:os.Started)(H:Type)(enc:TypeId×Value->H):
    ReturnsInHanded {} Tryz.checked os 3 .any (λw args=>(Rows.scrubNamesSpec.pre enc Tryz.prog Tryz.f3 [] false w args/\laidMetH Tryz.prog ZHA w)/\sizedMet enc Tryz.prog Tryz.f3 (OpenSpec.ofChange Rows.scrubNamesSpec) false w args)
      (Rows.scrubNamesSpec.post enc Tryz.prog Tryz.f3 false true false false):=by
  refine returnsInHanded_of_change_and (C:=Tryz.checked) (X:=λw _=>laidMetH Tryz.prog ZHA w) (λ_ _ _ l h=>h.of_heap l) knob s (by kernel_rfl) Tryz.func3
    (ChangeSpec.witness_shaped (enc:=enc) (C:=Tryz.checked) (os:=os) (X:=λw _=>laidMetH Tryz.prog ZHA w) false (World.laidAll Tryz.prog os ZHA) #[] 8 (World.laidAll_os _ _ _) (ZLr os) (by kernel_rfl) (by kernel_rfl) (by kernel_rfl) (ZP7 os _)) ?_
  intro W base args ds x d a i _ _ A _;have c:∀(j:Nat) t v,Tryz.f3.params[j]? =some t->args[j]? =some v->Value.okWide Tryz.prog W .any base t v:=a;have e:=i;obtain⟨p,q,f,m,rfl,n,o⟩:=i;have k:DataW.TrodAll enc Tryz.prog W 0 (λ_=>true) true Tryz.f3.params.toList args.toList ds p:=f;rw[Tryz.params3]at k c;obtain⟨g,rfl,rfl⟩:=trodAll_nil k;obtain rfl:args= #[]:=by cases args;simp_all
  obtain⟨rfl,rfl⟩:=trodVars_none m;have r:=Pv.Kf.use ZCH rfl rfl (I:=Pv.argI<|HW W) (us:=[]) (cs:=[]) (co:=[.b true]) (z:=()) (y:=true) Pv.VRs.nil (by kernel_rfl) ZG7 (by kernel_rfl);exact ZOQ (tb:=4) laid (by kernel_rfl) (by kernel_rfl) Tryz.underlying4 rfl e rfl r λu K B h=>Pv.true_of h
theorem over:Rows.scrubNamesRow.holds Tryz.pinned (OpenSpec.ofChange Rows.scrubNamesSpec):=
  OpenClaim.holds_of_wide 3 Tryz.f3 rfl rfl rfl rfl rfl rfl rfl ⟨rfl,rfl,rfl,rfl,rfl⟩ rfl rfl rfl rfl rfl namedJ Tryz.func3 ZRZ instJ wrapJ
    (λos s H enc _=>ZSy os s H enc)
end scrubNames
theorem scrubNames_holds:Rows.ScrubNamesSaid:=scrubNames.over
end Go.Proofs.YtgdchaoklfjcpaaGreatDoor
