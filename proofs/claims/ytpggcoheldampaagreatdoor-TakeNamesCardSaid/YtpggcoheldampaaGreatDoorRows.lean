/-
  NARROWER THAN 'FOR EVERY INPUT', by the rows' own cells (each row's printed sentence says how): SnapNames: laid · DataNames: laid · CloneNames: laid · ScrubNames: laid · RollNames: laid · SendNames: laid · TakeNames: laid.
  DERIVED. THE GIVEN ROWS OF THIS SEAT. 7 by the template 'for every input the law returns true; each argument reads behind the call as it read before'; 0 by the template 'total and deterministic' (their statements: YtpggcoheldampaaGreatDoorTotals.lean).
  GIVEN WITH THE SEED: the statements are not yours to turn. If you find one false, say at which input.
  Laid BY PROGRAM, IN A SANDBOX (cutbox-rows.mjs): the forced cells as the released guide's own fill.sh prints them over the translation 5f5f14294dc74a18… (all of the seat's roots in one cut). By AI agents, Wed Nov 11 2026. No macro, syntax, notation, axiom, sorry.
-/
import Derived.Test.YtpggcoheldampaaGreatDoorChecked
import GoSem.PinnedTables
import GoSem.Claim
import GoSem.ClaimJoined
import GoSem.ClaimMapViews
import Derived.JoinedTies
import Derived.KernelRfl
namespace Go.Proofs.YtpggcoheldampaaGreatDoor
/- THE CELL 'sum', in the pinned program and in every row, IS THE sha256 OF THE DUMP (.gsa) THAT YtpggcoheldampaaGreatDoorProg.lean LOADS. Nothing in Lean hashes anything: it is a label: what it is worth is what the hold of that sum in a sandbox is worth. -/
noncomputable def Tryz.pinned : Pinned := { name := "ytpggcoheldampaagreatdoor", sum := "5f5f14294dc74a18e4f7fb539fcc8496168d55b12572fc5a7a5b9559a09b4ad5", checked := Tryz.checked }
namespace Rows
def none {H : Type} : Left H := { results := [], args := [] }

/- WHAT THE LISTED PACKAGE-LEVEL VARIABLES READ AS WHEN THE CALL BEGINS. Each datum BY PROGRAM (the guide's laid-datum.mjs) off the statement by which the dump's own 'gosem.cut.vars' lays the variable. In a bare row this is a premise. The card (YtpggcoheldampaaGreatDoorCards.lean) ties it to the program's text. -/
def laid_unicode_utf8_acceptRanges {H : Type} : DataW H := .agg [.agg [.lit (.int .u8 128), .lit (.int .u8 191)], .agg [.lit (.int .u8 160), .lit (.int .u8 191)], .agg [.lit (.int .u8 128), .lit (.int .u8 159)], .agg [.lit (.int .u8 144), .lit (.int .u8 191)], .agg [.lit (.int .u8 128), .lit (.int .u8 143)], .agg [.lit (.int .u8 0), .lit (.int .u8 0)], .agg [.lit (.int .u8 0), .lit (.int .u8 0)], .agg [.lit (.int .u8 0), .lit (.int .u8 0)], .agg [.lit (.int .u8 0), .lit (.int .u8 0)], .agg [.lit (.int .u8 0), .lit (.int .u8 0)], .agg [.lit (.int .u8 0), .lit (.int .u8 0)], .agg [.lit (.int .u8 0), .lit (.int .u8 0)], .agg [.lit (.int .u8 0), .lit (.int .u8 0)], .agg [.lit (.int .u8 0), .lit (.int .u8 0)], .agg [.lit (.int .u8 0), .lit (.int .u8 0)], .agg [.lit (.int .u8 0), .lit (.int .u8 0)]]
/-- One of Go's own tables, pinned by name: the form's constant. -/
def laid_unicode_utf8_first : DataW Unit := Go.Pinned.utf8First

/-- 'charterhouselaw21.SnapNames': WHATEVER THE INPUT: true; the input reads as it did. -/
def snapNamesSpec : ChangeSpec := { name := "snapNames", fn := fun _ => fun
  | [] => { results := [.lit (.bool true)], args := [] }
  | _ => none }
def snapNamesRow : OpenClaim := { program := "ytpggcoheldampaagreatdoor", sum := "5f5f14294dc74a18e4f7fb539fcc8496168d55b12572fc5a7a5b9559a09b4ad5", func := "charterhouse/charterhouselaw21.SnapNames", spec := "snapNames", inPlace := ["internal/bytealg.MakeNoZero", "internal/bytealg.Count", "internal/bytealg.IndexByte", "internal/bytealg.Index", "slices.overlaps[charterhouse/api.Change]"], unfollowed := true, recurses := true, named := ["internal/bytealg.MaxLen", "unicode/utf8.first", "unicode/utf8.acceptRanges"], apart := false, laid := [("unicode/utf8.acceptRanges", laid_unicode_utf8_acceptRanges), ("unicode/utf8.first", laid_unicode_utf8_first)] }
def SnapNamesSaid : Prop := snapNamesRow.holds Tryz.pinned (OpenSpec.ofChange snapNamesSpec)

/-- ITS FALSE NEIGHBOUR: 'it returns false'. Refute it at one input. -/
def snapNamesWrong : ChangeSpec := { name := "snapNames", fn := fun _ => fun
  | [] => { results := [.lit (.bool false)], args := [] }
  | _ => none }
def SnapNamesWrongFalsely : Prop := snapNamesRow.holds Tryz.pinned (OpenSpec.ofChange snapNamesWrong)

/-- 'charterhouselaw20.DataNames': WHATEVER THE INPUT: true; the input reads as it did. -/
def dataNamesSpec : ChangeSpec := { name := "dataNames", fn := fun _ => fun
  | [] => { results := [.lit (.bool true)], args := [] }
  | _ => none }
def dataNamesRow : OpenClaim := { program := "ytpggcoheldampaagreatdoor", sum := "5f5f14294dc74a18e4f7fb539fcc8496168d55b12572fc5a7a5b9559a09b4ad5", func := "charterhouse/charterhouselaw20.DataNames", spec := "dataNames", inPlace := ["internal/bytealg.MakeNoZero", "internal/bytealg.Count", "internal/bytealg.IndexByte", "internal/bytealg.Index", "slices.overlaps[charterhouse/api.Change]"], unfollowed := true, recurses := true, named := ["internal/bytealg.MaxLen", "unicode/utf8.first", "unicode/utf8.acceptRanges"], apart := false, laid := [("unicode/utf8.acceptRanges", laid_unicode_utf8_acceptRanges), ("unicode/utf8.first", laid_unicode_utf8_first)] }
def DataNamesSaid : Prop := dataNamesRow.holds Tryz.pinned (OpenSpec.ofChange dataNamesSpec)

/-- ITS FALSE NEIGHBOUR: 'it returns false'. Refute it at one input. -/
def dataNamesWrong : ChangeSpec := { name := "dataNames", fn := fun _ => fun
  | [] => { results := [.lit (.bool false)], args := [] }
  | _ => none }
def DataNamesWrongFalsely : Prop := dataNamesRow.holds Tryz.pinned (OpenSpec.ofChange dataNamesWrong)

/-- 'charterhouselaw22.CloneNames': WHATEVER THE INPUT: true; the input reads as it did. -/
def cloneNamesSpec : ChangeSpec := { name := "cloneNames", fn := fun _ => fun
  | [] => { results := [.lit (.bool true)], args := [] }
  | _ => none }
def cloneNamesRow : OpenClaim := { program := "ytpggcoheldampaagreatdoor", sum := "5f5f14294dc74a18e4f7fb539fcc8496168d55b12572fc5a7a5b9559a09b4ad5", func := "charterhouse/charterhouselaw22.CloneNames", spec := "cloneNames", inPlace := ["internal/bytealg.MakeNoZero", "internal/bytealg.Count", "internal/bytealg.IndexByte", "internal/bytealg.Index", "slices.overlaps[charterhouse/api.Change]"], unfollowed := true, recurses := true, named := ["internal/bytealg.MaxLen", "unicode/utf8.first", "unicode/utf8.acceptRanges"], apart := false, laid := [("unicode/utf8.acceptRanges", laid_unicode_utf8_acceptRanges), ("unicode/utf8.first", laid_unicode_utf8_first)] }
def CloneNamesSaid : Prop := cloneNamesRow.holds Tryz.pinned (OpenSpec.ofChange cloneNamesSpec)

/-- ITS FALSE NEIGHBOUR: 'it returns false'. Refute it at one input. -/
def cloneNamesWrong : ChangeSpec := { name := "cloneNames", fn := fun _ => fun
  | [] => { results := [.lit (.bool false)], args := [] }
  | _ => none }
def CloneNamesWrongFalsely : Prop := cloneNamesRow.holds Tryz.pinned (OpenSpec.ofChange cloneNamesWrong)

/-- 'charterhouselaw28.ScrubNames': WHATEVER THE INPUT: true; the input reads as it did. -/
def scrubNamesSpec : ChangeSpec := { name := "scrubNames", fn := fun _ => fun
  | [] => { results := [.lit (.bool true)], args := [] }
  | _ => none }
def scrubNamesRow : OpenClaim := { program := "ytpggcoheldampaagreatdoor", sum := "5f5f14294dc74a18e4f7fb539fcc8496168d55b12572fc5a7a5b9559a09b4ad5", func := "charterhouse/charterhouselaw28.ScrubNames", spec := "scrubNames", inPlace := ["internal/bytealg.MakeNoZero", "internal/bytealg.Count", "internal/bytealg.IndexByte", "internal/bytealg.Index", "slices.overlaps[charterhouse/api.Change]"], unfollowed := true, recurses := true, named := ["internal/bytealg.MaxLen", "unicode/utf8.first", "unicode/utf8.acceptRanges"], apart := false, laid := [("unicode/utf8.acceptRanges", laid_unicode_utf8_acceptRanges), ("unicode/utf8.first", laid_unicode_utf8_first)] }
def ScrubNamesSaid : Prop := scrubNamesRow.holds Tryz.pinned (OpenSpec.ofChange scrubNamesSpec)

/-- ITS FALSE NEIGHBOUR: 'it returns false'. Refute it at one input. -/
def scrubNamesWrong : ChangeSpec := { name := "scrubNames", fn := fun _ => fun
  | [] => { results := [.lit (.bool false)], args := [] }
  | _ => none }
def ScrubNamesWrongFalsely : Prop := scrubNamesRow.holds Tryz.pinned (OpenSpec.ofChange scrubNamesWrong)

/-- 'charterhouselaw23.RollNames': WHATEVER THE INPUT: true; the input reads as it did. -/
def rollNamesSpec : ChangeSpec := { name := "rollNames", fn := fun _ => fun
  | [] => { results := [.lit (.bool true)], args := [] }
  | _ => none }
def rollNamesRow : OpenClaim := { program := "ytpggcoheldampaagreatdoor", sum := "5f5f14294dc74a18e4f7fb539fcc8496168d55b12572fc5a7a5b9559a09b4ad5", func := "charterhouse/charterhouselaw23.RollNames", spec := "rollNames", inPlace := ["internal/bytealg.MakeNoZero", "internal/bytealg.Count", "internal/bytealg.IndexByte", "internal/bytealg.Index", "slices.overlaps[charterhouse/api.Change]"], unfollowed := true, recurses := true, named := ["internal/bytealg.MaxLen", "unicode/utf8.first", "unicode/utf8.acceptRanges"], apart := false, laid := [("unicode/utf8.acceptRanges", laid_unicode_utf8_acceptRanges), ("unicode/utf8.first", laid_unicode_utf8_first)] }
def RollNamesSaid : Prop := rollNamesRow.holds Tryz.pinned (OpenSpec.ofChange rollNamesSpec)

/-- ITS FALSE NEIGHBOUR: 'it returns false'. Refute it at one input. -/
def rollNamesWrong : ChangeSpec := { name := "rollNames", fn := fun _ => fun
  | [] => { results := [.lit (.bool false)], args := [] }
  | _ => none }
def RollNamesWrongFalsely : Prop := rollNamesRow.holds Tryz.pinned (OpenSpec.ofChange rollNamesWrong)

/-- 'charterhouselaw29.SendNames': WHATEVER THE INPUT: true; the input reads as it did. -/
def sendNamesSpec : ChangeSpec := { name := "sendNames", fn := fun _ => fun
  | [] => { results := [.lit (.bool true)], args := [] }
  | _ => none }
def sendNamesRow : OpenClaim := { program := "ytpggcoheldampaagreatdoor", sum := "5f5f14294dc74a18e4f7fb539fcc8496168d55b12572fc5a7a5b9559a09b4ad5", func := "charterhouse/charterhouselaw29.SendNames", spec := "sendNames", inPlace := ["internal/bytealg.MakeNoZero", "internal/bytealg.Count", "internal/bytealg.IndexByte", "internal/bytealg.Index", "slices.overlaps[charterhouse/api.Change]"], unfollowed := true, recurses := true, named := ["internal/bytealg.MaxLen", "unicode/utf8.first", "unicode/utf8.acceptRanges"], apart := false, laid := [("unicode/utf8.acceptRanges", laid_unicode_utf8_acceptRanges), ("unicode/utf8.first", laid_unicode_utf8_first)] }
def SendNamesSaid : Prop := sendNamesRow.holds Tryz.pinned (OpenSpec.ofChange sendNamesSpec)

/-- ITS FALSE NEIGHBOUR: 'it returns false'. Refute it at one input. -/
def sendNamesWrong : ChangeSpec := { name := "sendNames", fn := fun _ => fun
  | [] => { results := [.lit (.bool false)], args := [] }
  | _ => none }
def SendNamesWrongFalsely : Prop := sendNamesRow.holds Tryz.pinned (OpenSpec.ofChange sendNamesWrong)

/-- 'charterhouselaw30.TakeNames': WHATEVER THE INPUT: true; the input reads as it did. -/
def takeNamesSpec : ChangeSpec := { name := "takeNames", fn := fun _ => fun
  | [] => { results := [.lit (.bool true)], args := [] }
  | _ => none }
def takeNamesRow : OpenClaim := { program := "ytpggcoheldampaagreatdoor", sum := "5f5f14294dc74a18e4f7fb539fcc8496168d55b12572fc5a7a5b9559a09b4ad5", func := "charterhouse/charterhouselaw30.TakeNames", spec := "takeNames", inPlace := ["internal/bytealg.MakeNoZero", "internal/bytealg.Count", "internal/bytealg.IndexByte", "internal/bytealg.Index", "slices.overlaps[charterhouse/api.Change]"], unfollowed := true, recurses := true, named := ["internal/bytealg.MaxLen", "unicode/utf8.first", "unicode/utf8.acceptRanges"], apart := false, laid := [("unicode/utf8.acceptRanges", laid_unicode_utf8_acceptRanges), ("unicode/utf8.first", laid_unicode_utf8_first)] }
def TakeNamesSaid : Prop := takeNamesRow.holds Tryz.pinned (OpenSpec.ofChange takeNamesSpec)

/-- ITS FALSE NEIGHBOUR: 'it returns false'. Refute it at one input. -/
def takeNamesWrong : ChangeSpec := { name := "takeNames", fn := fun _ => fun
  | [] => { results := [.lit (.bool false)], args := [] }
  | _ => none }
def TakeNamesWrongFalsely : Prop := takeNamesRow.holds Tryz.pinned (OpenSpec.ofChange takeNamesWrong)

/- THE SECOND FORM. 'bulk': how many values and letters a reading holds, each counted each time it is reached (what is shared counts as often as it is met; a slice's spare places count too). A statement '..UptoSaid' is the law's where the arguments, and the package variables that the reading takes, are together of bulk at most 1048576: NARROWER than '..Said'. Prove '..Said' where nothing that the law and all that it calls make is longer than what came in: it says more and counts as full. Else prove '..UptoSaid'. A law counts once. -/
mutual
def uptoBulk {H : Type} : DataW H → Nat
  | .lit (.string bytes) => bytes.length + 1
  | .lit _ => 1
  | .nil => 1
  | .ptr d => uptoBulk d + 1
  | .slice elems spare => uptoBulkAll elems + uptoBulkAll spare + 1
  | .agg parts => uptoBulkAll parts + 1
  | .iface _ d => uptoBulk d + 1
  | .map entries => uptoBulkEntries entries + 1
  | .held _ => 1
def uptoBulkAll {H : Type} : List (DataW H) → Nat
  | [] => 0
  | d :: r => uptoBulk d + uptoBulkAll r
def uptoBulkEntries {H : Type} : List (Lit × DataW H) → Nat
  | [] => 0
  | x :: r => uptoBulkEntry x + uptoBulkEntries r
def uptoBulkEntry {H : Type} : Lit × DataW H → Nat
  | (.string bytes, d) => bytes.length + uptoBulk d + 1
  | (_, d) => uptoBulk d + 1
 end
def uptoSmall : (H : Type) → List (DataW H) → Bool := fun _ ds => decide (uptoBulkAll ds ≤ 1048576)
def OpenSpec.upto (s : _root_.Go.ChangeSpec) : _root_.Go.OpenSpec := { _root_.Go.OpenSpec.ofChange s with cond := some uptoSmall }

/-- 'charterhouselaw21.SnapNames', WHERE WHAT IT READS IS OF BULK AT MOST 1048576: true; the input reads as it did. -/
def snapNamesUptoRow : OpenClaim := { program := "ytpggcoheldampaagreatdoor", sum := "5f5f14294dc74a18e4f7fb539fcc8496168d55b12572fc5a7a5b9559a09b4ad5", func := "charterhouse/charterhouselaw21.SnapNames", spec := "snapNames", inPlace := ["internal/bytealg.MakeNoZero", "internal/bytealg.Count", "internal/bytealg.IndexByte", "internal/bytealg.Index", "slices.overlaps[charterhouse/api.Change]"], unfollowed := true, recurses := true, named := ["internal/bytealg.MaxLen", "unicode/utf8.first", "unicode/utf8.acceptRanges"], apart := false, laid := [("unicode/utf8.acceptRanges", laid_unicode_utf8_acceptRanges), ("unicode/utf8.first", laid_unicode_utf8_first)], narrowed := true }
def SnapNamesUptoSaid : Prop := snapNamesUptoRow.holds Tryz.pinned (OpenSpec.upto snapNamesSpec)

/-- 'charterhouselaw20.DataNames', WHERE WHAT IT READS IS OF BULK AT MOST 1048576: true; the input reads as it did. -/
def dataNamesUptoRow : OpenClaim := { program := "ytpggcoheldampaagreatdoor", sum := "5f5f14294dc74a18e4f7fb539fcc8496168d55b12572fc5a7a5b9559a09b4ad5", func := "charterhouse/charterhouselaw20.DataNames", spec := "dataNames", inPlace := ["internal/bytealg.MakeNoZero", "internal/bytealg.Count", "internal/bytealg.IndexByte", "internal/bytealg.Index", "slices.overlaps[charterhouse/api.Change]"], unfollowed := true, recurses := true, named := ["internal/bytealg.MaxLen", "unicode/utf8.first", "unicode/utf8.acceptRanges"], apart := false, laid := [("unicode/utf8.acceptRanges", laid_unicode_utf8_acceptRanges), ("unicode/utf8.first", laid_unicode_utf8_first)], narrowed := true }
def DataNamesUptoSaid : Prop := dataNamesUptoRow.holds Tryz.pinned (OpenSpec.upto dataNamesSpec)

/-- 'charterhouselaw22.CloneNames', WHERE WHAT IT READS IS OF BULK AT MOST 1048576: true; the input reads as it did. -/
def cloneNamesUptoRow : OpenClaim := { program := "ytpggcoheldampaagreatdoor", sum := "5f5f14294dc74a18e4f7fb539fcc8496168d55b12572fc5a7a5b9559a09b4ad5", func := "charterhouse/charterhouselaw22.CloneNames", spec := "cloneNames", inPlace := ["internal/bytealg.MakeNoZero", "internal/bytealg.Count", "internal/bytealg.IndexByte", "internal/bytealg.Index", "slices.overlaps[charterhouse/api.Change]"], unfollowed := true, recurses := true, named := ["internal/bytealg.MaxLen", "unicode/utf8.first", "unicode/utf8.acceptRanges"], apart := false, laid := [("unicode/utf8.acceptRanges", laid_unicode_utf8_acceptRanges), ("unicode/utf8.first", laid_unicode_utf8_first)], narrowed := true }
def CloneNamesUptoSaid : Prop := cloneNamesUptoRow.holds Tryz.pinned (OpenSpec.upto cloneNamesSpec)

/-- 'charterhouselaw28.ScrubNames', WHERE WHAT IT READS IS OF BULK AT MOST 1048576: true; the input reads as it did. -/
def scrubNamesUptoRow : OpenClaim := { program := "ytpggcoheldampaagreatdoor", sum := "5f5f14294dc74a18e4f7fb539fcc8496168d55b12572fc5a7a5b9559a09b4ad5", func := "charterhouse/charterhouselaw28.ScrubNames", spec := "scrubNames", inPlace := ["internal/bytealg.MakeNoZero", "internal/bytealg.Count", "internal/bytealg.IndexByte", "internal/bytealg.Index", "slices.overlaps[charterhouse/api.Change]"], unfollowed := true, recurses := true, named := ["internal/bytealg.MaxLen", "unicode/utf8.first", "unicode/utf8.acceptRanges"], apart := false, laid := [("unicode/utf8.acceptRanges", laid_unicode_utf8_acceptRanges), ("unicode/utf8.first", laid_unicode_utf8_first)], narrowed := true }
def ScrubNamesUptoSaid : Prop := scrubNamesUptoRow.holds Tryz.pinned (OpenSpec.upto scrubNamesSpec)

/-- 'charterhouselaw23.RollNames', WHERE WHAT IT READS IS OF BULK AT MOST 1048576: true; the input reads as it did. -/
def rollNamesUptoRow : OpenClaim := { program := "ytpggcoheldampaagreatdoor", sum := "5f5f14294dc74a18e4f7fb539fcc8496168d55b12572fc5a7a5b9559a09b4ad5", func := "charterhouse/charterhouselaw23.RollNames", spec := "rollNames", inPlace := ["internal/bytealg.MakeNoZero", "internal/bytealg.Count", "internal/bytealg.IndexByte", "internal/bytealg.Index", "slices.overlaps[charterhouse/api.Change]"], unfollowed := true, recurses := true, named := ["internal/bytealg.MaxLen", "unicode/utf8.first", "unicode/utf8.acceptRanges"], apart := false, laid := [("unicode/utf8.acceptRanges", laid_unicode_utf8_acceptRanges), ("unicode/utf8.first", laid_unicode_utf8_first)], narrowed := true }
def RollNamesUptoSaid : Prop := rollNamesUptoRow.holds Tryz.pinned (OpenSpec.upto rollNamesSpec)

/-- 'charterhouselaw29.SendNames', WHERE WHAT IT READS IS OF BULK AT MOST 1048576: true; the input reads as it did. -/
def sendNamesUptoRow : OpenClaim := { program := "ytpggcoheldampaagreatdoor", sum := "5f5f14294dc74a18e4f7fb539fcc8496168d55b12572fc5a7a5b9559a09b4ad5", func := "charterhouse/charterhouselaw29.SendNames", spec := "sendNames", inPlace := ["internal/bytealg.MakeNoZero", "internal/bytealg.Count", "internal/bytealg.IndexByte", "internal/bytealg.Index", "slices.overlaps[charterhouse/api.Change]"], unfollowed := true, recurses := true, named := ["internal/bytealg.MaxLen", "unicode/utf8.first", "unicode/utf8.acceptRanges"], apart := false, laid := [("unicode/utf8.acceptRanges", laid_unicode_utf8_acceptRanges), ("unicode/utf8.first", laid_unicode_utf8_first)], narrowed := true }
def SendNamesUptoSaid : Prop := sendNamesUptoRow.holds Tryz.pinned (OpenSpec.upto sendNamesSpec)

/-- 'charterhouselaw30.TakeNames', WHERE WHAT IT READS IS OF BULK AT MOST 1048576: true; the input reads as it did. -/
def takeNamesUptoRow : OpenClaim := { program := "ytpggcoheldampaagreatdoor", sum := "5f5f14294dc74a18e4f7fb539fcc8496168d55b12572fc5a7a5b9559a09b4ad5", func := "charterhouse/charterhouselaw30.TakeNames", spec := "takeNames", inPlace := ["internal/bytealg.MakeNoZero", "internal/bytealg.Count", "internal/bytealg.IndexByte", "internal/bytealg.Index", "slices.overlaps[charterhouse/api.Change]"], unfollowed := true, recurses := true, named := ["internal/bytealg.MaxLen", "unicode/utf8.first", "unicode/utf8.acceptRanges"], apart := false, laid := [("unicode/utf8.acceptRanges", laid_unicode_utf8_acceptRanges), ("unicode/utf8.first", laid_unicode_utf8_first)], narrowed := true }
def TakeNamesUptoSaid : Prop := takeNamesUptoRow.holds Tryz.pinned (OpenSpec.upto takeNamesSpec)

end Rows
end Go.Proofs.YtpggcoheldampaaGreatDoor
