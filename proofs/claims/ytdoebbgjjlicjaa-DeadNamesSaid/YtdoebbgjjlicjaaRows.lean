/-
  No cell of these rows narrows 'for every input' (looked for: loops, veiled, ifaces, maps, wideKeys, modest, calm, conditions, laid).
  DERIVED. THE GIVEN ROWS OF THIS SEAT. 7 by the template 'for every input the law returns true; each argument reads behind the call as it read before'; 0 by the template 'total and deterministic' (their statements: YtdoebbgjjlicjaaTotals.lean).
  GIVEN WITH THE SEED: the statements are not yours to turn. If you find one false, say at which input.
  Laid BY PROGRAM, IN A SANDBOX (cutbox-rows.mjs): the forced cells as the released guide's own fill.sh prints them over the translation 98f9e2766dbd6237… (all of the seat's roots in one cut). By AI agents, Wed Nov 11 2026. No macro, syntax, notation, axiom, sorry.
-/
import Derived.Test.YtdoebbgjjlicjaaChecked
import GoSem.Claim
import GoSem.ClaimJoined
import GoSem.ClaimMapViews
import Derived.JoinedTies
import Derived.KernelRfl
namespace Go.Proofs.Ytdoebbgjjlicjaa
/- THE CELL 'sum', in the pinned program and in every row, IS THE sha256 OF THE DUMP (.gsa) THAT YtdoebbgjjlicjaaProg.lean LOADS. Nothing in Lean hashes anything: it is a label: what it is worth is what the hold of that sum in a sandbox is worth. -/
noncomputable def Try.pinned : Pinned := { name := "ytdoebbgjjlicjaa", sum := "98f9e2766dbd6237543312ac12a19502f0a99df1b2dace8a99a67b3ddea99b59", checked := Try.checked }
namespace Rows
def none {H : Type} : Left H := { results := [], args := [] }

/-- 'charterhouselaw11.LabelRing': WHATEVER THE INPUT: true; the input reads as it did. -/
def labelRingSpec : ChangeSpec := { name := "labelRing", fn := fun _ => fun
  | [d1, d2] => { results := [.lit (.bool true)], args := [d1, d2] }
  | _ => none }
def labelRingRow : OpenClaim := { program := "ytdoebbgjjlicjaa", sum := "98f9e2766dbd6237543312ac12a19502f0a99df1b2dace8a99a67b3ddea99b59", func := "charterhouse/charterhouselaw11.LabelRing", spec := "labelRing", unfollowed := true, recurses := true, apart := false }
def LabelRingSaid : Prop := labelRingRow.holds Try.pinned (OpenSpec.ofChange labelRingSpec)

/-- ITS FALSE NEIGHBOUR: 'it returns false'. Refute it at one input. -/
def labelRingWrong : ChangeSpec := { name := "labelRing", fn := fun _ => fun
  | [d1, d2] => { results := [.lit (.bool false)], args := [d1, d2] }
  | _ => none }
def LabelRingWrongFalsely : Prop := labelRingRow.holds Try.pinned (OpenSpec.ofChange labelRingWrong)

/-- 'charterhouselaw15.SetLater': WHATEVER THE INPUT: true; the input reads as it did. -/
def setLaterSpec : ChangeSpec := { name := "setLater", fn := fun _ => fun
  | [d1, d2, d3, d4] => { results := [.lit (.bool true)], args := [d1, d2, d3, d4] }
  | _ => none }
def setLaterRow : OpenClaim := { program := "ytdoebbgjjlicjaa", sum := "98f9e2766dbd6237543312ac12a19502f0a99df1b2dace8a99a67b3ddea99b59", func := "charterhouse/charterhouselaw15.SetLater", spec := "setLater", inPlace := ["internal/bytealg.MakeNoZero", "internal/bytealg.Count", "internal/bytealg.IndexByte", "internal/bytealg.Index"], unfollowed := true, recurses := true, named := ["internal/bytealg.MaxLen"], apart := false }
def SetLaterSaid : Prop := setLaterRow.holds Try.pinned (OpenSpec.ofChange setLaterSpec)

/-- ITS FALSE NEIGHBOUR: 'it returns false'. Refute it at one input. -/
def setLaterWrong : ChangeSpec := { name := "setLater", fn := fun _ => fun
  | [d1, d2, d3, d4] => { results := [.lit (.bool false)], args := [d1, d2, d3, d4] }
  | _ => none }
def SetLaterWrongFalsely : Prop := setLaterRow.holds Try.pinned (OpenSpec.ofChange setLaterWrong)

/-- 'charterhouselaw15.SetNames': WHATEVER THE INPUT: true; the input reads as it did. -/
def setNamesSpec : ChangeSpec := { name := "setNames", fn := fun _ => fun
  | [] => { results := [.lit (.bool true)], args := [] }
  | _ => none }
def setNamesRow : OpenClaim := { program := "ytdoebbgjjlicjaa", sum := "98f9e2766dbd6237543312ac12a19502f0a99df1b2dace8a99a67b3ddea99b59", func := "charterhouse/charterhouselaw15.SetNames", spec := "setNames", inPlace := ["internal/bytealg.MakeNoZero", "internal/bytealg.Count", "internal/bytealg.IndexByte", "internal/bytealg.Index"], unfollowed := true, recurses := true, named := ["internal/bytealg.MaxLen"], apart := false }
def SetNamesSaid : Prop := setNamesRow.holds Try.pinned (OpenSpec.ofChange setNamesSpec)

/-- ITS FALSE NEIGHBOUR: 'it returns false'. Refute it at one input. -/
def setNamesWrong : ChangeSpec := { name := "setNames", fn := fun _ => fun
  | [] => { results := [.lit (.bool false)], args := [] }
  | _ => none }
def SetNamesWrongFalsely : Prop := setNamesRow.holds Try.pinned (OpenSpec.ofChange setNamesWrong)

/-- 'charterhouselaw15.SetYoung': WHATEVER THE INPUT: true; the input reads as it did. -/
def setYoungSpec : ChangeSpec := { name := "setYoung", fn := fun _ => fun
  | [d1, d2, d3] => { results := [.lit (.bool true)], args := [d1, d2, d3] }
  | _ => none }
def setYoungRow : OpenClaim := { program := "ytdoebbgjjlicjaa", sum := "98f9e2766dbd6237543312ac12a19502f0a99df1b2dace8a99a67b3ddea99b59", func := "charterhouse/charterhouselaw15.SetYoung", spec := "setYoung", inPlace := ["internal/bytealg.MakeNoZero", "internal/bytealg.Count", "internal/bytealg.IndexByte", "internal/bytealg.Index"], unfollowed := true, recurses := true, named := ["internal/bytealg.MaxLen"], apart := false }
def SetYoungSaid : Prop := setYoungRow.holds Try.pinned (OpenSpec.ofChange setYoungSpec)

/-- ITS FALSE NEIGHBOUR: 'it returns false'. Refute it at one input. -/
def setYoungWrong : ChangeSpec := { name := "setYoung", fn := fun _ => fun
  | [d1, d2, d3] => { results := [.lit (.bool false)], args := [d1, d2, d3] }
  | _ => none }
def SetYoungWrongFalsely : Prop := setYoungRow.holds Try.pinned (OpenSpec.ofChange setYoungWrong)

/-- 'charterhouselaw15.SetParts': WHATEVER THE INPUT: true; the input reads as it did. -/
def setPartsSpec : ChangeSpec := { name := "setParts", fn := fun _ => fun
  | [d1, d2] => { results := [.lit (.bool true)], args := [d1, d2] }
  | _ => none }
def setPartsRow : OpenClaim := { program := "ytdoebbgjjlicjaa", sum := "98f9e2766dbd6237543312ac12a19502f0a99df1b2dace8a99a67b3ddea99b59", func := "charterhouse/charterhouselaw15.SetParts", spec := "setParts", inPlace := ["internal/bytealg.MakeNoZero", "internal/bytealg.Count", "internal/bytealg.IndexByte", "internal/bytealg.Index"], unfollowed := true, recurses := true, named := ["internal/bytealg.MaxLen"], apart := false }
def SetPartsSaid : Prop := setPartsRow.holds Try.pinned (OpenSpec.ofChange setPartsSpec)

/-- ITS FALSE NEIGHBOUR: 'it returns false'. Refute it at one input. -/
def setPartsWrong : ChangeSpec := { name := "setParts", fn := fun _ => fun
  | [d1, d2] => { results := [.lit (.bool false)], args := [d1, d2] }
  | _ => none }
def SetPartsWrongFalsely : Prop := setPartsRow.holds Try.pinned (OpenSpec.ofChange setPartsWrong)

/-- 'charterhouselaw15.SetAlone': WHATEVER THE INPUT: true; the input reads as it did. -/
def setAloneSpec : ChangeSpec := { name := "setAlone", fn := fun _ => fun
  | [d1, d2, d3, d4, d5] => { results := [.lit (.bool true)], args := [d1, d2, d3, d4, d5] }
  | _ => none }
def setAloneRow : OpenClaim := { program := "ytdoebbgjjlicjaa", sum := "98f9e2766dbd6237543312ac12a19502f0a99df1b2dace8a99a67b3ddea99b59", func := "charterhouse/charterhouselaw15.SetAlone", spec := "setAlone", inPlace := ["internal/bytealg.MakeNoZero", "internal/bytealg.Count", "internal/bytealg.IndexByte", "internal/bytealg.Index"], unfollowed := true, recurses := true, named := ["internal/bytealg.MaxLen"], apart := false }
def SetAloneSaid : Prop := setAloneRow.holds Try.pinned (OpenSpec.ofChange setAloneSpec)

/-- ITS FALSE NEIGHBOUR: 'it returns false'. Refute it at one input. -/
def setAloneWrong : ChangeSpec := { name := "setAlone", fn := fun _ => fun
  | [d1, d2, d3, d4, d5] => { results := [.lit (.bool false)], args := [d1, d2, d3, d4, d5] }
  | _ => none }
def SetAloneWrongFalsely : Prop := setAloneRow.holds Try.pinned (OpenSpec.ofChange setAloneWrong)

/-- 'charterhouselaw16.DeadNames': WHATEVER THE INPUT: true; the input reads as it did. -/
def deadNamesSpec : ChangeSpec := { name := "deadNames", fn := fun _ => fun
  | [] => { results := [.lit (.bool true)], args := [] }
  | _ => none }
def deadNamesRow : OpenClaim := { program := "ytdoebbgjjlicjaa", sum := "98f9e2766dbd6237543312ac12a19502f0a99df1b2dace8a99a67b3ddea99b59", func := "charterhouse/charterhouselaw16.DeadNames", spec := "deadNames", inPlace := ["internal/bytealg.MakeNoZero", "internal/bytealg.Count", "internal/bytealg.IndexByte", "internal/bytealg.Index"], unfollowed := true, recurses := true, named := ["internal/bytealg.MaxLen"], apart := false }
def DeadNamesSaid : Prop := deadNamesRow.holds Try.pinned (OpenSpec.ofChange deadNamesSpec)

/-- ITS FALSE NEIGHBOUR: 'it returns false'. Refute it at one input. -/
def deadNamesWrong : ChangeSpec := { name := "deadNames", fn := fun _ => fun
  | [] => { results := [.lit (.bool false)], args := [] }
  | _ => none }
def DeadNamesWrongFalsely : Prop := deadNamesRow.holds Try.pinned (OpenSpec.ofChange deadNamesWrong)

/- THE SECOND FORM. 'bulk': how many values and letters a reading holds, each counted each time it is reached (what is shared counts as often as it is met; a slice's spare places count too). A statement '..UptoSaid' is the law's where the arguments, and the package variables that the reading takes, are together of bulk at most 1048576: NARROWER than '..Said'. Prove '..Said' where nothing that the law and all that it calls make is longer than what came in: it says more and counts as full. Else prove '..UptoSaid'. A law counts once. -/
mutual
def uptoBulk {H : Type} : DataW H → Nat
  | .lit (.string bytes) => bytes.length + 1
  | .lit _ => 1
  | .nil => 1
  | .ptr d => uptoBulk d + 1
  | .slice elems spare => uptoBulkAll elems + uptoBulkAll spare + 1
  | .agg parts => uptoBulkAll parts + 1
  | .iface _ d => uptoBulk d + 1
  | .map entries => uptoBulkEntries entries + 1
  | .held _ => 1
def uptoBulkAll {H : Type} : List (DataW H) → Nat
  | [] => 0
  | d :: r => uptoBulk d + uptoBulkAll r
def uptoBulkEntries {H : Type} : List (Lit × DataW H) → Nat
  | [] => 0
  | x :: r => uptoBulkEntry x + uptoBulkEntries r
def uptoBulkEntry {H : Type} : Lit × DataW H → Nat
  | (.string bytes, d) => bytes.length + uptoBulk d + 1
  | (_, d) => uptoBulk d + 1
 end
def uptoSmall : (H : Type) → List (DataW H) → Bool := fun _ ds => decide (uptoBulkAll ds ≤ 1048576)
def OpenSpec.upto (s : _root_.Go.ChangeSpec) : _root_.Go.OpenSpec := { _root_.Go.OpenSpec.ofChange s with cond := some uptoSmall }

/-- 'charterhouselaw11.LabelRing', WHERE WHAT IT READS IS OF BULK AT MOST 1048576: true; the input reads as it did. -/
def labelRingUptoRow : OpenClaim := { program := "ytdoebbgjjlicjaa", sum := "98f9e2766dbd6237543312ac12a19502f0a99df1b2dace8a99a67b3ddea99b59", func := "charterhouse/charterhouselaw11.LabelRing", spec := "labelRing", unfollowed := true, recurses := true, apart := false, narrowed := true }
def LabelRingUptoSaid : Prop := labelRingUptoRow.holds Try.pinned (OpenSpec.upto labelRingSpec)

/-- 'charterhouselaw15.SetLater', WHERE WHAT IT READS IS OF BULK AT MOST 1048576: true; the input reads as it did. -/
def setLaterUptoRow : OpenClaim := { program := "ytdoebbgjjlicjaa", sum := "98f9e2766dbd6237543312ac12a19502f0a99df1b2dace8a99a67b3ddea99b59", func := "charterhouse/charterhouselaw15.SetLater", spec := "setLater", inPlace := ["internal/bytealg.MakeNoZero", "internal/bytealg.Count", "internal/bytealg.IndexByte", "internal/bytealg.Index"], unfollowed := true, recurses := true, named := ["internal/bytealg.MaxLen"], apart := false, narrowed := true }
def SetLaterUptoSaid : Prop := setLaterUptoRow.holds Try.pinned (OpenSpec.upto setLaterSpec)

/-- 'charterhouselaw15.SetNames', WHERE WHAT IT READS IS OF BULK AT MOST 1048576: true; the input reads as it did. -/
def setNamesUptoRow : OpenClaim := { program := "ytdoebbgjjlicjaa", sum := "98f9e2766dbd6237543312ac12a19502f0a99df1b2dace8a99a67b3ddea99b59", func := "charterhouse/charterhouselaw15.SetNames", spec := "setNames", inPlace := ["internal/bytealg.MakeNoZero", "internal/bytealg.Count", "internal/bytealg.IndexByte", "internal/bytealg.Index"], unfollowed := true, recurses := true, named := ["internal/bytealg.MaxLen"], apart := false, narrowed := true }
def SetNamesUptoSaid : Prop := setNamesUptoRow.holds Try.pinned (OpenSpec.upto setNamesSpec)

/-- 'charterhouselaw15.SetYoung', WHERE WHAT IT READS IS OF BULK AT MOST 1048576: true; the input reads as it did. -/
def setYoungUptoRow : OpenClaim := { program := "ytdoebbgjjlicjaa", sum := "98f9e2766dbd6237543312ac12a19502f0a99df1b2dace8a99a67b3ddea99b59", func := "charterhouse/charterhouselaw15.SetYoung", spec := "setYoung", inPlace := ["internal/bytealg.MakeNoZero", "internal/bytealg.Count", "internal/bytealg.IndexByte", "internal/bytealg.Index"], unfollowed := true, recurses := true, named := ["internal/bytealg.MaxLen"], apart := false, narrowed := true }
def SetYoungUptoSaid : Prop := setYoungUptoRow.holds Try.pinned (OpenSpec.upto setYoungSpec)

/-- 'charterhouselaw15.SetParts', WHERE WHAT IT READS IS OF BULK AT MOST 1048576: true; the input reads as it did. -/
def setPartsUptoRow : OpenClaim := { program := "ytdoebbgjjlicjaa", sum := "98f9e2766dbd6237543312ac12a19502f0a99df1b2dace8a99a67b3ddea99b59", func := "charterhouse/charterhouselaw15.SetParts", spec := "setParts", inPlace := ["internal/bytealg.MakeNoZero", "internal/bytealg.Count", "internal/bytealg.IndexByte", "internal/bytealg.Index"], unfollowed := true, recurses := true, named := ["internal/bytealg.MaxLen"], apart := false, narrowed := true }
def SetPartsUptoSaid : Prop := setPartsUptoRow.holds Try.pinned (OpenSpec.upto setPartsSpec)

/-- 'charterhouselaw15.SetAlone', WHERE WHAT IT READS IS OF BULK AT MOST 1048576: true; the input reads as it did. -/
def setAloneUptoRow : OpenClaim := { program := "ytdoebbgjjlicjaa", sum := "98f9e2766dbd6237543312ac12a19502f0a99df1b2dace8a99a67b3ddea99b59", func := "charterhouse/charterhouselaw15.SetAlone", spec := "setAlone", inPlace := ["internal/bytealg.MakeNoZero", "internal/bytealg.Count", "internal/bytealg.IndexByte", "internal/bytealg.Index"], unfollowed := true, recurses := true, named := ["internal/bytealg.MaxLen"], apart := false, narrowed := true }
def SetAloneUptoSaid : Prop := setAloneUptoRow.holds Try.pinned (OpenSpec.upto setAloneSpec)

/-- 'charterhouselaw16.DeadNames', WHERE WHAT IT READS IS OF BULK AT MOST 1048576: true; the input reads as it did. -/
def deadNamesUptoRow : OpenClaim := { program := "ytdoebbgjjlicjaa", sum := "98f9e2766dbd6237543312ac12a19502f0a99df1b2dace8a99a67b3ddea99b59", func := "charterhouse/charterhouselaw16.DeadNames", spec := "deadNames", inPlace := ["internal/bytealg.MakeNoZero", "internal/bytealg.Count", "internal/bytealg.IndexByte", "internal/bytealg.Index"], unfollowed := true, recurses := true, named := ["internal/bytealg.MaxLen"], apart := false, narrowed := true }
def DeadNamesUptoSaid : Prop := deadNamesUptoRow.holds Try.pinned (OpenSpec.upto deadNamesSpec)

end Rows
end Go.Proofs.Ytdoebbgjjlicjaa
