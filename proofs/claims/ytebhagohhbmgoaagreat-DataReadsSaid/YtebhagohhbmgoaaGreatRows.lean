/-
  No cell of these rows narrows 'for every input' (looked for: loops, veiled, ifaces, maps, wideKeys, modest, calm, conditions, laid).
  DERIVED. THE GIVEN ROWS OF THIS SEAT. 4 by the template 'for every input the law returns true; each argument reads behind the call as it read before'; 0 by the template 'total and deterministic' (their statements: YtebhagohhbmgoaaGreatTotals.lean).
  GIVEN WITH THE SEED: the statements are not yours to turn. If you find one false, say at which input.
  Laid BY PROGRAM, IN A SANDBOX (cutbox-rows.mjs): the forced cells as the released guide's own fill.sh prints them over the translation 57dfcb78259ffc1a… (all of the seat's roots in one cut). By AI agents, Wed Nov 11 2026. No macro, syntax, notation, axiom, sorry.
-/
import Derived.Test.YtebhagohhbmgoaaGreatChecked
import GoSem.Claim
import GoSem.ClaimJoined
import GoSem.ClaimMapViews
import Derived.JoinedTies
import Derived.KernelRfl
namespace Go.Proofs.YtebhagohhbmgoaaGreat
/- THE CELL 'sum', in the pinned program and in every row, IS THE sha256 OF THE DUMP (.gsa) THAT YtebhagohhbmgoaaGreatProg.lean LOADS. Nothing in Lean hashes anything: it is a label: what it is worth is what the hold of that sum in a sandbox is worth. -/
noncomputable def Tryz.pinned : Pinned := { name := "ytebhagohhbmgoaagreat", sum := "57dfcb78259ffc1aaa5a5b7f3de2c3df79c5ebe0dc7218656ce015422ecd7519", checked := Tryz.checked }
namespace Rows
def none {H : Type} : Left H := { results := [], args := [] }

/-- 'charterhouselaw13.StoreReads': WHATEVER THE INPUT: true; the input reads as it did. -/
def storeReadsSpec : ChangeSpec := { name := "storeReads", fn := fun _ => fun
  | [d1, d2, d3, d4] => { results := [.lit (.bool true)], args := [d1, d2, d3, d4] }
  | _ => none }
def storeReadsRow : OpenClaim := { program := "ytebhagohhbmgoaagreat", sum := "57dfcb78259ffc1aaa5a5b7f3de2c3df79c5ebe0dc7218656ce015422ecd7519", func := "charterhouse/charterhouselaw13.StoreReads", spec := "storeReads", inPlace := ["internal/bytealg.Count", "internal/bytealg.IndexByte", "internal/bytealg.Index", "internal/bytealg.Compare", "internal/bytealg.MakeNoZero"], unfollowed := true, recurses := true, named := ["internal/bytealg.MaxLen"], apart := false }
def StoreReadsSaid : Prop := storeReadsRow.holds Tryz.pinned (OpenSpec.ofChange storeReadsSpec)

/-- ITS FALSE NEIGHBOUR: 'it returns false'. Refute it at one input. -/
def storeReadsWrong : ChangeSpec := { name := "storeReads", fn := fun _ => fun
  | [d1, d2, d3, d4] => { results := [.lit (.bool false)], args := [d1, d2, d3, d4] }
  | _ => none }
def StoreReadsWrongFalsely : Prop := storeReadsRow.holds Tryz.pinned (OpenSpec.ofChange storeReadsWrong)

/-- 'charterhouselaw20.DataReads': WHATEVER THE INPUT: true; the input reads as it did. -/
def dataReadsSpec : ChangeSpec := { name := "dataReads", fn := fun _ => fun
  | [d1, d2, d3, d4] => { results := [.lit (.bool true)], args := [d1, d2, d3, d4] }
  | _ => none }
def dataReadsRow : OpenClaim := { program := "ytebhagohhbmgoaagreat", sum := "57dfcb78259ffc1aaa5a5b7f3de2c3df79c5ebe0dc7218656ce015422ecd7519", func := "charterhouse/charterhouselaw20.DataReads", spec := "dataReads", inPlace := ["internal/bytealg.Count", "internal/bytealg.IndexByte", "internal/bytealg.Index"], unfollowed := true, recurses := true, named := ["internal/bytealg.MaxLen"], apart := false }
def DataReadsSaid : Prop := dataReadsRow.holds Tryz.pinned (OpenSpec.ofChange dataReadsSpec)

/-- ITS FALSE NEIGHBOUR: 'it returns false'. Refute it at one input. -/
def dataReadsWrong : ChangeSpec := { name := "dataReads", fn := fun _ => fun
  | [d1, d2, d3, d4] => { results := [.lit (.bool false)], args := [d1, d2, d3, d4] }
  | _ => none }
def DataReadsWrongFalsely : Prop := dataReadsRow.holds Tryz.pinned (OpenSpec.ofChange dataReadsWrong)

/-- 'charterhouselaw20.DataWrites': WHATEVER THE INPUT: true; the input reads as it did. -/
def dataWritesSpec : ChangeSpec := { name := "dataWrites", fn := fun _ => fun
  | [d1, d2, d3, d4, d5, d6, d7, d8] => { results := [.lit (.bool true)], args := [d1, d2, d3, d4, d5, d6, d7, d8] }
  | _ => none }
def dataWritesRow : OpenClaim := { program := "ytebhagohhbmgoaagreat", sum := "57dfcb78259ffc1aaa5a5b7f3de2c3df79c5ebe0dc7218656ce015422ecd7519", func := "charterhouse/charterhouselaw20.DataWrites", spec := "dataWrites", inPlace := ["internal/bytealg.Count", "internal/bytealg.IndexByte", "internal/bytealg.Index", "slices.overlaps[charterhouse/api.Change]"], unfollowed := true, recurses := true, named := ["internal/bytealg.MaxLen"], apart := false }
def DataWritesSaid : Prop := dataWritesRow.holds Tryz.pinned (OpenSpec.ofChange dataWritesSpec)

/-- ITS FALSE NEIGHBOUR: 'it returns false'. Refute it at one input. -/
def dataWritesWrong : ChangeSpec := { name := "dataWrites", fn := fun _ => fun
  | [d1, d2, d3, d4, d5, d6, d7, d8] => { results := [.lit (.bool false)], args := [d1, d2, d3, d4, d5, d6, d7, d8] }
  | _ => none }
def DataWritesWrongFalsely : Prop := dataWritesRow.holds Tryz.pinned (OpenSpec.ofChange dataWritesWrong)

/-- 'charterhouselaw28.ScrubReads': WHATEVER THE INPUT: true; the input reads as it did. -/
def scrubReadsSpec : ChangeSpec := { name := "scrubReads", fn := fun _ => fun
  | [d] => { results := [.lit (.bool true)], args := [d] }
  | _ => none }
def scrubReadsRow : OpenClaim := { program := "ytebhagohhbmgoaagreat", sum := "57dfcb78259ffc1aaa5a5b7f3de2c3df79c5ebe0dc7218656ce015422ecd7519", func := "charterhouse/charterhouselaw28.ScrubReads", spec := "scrubReads", inPlace := ["internal/bytealg.Count", "internal/bytealg.IndexByte", "internal/bytealg.Index"], unfollowed := true, recurses := true, named := ["internal/bytealg.MaxLen"], apart := false }
def ScrubReadsSaid : Prop := scrubReadsRow.holds Tryz.pinned (OpenSpec.ofChange scrubReadsSpec)

/-- ITS FALSE NEIGHBOUR: 'it returns false'. Refute it at one input. -/
def scrubReadsWrong : ChangeSpec := { name := "scrubReads", fn := fun _ => fun
  | [d] => { results := [.lit (.bool false)], args := [d] }
  | _ => none }
def ScrubReadsWrongFalsely : Prop := scrubReadsRow.holds Tryz.pinned (OpenSpec.ofChange scrubReadsWrong)

/- THE SECOND FORM. 'bulk': how many values and letters a reading holds, each counted each time it is reached (what is shared counts as often as it is met; a slice's spare places count too). A statement '..UptoSaid' is the law's where the arguments, and the package variables that the reading takes, are together of bulk at most 1048576: NARROWER than '..Said'. Prove '..Said' where nothing that the law and all that it calls make is longer than what came in: it says more and counts as full. Else prove '..UptoSaid'. A law counts once. -/
mutual
def uptoBulk {H : Type} : DataW H → Nat
  | .lit (.string bytes) => bytes.length + 1
  | .lit _ => 1
  | .nil => 1
  | .ptr d => uptoBulk d + 1
  | .slice elems spare => uptoBulkAll elems + uptoBulkAll spare + 1
  | .agg parts => uptoBulkAll parts + 1
  | .iface _ d => uptoBulk d + 1
  | .map entries => uptoBulkEntries entries + 1
  | .held _ => 1
def uptoBulkAll {H : Type} : List (DataW H) → Nat
  | [] => 0
  | d :: r => uptoBulk d + uptoBulkAll r
def uptoBulkEntries {H : Type} : List (Lit × DataW H) → Nat
  | [] => 0
  | x :: r => uptoBulkEntry x + uptoBulkEntries r
def uptoBulkEntry {H : Type} : Lit × DataW H → Nat
  | (.string bytes, d) => bytes.length + uptoBulk d + 1
  | (_, d) => uptoBulk d + 1
 end
def uptoSmall : (H : Type) → List (DataW H) → Bool := fun _ ds => decide (uptoBulkAll ds ≤ 1048576)
def OpenSpec.upto (s : _root_.Go.ChangeSpec) : _root_.Go.OpenSpec := { _root_.Go.OpenSpec.ofChange s with cond := some uptoSmall }

/-- 'charterhouselaw13.StoreReads', WHERE WHAT IT READS IS OF BULK AT MOST 1048576: true; the input reads as it did. -/
def storeReadsUptoRow : OpenClaim := { program := "ytebhagohhbmgoaagreat", sum := "57dfcb78259ffc1aaa5a5b7f3de2c3df79c5ebe0dc7218656ce015422ecd7519", func := "charterhouse/charterhouselaw13.StoreReads", spec := "storeReads", inPlace := ["internal/bytealg.Count", "internal/bytealg.IndexByte", "internal/bytealg.Index", "internal/bytealg.Compare", "internal/bytealg.MakeNoZero"], unfollowed := true, recurses := true, named := ["internal/bytealg.MaxLen"], apart := false, narrowed := true }
def StoreReadsUptoSaid : Prop := storeReadsUptoRow.holds Tryz.pinned (OpenSpec.upto storeReadsSpec)

/-- 'charterhouselaw20.DataReads', WHERE WHAT IT READS IS OF BULK AT MOST 1048576: true; the input reads as it did. -/
def dataReadsUptoRow : OpenClaim := { program := "ytebhagohhbmgoaagreat", sum := "57dfcb78259ffc1aaa5a5b7f3de2c3df79c5ebe0dc7218656ce015422ecd7519", func := "charterhouse/charterhouselaw20.DataReads", spec := "dataReads", inPlace := ["internal/bytealg.Count", "internal/bytealg.IndexByte", "internal/bytealg.Index"], unfollowed := true, recurses := true, named := ["internal/bytealg.MaxLen"], apart := false, narrowed := true }
def DataReadsUptoSaid : Prop := dataReadsUptoRow.holds Tryz.pinned (OpenSpec.upto dataReadsSpec)

/-- 'charterhouselaw20.DataWrites', WHERE WHAT IT READS IS OF BULK AT MOST 1048576: true; the input reads as it did. -/
def dataWritesUptoRow : OpenClaim := { program := "ytebhagohhbmgoaagreat", sum := "57dfcb78259ffc1aaa5a5b7f3de2c3df79c5ebe0dc7218656ce015422ecd7519", func := "charterhouse/charterhouselaw20.DataWrites", spec := "dataWrites", inPlace := ["internal/bytealg.Count", "internal/bytealg.IndexByte", "internal/bytealg.Index", "slices.overlaps[charterhouse/api.Change]"], unfollowed := true, recurses := true, named := ["internal/bytealg.MaxLen"], apart := false, narrowed := true }
def DataWritesUptoSaid : Prop := dataWritesUptoRow.holds Tryz.pinned (OpenSpec.upto dataWritesSpec)

/-- 'charterhouselaw28.ScrubReads', WHERE WHAT IT READS IS OF BULK AT MOST 1048576: true; the input reads as it did. -/
def scrubReadsUptoRow : OpenClaim := { program := "ytebhagohhbmgoaagreat", sum := "57dfcb78259ffc1aaa5a5b7f3de2c3df79c5ebe0dc7218656ce015422ecd7519", func := "charterhouse/charterhouselaw28.ScrubReads", spec := "scrubReads", inPlace := ["internal/bytealg.Count", "internal/bytealg.IndexByte", "internal/bytealg.Index"], unfollowed := true, recurses := true, named := ["internal/bytealg.MaxLen"], apart := false, narrowed := true }
def ScrubReadsUptoSaid : Prop := scrubReadsUptoRow.holds Tryz.pinned (OpenSpec.upto scrubReadsSpec)

end Rows
end Go.Proofs.YtebhagohhbmgoaaGreat
