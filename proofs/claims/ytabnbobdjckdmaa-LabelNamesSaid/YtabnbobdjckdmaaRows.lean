/-
  No cell of these rows narrows 'for every input' (looked for: loops, veiled, ifaces, maps, wideKeys, modest, calm, conditions, laid).
  DERIVED. THE GIVEN ROWS OF THIS SEAT. 5 by the template 'for every input the law returns true; each argument reads behind the call as it read before'; 0 by the template 'total and deterministic' (their statements: YtabnbobdjckdmaaTotals.lean).
  GIVEN WITH THE SEED: the statements are not yours to turn. If you find one false, say at which input.
  Laid BY PROGRAM, IN A SANDBOX (cutbox-rows.mjs): the forced cells as the released guide's own fill.sh prints them over the translation 9ffdff5d2806738e… (all of the seat's roots in one cut). By AI agents, Wed Nov 11 2026. No macro, syntax, notation, axiom, sorry.
-/
import Derived.Test.YtabnbobdjckdmaaChecked
import GoSem.Claim
import GoSem.ClaimJoined
import GoSem.ClaimMapViews
import Derived.JoinedTies
import Derived.KernelRfl
namespace Go.Proofs.Ytabnbobdjckdmaa
/- THE CELL 'sum', in the pinned program and in every row, IS THE sha256 OF THE DUMP (.gsa) THAT YtabnbobdjckdmaaProg.lean LOADS. Nothing in Lean hashes anything: it is a label: what it is worth is what the hold of that sum in a sandbox is worth. -/
noncomputable def Try.pinned : Pinned := { name := "ytabnbobdjckdmaa", sum := "9ffdff5d2806738ebaee830c10f7ba4e237334be10720e76d882a63056721847", checked := Try.checked }
namespace Rows
def none {H : Type} : Left H := { results := [], args := [] }

/-- 'charterhouselaw11.LabelRing': WHATEVER THE INPUT: true; the input reads as it did. -/
def labelRingSpec : ChangeSpec := { name := "labelRing", fn := fun _ => fun
  | [d1, d2] => { results := [.lit (.bool true)], args := [d1, d2] }
  | _ => none }
def labelRingRow : OpenClaim := { program := "ytabnbobdjckdmaa", sum := "9ffdff5d2806738ebaee830c10f7ba4e237334be10720e76d882a63056721847", func := "charterhouse/charterhouselaw11.LabelRing", spec := "labelRing", unfollowed := true, recurses := true, apart := false }
def LabelRingSaid : Prop := labelRingRow.holds Try.pinned (OpenSpec.ofChange labelRingSpec)

/-- ITS FALSE NEIGHBOUR: 'it returns false'. Refute it at one input. -/
def labelRingWrong : ChangeSpec := { name := "labelRing", fn := fun _ => fun
  | [d1, d2] => { results := [.lit (.bool false)], args := [d1, d2] }
  | _ => none }
def LabelRingWrongFalsely : Prop := labelRingRow.holds Try.pinned (OpenSpec.ofChange labelRingWrong)

/-- 'charterhouselaw11.LabelNames': WHATEVER THE INPUT: true; the input reads as it did. -/
def labelNamesSpec : ChangeSpec := { name := "labelNames", fn := fun _ => fun
  | [] => { results := [.lit (.bool true)], args := [] }
  | _ => none }
def labelNamesRow : OpenClaim := { program := "ytabnbobdjckdmaa", sum := "9ffdff5d2806738ebaee830c10f7ba4e237334be10720e76d882a63056721847", func := "charterhouse/charterhouselaw11.LabelNames", spec := "labelNames", unfollowed := true, recurses := true, apart := false }
def LabelNamesSaid : Prop := labelNamesRow.holds Try.pinned (OpenSpec.ofChange labelNamesSpec)

/-- ITS FALSE NEIGHBOUR: 'it returns false'. Refute it at one input. -/
def labelNamesWrong : ChangeSpec := { name := "labelNames", fn := fun _ => fun
  | [] => { results := [.lit (.bool false)], args := [] }
  | _ => none }
def LabelNamesWrongFalsely : Prop := labelNamesRow.holds Try.pinned (OpenSpec.ofChange labelNamesWrong)

/-- 'charterhouselaw11.LabelStands': WHATEVER THE INPUT: true; the input reads as it did. -/
def labelStandsSpec : ChangeSpec := { name := "labelStands", fn := fun _ => fun
  | [d1, d2] => { results := [.lit (.bool true)], args := [d1, d2] }
  | _ => none }
def labelStandsRow : OpenClaim := { program := "ytabnbobdjckdmaa", sum := "9ffdff5d2806738ebaee830c10f7ba4e237334be10720e76d882a63056721847", func := "charterhouse/charterhouselaw11.LabelStands", spec := "labelStands", unfollowed := true, recurses := true, apart := false }
def LabelStandsSaid : Prop := labelStandsRow.holds Try.pinned (OpenSpec.ofChange labelStandsSpec)

/-- ITS FALSE NEIGHBOUR: 'it returns false'. Refute it at one input. -/
def labelStandsWrong : ChangeSpec := { name := "labelStands", fn := fun _ => fun
  | [d1, d2] => { results := [.lit (.bool false)], args := [d1, d2] }
  | _ => none }
def LabelStandsWrongFalsely : Prop := labelStandsRow.holds Try.pinned (OpenSpec.ofChange labelStandsWrong)

/-- 'charterhouselaw11.LabelApart': WHATEVER THE INPUT: true; the input reads as it did. -/
def labelApartSpec : ChangeSpec := { name := "labelApart", fn := fun _ => fun
  | [d1, d2, d3, d4, d5] => { results := [.lit (.bool true)], args := [d1, d2, d3, d4, d5] }
  | _ => none }
def labelApartRow : OpenClaim := { program := "ytabnbobdjckdmaa", sum := "9ffdff5d2806738ebaee830c10f7ba4e237334be10720e76d882a63056721847", func := "charterhouse/charterhouselaw11.LabelApart", spec := "labelApart", unfollowed := true, recurses := true, apart := false }
def LabelApartSaid : Prop := labelApartRow.holds Try.pinned (OpenSpec.ofChange labelApartSpec)

/-- ITS FALSE NEIGHBOUR: 'it returns false'. Refute it at one input. -/
def labelApartWrong : ChangeSpec := { name := "labelApart", fn := fun _ => fun
  | [d1, d2, d3, d4, d5] => { results := [.lit (.bool false)], args := [d1, d2, d3, d4, d5] }
  | _ => none }
def LabelApartWrongFalsely : Prop := labelApartRow.holds Try.pinned (OpenSpec.ofChange labelApartWrong)

/-- 'charterhouselaw11.LabelLost': WHATEVER THE INPUT: true; the input reads as it did. -/
def labelLostSpec : ChangeSpec := { name := "labelLost", fn := fun _ => fun
  | [d1, d2, d3] => { results := [.lit (.bool true)], args := [d1, d2, d3] }
  | _ => none }
def labelLostRow : OpenClaim := { program := "ytabnbobdjckdmaa", sum := "9ffdff5d2806738ebaee830c10f7ba4e237334be10720e76d882a63056721847", func := "charterhouse/charterhouselaw11.LabelLost", spec := "labelLost", unfollowed := true, recurses := true, apart := false }
def LabelLostSaid : Prop := labelLostRow.holds Try.pinned (OpenSpec.ofChange labelLostSpec)

/-- ITS FALSE NEIGHBOUR: 'it returns false'. Refute it at one input. -/
def labelLostWrong : ChangeSpec := { name := "labelLost", fn := fun _ => fun
  | [d1, d2, d3] => { results := [.lit (.bool false)], args := [d1, d2, d3] }
  | _ => none }
def LabelLostWrongFalsely : Prop := labelLostRow.holds Try.pinned (OpenSpec.ofChange labelLostWrong)

/- THE SECOND FORM. 'bulk': how many values and letters a reading holds, each counted each time it is reached (what is shared counts as often as it is met; a slice's spare places count too). A statement '..UptoSaid' is the law's where the arguments, and the package variables that the reading takes, are together of bulk at most 1048576: NARROWER than '..Said'. Prove '..Said' where nothing that the law and all that it calls make is longer than what came in: it says more and counts as full. Else prove '..UptoSaid'. A law counts once. -/
mutual
def uptoBulk {H : Type} : DataW H → Nat
  | .lit (.string bytes) => bytes.length + 1
  | .lit _ => 1
  | .nil => 1
  | .ptr d => uptoBulk d + 1
  | .slice elems spare => uptoBulkAll elems + uptoBulkAll spare + 1
  | .agg parts => uptoBulkAll parts + 1
  | .iface _ d => uptoBulk d + 1
  | .map entries => uptoBulkEntries entries + 1
  | .held _ => 1
def uptoBulkAll {H : Type} : List (DataW H) → Nat
  | [] => 0
  | d :: r => uptoBulk d + uptoBulkAll r
def uptoBulkEntries {H : Type} : List (Lit × DataW H) → Nat
  | [] => 0
  | x :: r => uptoBulkEntry x + uptoBulkEntries r
def uptoBulkEntry {H : Type} : Lit × DataW H → Nat
  | (.string bytes, d) => bytes.length + uptoBulk d + 1
  | (_, d) => uptoBulk d + 1
 end
def uptoSmall : (H : Type) → List (DataW H) → Bool := fun _ ds => decide (uptoBulkAll ds ≤ 1048576)
def OpenSpec.upto (s : _root_.Go.ChangeSpec) : _root_.Go.OpenSpec := { _root_.Go.OpenSpec.ofChange s with cond := some uptoSmall }

/-- 'charterhouselaw11.LabelRing', WHERE WHAT IT READS IS OF BULK AT MOST 1048576: true; the input reads as it did. -/
def labelRingUptoRow : OpenClaim := { program := "ytabnbobdjckdmaa", sum := "9ffdff5d2806738ebaee830c10f7ba4e237334be10720e76d882a63056721847", func := "charterhouse/charterhouselaw11.LabelRing", spec := "labelRing", unfollowed := true, recurses := true, apart := false, narrowed := true }
def LabelRingUptoSaid : Prop := labelRingUptoRow.holds Try.pinned (OpenSpec.upto labelRingSpec)

/-- 'charterhouselaw11.LabelNames', WHERE WHAT IT READS IS OF BULK AT MOST 1048576: true; the input reads as it did. -/
def labelNamesUptoRow : OpenClaim := { program := "ytabnbobdjckdmaa", sum := "9ffdff5d2806738ebaee830c10f7ba4e237334be10720e76d882a63056721847", func := "charterhouse/charterhouselaw11.LabelNames", spec := "labelNames", unfollowed := true, recurses := true, apart := false, narrowed := true }
def LabelNamesUptoSaid : Prop := labelNamesUptoRow.holds Try.pinned (OpenSpec.upto labelNamesSpec)

/-- 'charterhouselaw11.LabelStands', WHERE WHAT IT READS IS OF BULK AT MOST 1048576: true; the input reads as it did. -/
def labelStandsUptoRow : OpenClaim := { program := "ytabnbobdjckdmaa", sum := "9ffdff5d2806738ebaee830c10f7ba4e237334be10720e76d882a63056721847", func := "charterhouse/charterhouselaw11.LabelStands", spec := "labelStands", unfollowed := true, recurses := true, apart := false, narrowed := true }
def LabelStandsUptoSaid : Prop := labelStandsUptoRow.holds Try.pinned (OpenSpec.upto labelStandsSpec)

/-- 'charterhouselaw11.LabelApart', WHERE WHAT IT READS IS OF BULK AT MOST 1048576: true; the input reads as it did. -/
def labelApartUptoRow : OpenClaim := { program := "ytabnbobdjckdmaa", sum := "9ffdff5d2806738ebaee830c10f7ba4e237334be10720e76d882a63056721847", func := "charterhouse/charterhouselaw11.LabelApart", spec := "labelApart", unfollowed := true, recurses := true, apart := false, narrowed := true }
def LabelApartUptoSaid : Prop := labelApartUptoRow.holds Try.pinned (OpenSpec.upto labelApartSpec)

/-- 'charterhouselaw11.LabelLost', WHERE WHAT IT READS IS OF BULK AT MOST 1048576: true; the input reads as it did. -/
def labelLostUptoRow : OpenClaim := { program := "ytabnbobdjckdmaa", sum := "9ffdff5d2806738ebaee830c10f7ba4e237334be10720e76d882a63056721847", func := "charterhouse/charterhouselaw11.LabelLost", spec := "labelLost", unfollowed := true, recurses := true, apart := false, narrowed := true }
def LabelLostUptoSaid : Prop := labelLostUptoRow.holds Try.pinned (OpenSpec.upto labelLostSpec)

end Rows
end Go.Proofs.Ytabnbobdjckdmaa
