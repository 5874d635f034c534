/-
  NARROWER THAN 'FOR EVERY INPUT', by the rows' own cells (each row's printed sentence says how): ScrubNames: laid · ScrubAll: laid · ScrubFinds: laid.
  DERIVED. THE GIVEN ROWS OF THIS SEAT. 3 by the template 'for every input the law returns true; each argument reads behind the call as it read before'; 0 by the template 'total and deterministic' (their statements: YtgdchaoklfjcpaaGreatDoorTotals.lean).
  GIVEN WITH THE SEED: the statements are not yours to turn. If you find one false, say at which input.
  Laid BY PROGRAM, IN A SANDBOX (cutbox-rows.mjs): the forced cells as the released guide's own fill.sh prints them over the translation f89d14e0aabe305e… (all of the seat's roots in one cut). By AI agents, Wed Nov 11 2026. No macro, syntax, notation, axiom, sorry.
-/
import Derived.Test.YtgdchaoklfjcpaaGreatDoorChecked
import GoSem.PinnedTables
import GoSem.Claim
import GoSem.ClaimJoined
import GoSem.ClaimMapViews
import Derived.JoinedTies
import Derived.KernelRfl
namespace Go.Proofs.YtgdchaoklfjcpaaGreatDoor
/- THE CELL 'sum', in the pinned program and in every row, IS THE sha256 OF THE DUMP (.gsa) THAT YtgdchaoklfjcpaaGreatDoorProg.lean LOADS. Nothing in Lean hashes anything: it is a label: what it is worth is what the hold of that sum in a sandbox is worth. -/
noncomputable def Tryz.pinned : Pinned := { name := "ytgdchaoklfjcpaagreatdoor", sum := "f89d14e0aabe305e7c65c4e5a25a7cdf99033d76aa14d3e168d96f03eb91ddca", checked := Tryz.checked }
namespace Rows
def none {H : Type} : Left H := { results := [], args := [] }

/- WHAT THE LISTED PACKAGE-LEVEL VARIABLES READ AS WHEN THE CALL BEGINS. Each datum BY PROGRAM (the guide's laid-datum.mjs) off the statement by which the dump's own 'gosem.cut.vars' lays the variable. In a bare row this is a premise. The card (YtgdchaoklfjcpaaGreatDoorCards.lean) ties it to the program's text. -/
def laid_unicode_utf8_acceptRanges {H : Type} : DataW H := .agg [.agg [.lit (.int .u8 128), .lit (.int .u8 191)], .agg [.lit (.int .u8 160), .lit (.int .u8 191)], .agg [.lit (.int .u8 128), .lit (.int .u8 159)], .agg [.lit (.int .u8 144), .lit (.int .u8 191)], .agg [.lit (.int .u8 128), .lit (.int .u8 143)], .agg [.lit (.int .u8 0), .lit (.int .u8 0)], .agg [.lit (.int .u8 0), .lit (.int .u8 0)], .agg [.lit (.int .u8 0), .lit (.int .u8 0)], .agg [.lit (.int .u8 0), .lit (.int .u8 0)], .agg [.lit (.int .u8 0), .lit (.int .u8 0)], .agg [.lit (.int .u8 0), .lit (.int .u8 0)], .agg [.lit (.int .u8 0), .lit (.int .u8 0)], .agg [.lit (.int .u8 0), .lit (.int .u8 0)], .agg [.lit (.int .u8 0), .lit (.int .u8 0)], .agg [.lit (.int .u8 0), .lit (.int .u8 0)], .agg [.lit (.int .u8 0), .lit (.int .u8 0)]]
/-- One of Go's own tables, pinned by name: the form's constant. -/
def laid_unicode_utf8_first : DataW Unit := Go.Pinned.utf8First

/-- 'charterhouselaw28.ScrubNames': WHATEVER THE INPUT: true; the input reads as it did. -/
def scrubNamesSpec : ChangeSpec := { name := "scrubNames", fn := fun _ => fun
  | [] => { results := [.lit (.bool true)], args := [] }
  | _ => none }
def scrubNamesRow : OpenClaim := { program := "ytgdchaoklfjcpaagreatdoor", sum := "f89d14e0aabe305e7c65c4e5a25a7cdf99033d76aa14d3e168d96f03eb91ddca", func := "charterhouse/charterhouselaw28.ScrubNames", spec := "scrubNames", inPlace := ["internal/bytealg.MakeNoZero", "internal/bytealg.Count", "internal/bytealg.IndexByte", "internal/bytealg.Index", "slices.overlaps[charterhouse/api.Change]"], unfollowed := true, recurses := true, named := ["internal/bytealg.MaxLen", "unicode/utf8.first", "unicode/utf8.acceptRanges"], apart := false, laid := [("unicode/utf8.acceptRanges", laid_unicode_utf8_acceptRanges), ("unicode/utf8.first", laid_unicode_utf8_first)] }
def ScrubNamesSaid : Prop := scrubNamesRow.holds Tryz.pinned (OpenSpec.ofChange scrubNamesSpec)

/-- ITS FALSE NEIGHBOUR: 'it returns false'. Refute it at one input. -/
def scrubNamesWrong : ChangeSpec := { name := "scrubNames", fn := fun _ => fun
  | [] => { results := [.lit (.bool false)], args := [] }
  | _ => none }
def ScrubNamesWrongFalsely : Prop := scrubNamesRow.holds Tryz.pinned (OpenSpec.ofChange scrubNamesWrong)

/-- 'charterhouselaw28.ScrubAll': WHATEVER THE INPUT: true; the input reads as it did. -/
def scrubAllSpec : ChangeSpec := { name := "scrubAll", fn := fun _ => fun
  | [d1, d2, d3, d4] => { results := [.lit (.bool true)], args := [d1, d2, d3, d4] }
  | _ => none }
def scrubAllRow : OpenClaim := { program := "ytgdchaoklfjcpaagreatdoor", sum := "f89d14e0aabe305e7c65c4e5a25a7cdf99033d76aa14d3e168d96f03eb91ddca", func := "charterhouse/charterhouselaw28.ScrubAll", spec := "scrubAll", inPlace := ["internal/bytealg.MakeNoZero", "internal/bytealg.Count", "internal/bytealg.IndexByte", "internal/bytealg.Index", "slices.overlaps[charterhouse/api.Change]"], unfollowed := true, recurses := true, named := ["internal/bytealg.MaxLen", "unicode/utf8.first", "unicode/utf8.acceptRanges"], apart := false, laid := [("unicode/utf8.acceptRanges", laid_unicode_utf8_acceptRanges), ("unicode/utf8.first", laid_unicode_utf8_first)] }
def ScrubAllSaid : Prop := scrubAllRow.holds Tryz.pinned (OpenSpec.ofChange scrubAllSpec)

/-- ITS FALSE NEIGHBOUR: 'it returns false'. Refute it at one input. -/
def scrubAllWrong : ChangeSpec := { name := "scrubAll", fn := fun _ => fun
  | [d1, d2, d3, d4] => { results := [.lit (.bool false)], args := [d1, d2, d3, d4] }
  | _ => none }
def ScrubAllWrongFalsely : Prop := scrubAllRow.holds Tryz.pinned (OpenSpec.ofChange scrubAllWrong)

/-- 'charterhouselaw28.ScrubFinds': WHATEVER THE INPUT: true; the input reads as it did. -/
def scrubFindsSpec : ChangeSpec := { name := "scrubFinds", fn := fun _ => fun
  | [d1, d2, d3, d4, d5, d6, d7] => { results := [.lit (.bool true)], args := [d1, d2, d3, d4, d5, d6, d7] }
  | _ => none }
def scrubFindsRow : OpenClaim := { program := "ytgdchaoklfjcpaagreatdoor", sum := "f89d14e0aabe305e7c65c4e5a25a7cdf99033d76aa14d3e168d96f03eb91ddca", func := "charterhouse/charterhouselaw28.ScrubFinds", spec := "scrubFinds", inPlace := ["internal/bytealg.MakeNoZero", "internal/bytealg.Count", "internal/bytealg.IndexByte", "internal/bytealg.Index", "slices.overlaps[charterhouse/api.Change]"], unfollowed := true, recurses := true, named := ["internal/bytealg.MaxLen", "unicode/utf8.first", "unicode/utf8.acceptRanges"], apart := false, laid := [("unicode/utf8.acceptRanges", laid_unicode_utf8_acceptRanges), ("unicode/utf8.first", laid_unicode_utf8_first)] }
def ScrubFindsSaid : Prop := scrubFindsRow.holds Tryz.pinned (OpenSpec.ofChange scrubFindsSpec)

/-- ITS FALSE NEIGHBOUR: 'it returns false'. Refute it at one input. -/
def scrubFindsWrong : ChangeSpec := { name := "scrubFinds", fn := fun _ => fun
  | [d1, d2, d3, d4, d5, d6, d7] => { results := [.lit (.bool false)], args := [d1, d2, d3, d4, d5, d6, d7] }
  | _ => none }
def ScrubFindsWrongFalsely : Prop := scrubFindsRow.holds Tryz.pinned (OpenSpec.ofChange scrubFindsWrong)

/- THE SECOND FORM. 'bulk': how many values and letters a reading holds, each counted each time it is reached (what is shared counts as often as it is met; a slice's spare places count too). A statement '..UptoSaid' is the law's where the arguments, and the package variables that the reading takes, are together of bulk at most 1048576: NARROWER than '..Said'. Prove '..Said' where nothing that the law and all that it calls make is longer than what came in: it says more and counts as full. Else prove '..UptoSaid'. A law counts once. -/
mutual
def uptoBulk {H : Type} : DataW H → Nat
  | .lit (.string bytes) => bytes.length + 1
  | .lit _ => 1
  | .nil => 1
  | .ptr d => uptoBulk d + 1
  | .slice elems spare => uptoBulkAll elems + uptoBulkAll spare + 1
  | .agg parts => uptoBulkAll parts + 1
  | .iface _ d => uptoBulk d + 1
  | .map entries => uptoBulkEntries entries + 1
  | .held _ => 1
def uptoBulkAll {H : Type} : List (DataW H) → Nat
  | [] => 0
  | d :: r => uptoBulk d + uptoBulkAll r
def uptoBulkEntries {H : Type} : List (Lit × DataW H) → Nat
  | [] => 0
  | x :: r => uptoBulkEntry x + uptoBulkEntries r
def uptoBulkEntry {H : Type} : Lit × DataW H → Nat
  | (.string bytes, d) => bytes.length + uptoBulk d + 1
  | (_, d) => uptoBulk d + 1
 end
def uptoSmall : (H : Type) → List (DataW H) → Bool := fun _ ds => decide (uptoBulkAll ds ≤ 1048576)
def OpenSpec.upto (s : _root_.Go.ChangeSpec) : _root_.Go.OpenSpec := { _root_.Go.OpenSpec.ofChange s with cond := some uptoSmall }

/-- 'charterhouselaw28.ScrubNames', WHERE WHAT IT READS IS OF BULK AT MOST 1048576: true; the input reads as it did. -/
def scrubNamesUptoRow : OpenClaim := { program := "ytgdchaoklfjcpaagreatdoor", sum := "f89d14e0aabe305e7c65c4e5a25a7cdf99033d76aa14d3e168d96f03eb91ddca", func := "charterhouse/charterhouselaw28.ScrubNames", spec := "scrubNames", inPlace := ["internal/bytealg.MakeNoZero", "internal/bytealg.Count", "internal/bytealg.IndexByte", "internal/bytealg.Index", "slices.overlaps[charterhouse/api.Change]"], unfollowed := true, recurses := true, named := ["internal/bytealg.MaxLen", "unicode/utf8.first", "unicode/utf8.acceptRanges"], apart := false, laid := [("unicode/utf8.acceptRanges", laid_unicode_utf8_acceptRanges), ("unicode/utf8.first", laid_unicode_utf8_first)], narrowed := true }
def ScrubNamesUptoSaid : Prop := scrubNamesUptoRow.holds Tryz.pinned (OpenSpec.upto scrubNamesSpec)

/-- 'charterhouselaw28.ScrubAll', WHERE WHAT IT READS IS OF BULK AT MOST 1048576: true; the input reads as it did. -/
def scrubAllUptoRow : OpenClaim := { program := "ytgdchaoklfjcpaagreatdoor", sum := "f89d14e0aabe305e7c65c4e5a25a7cdf99033d76aa14d3e168d96f03eb91ddca", func := "charterhouse/charterhouselaw28.ScrubAll", spec := "scrubAll", inPlace := ["internal/bytealg.MakeNoZero", "internal/bytealg.Count", "internal/bytealg.IndexByte", "internal/bytealg.Index", "slices.overlaps[charterhouse/api.Change]"], unfollowed := true, recurses := true, named := ["internal/bytealg.MaxLen", "unicode/utf8.first", "unicode/utf8.acceptRanges"], apart := false, laid := [("unicode/utf8.acceptRanges", laid_unicode_utf8_acceptRanges), ("unicode/utf8.first", laid_unicode_utf8_first)], narrowed := true }
def ScrubAllUptoSaid : Prop := scrubAllUptoRow.holds Tryz.pinned (OpenSpec.upto scrubAllSpec)

/-- 'charterhouselaw28.ScrubFinds', WHERE WHAT IT READS IS OF BULK AT MOST 1048576: true; the input reads as it did. -/
def scrubFindsUptoRow : OpenClaim := { program := "ytgdchaoklfjcpaagreatdoor", sum := "f89d14e0aabe305e7c65c4e5a25a7cdf99033d76aa14d3e168d96f03eb91ddca", func := "charterhouse/charterhouselaw28.ScrubFinds", spec := "scrubFinds", inPlace := ["internal/bytealg.MakeNoZero", "internal/bytealg.Count", "internal/bytealg.IndexByte", "internal/bytealg.Index", "slices.overlaps[charterhouse/api.Change]"], unfollowed := true, recurses := true, named := ["internal/bytealg.MaxLen", "unicode/utf8.first", "unicode/utf8.acceptRanges"], apart := false, laid := [("unicode/utf8.acceptRanges", laid_unicode_utf8_acceptRanges), ("unicode/utf8.first", laid_unicode_utf8_first)], narrowed := true }
def ScrubFindsUptoSaid : Prop := scrubFindsUptoRow.holds Tryz.pinned (OpenSpec.upto scrubFindsSpec)

end Rows
end Go.Proofs.YtgdchaoklfjcpaaGreatDoor
