/-
  No cell of these rows narrows 'for every input' (looked for: loops, veiled, ifaces, maps, wideKeys, modest, calm, conditions, laid).
  DERIVED. THE GIVEN ROWS OF THIS SEAT. 8 by the template 'for every input the law returns true; each argument reads behind the call as it read before'; 0 by the template 'total and deterministic' (their statements: YthdgdngdfijfhaaTotals.lean).
  GIVEN WITH THE SEED: the statements are not yours to turn. If you find one false, say at which input.
  Laid BY PROGRAM, IN A SANDBOX (cutbox-rows.mjs): the forced cells as the released guide's own fill.sh prints them over the translation cffc39164ad85133… (all of the seat's roots in one cut). By AI agents, Wed Nov 11 2026. No macro, syntax, notation, axiom, sorry.
-/
import Derived.Test.YthdgdngdfijfhaaChecked
import GoSem.Claim
import GoSem.ClaimJoined
import GoSem.ClaimMapViews
import Derived.JoinedTies
import Derived.KernelRfl
namespace Go.Proofs.Ythdgdngdfijfhaa
/- THE CELL 'sum', in the pinned program and in every row, IS THE sha256 OF THE DUMP (.gsa) THAT YthdgdngdfijfhaaProg.lean LOADS. Nothing in Lean hashes anything: it is a label: what it is worth is what the hold of that sum in a sandbox is worth. -/
noncomputable def Try.pinned : Pinned := { name := "ythdgdngdfijfhaa", sum := "cffc39164ad85133d34237d0b2d060e5e4d9ddfe563d70c6cb5686b8753493b5", checked := Try.checked }
namespace Rows
def none {H : Type} : Left H := { results := [], args := [] }

/-- 'formularylaw23.FilesUnits': WHATEVER THE INPUT: true; the input reads as it did. -/
def filesUnitsSpec : ChangeSpec := { name := "filesUnits", fn := fun _ => fun
  | [d] => { results := [.lit (.bool true)], args := [d] }
  | _ => none }
def filesUnitsRow : OpenClaim := { program := "ythdgdngdfijfhaa", sum := "cffc39164ad85133d34237d0b2d060e5e4d9ddfe563d70c6cb5686b8753493b5", func := "formulary/formularylaw23.FilesUnits", spec := "filesUnits", inPlace := ["internal/abi.NoEscape", "internal/bytealg.MakeNoZero"], unfollowed := true, recurses := true, apart := false }
def FilesUnitsSaid : Prop := filesUnitsRow.holds Try.pinned (OpenSpec.ofChange filesUnitsSpec)

/-- ITS FALSE NEIGHBOUR: 'it returns false'. Refute it at one input. -/
def filesUnitsWrong : ChangeSpec := { name := "filesUnits", fn := fun _ => fun
  | [d] => { results := [.lit (.bool false)], args := [d] }
  | _ => none }
def FilesUnitsWrongFalsely : Prop := filesUnitsRow.holds Try.pinned (OpenSpec.ofChange filesUnitsWrong)

/-- 'formularylaw23.FilesOpens': WHATEVER THE INPUT: true; the input reads as it did. -/
def filesOpensSpec : ChangeSpec := { name := "filesOpens", fn := fun _ => fun
  | [d1, d2, d3] => { results := [.lit (.bool true)], args := [d1, d2, d3] }
  | _ => none }
def filesOpensRow : OpenClaim := { program := "ythdgdngdfijfhaa", sum := "cffc39164ad85133d34237d0b2d060e5e4d9ddfe563d70c6cb5686b8753493b5", func := "formulary/formularylaw23.FilesOpens", spec := "filesOpens", inPlace := ["internal/abi.NoEscape", "internal/bytealg.MakeNoZero"], unfollowed := true, recurses := true, apart := false }
def FilesOpensSaid : Prop := filesOpensRow.holds Try.pinned (OpenSpec.ofChange filesOpensSpec)

/-- ITS FALSE NEIGHBOUR: 'it returns false'. Refute it at one input. -/
def filesOpensWrong : ChangeSpec := { name := "filesOpens", fn := fun _ => fun
  | [d1, d2, d3] => { results := [.lit (.bool false)], args := [d1, d2, d3] }
  | _ => none }
def FilesOpensWrongFalsely : Prop := filesOpensRow.holds Try.pinned (OpenSpec.ofChange filesOpensWrong)

/-- 'formularylaw23.FilesRuns': WHATEVER THE INPUT: true; the input reads as it did. -/
def filesRunsSpec : ChangeSpec := { name := "filesRuns", fn := fun _ => fun
  | [d1, d2] => { results := [.lit (.bool true)], args := [d1, d2] }
  | _ => none }
def filesRunsRow : OpenClaim := { program := "ythdgdngdfijfhaa", sum := "cffc39164ad85133d34237d0b2d060e5e4d9ddfe563d70c6cb5686b8753493b5", func := "formulary/formularylaw23.FilesRuns", spec := "filesRuns", inPlace := ["internal/abi.NoEscape", "internal/bytealg.MakeNoZero"], unfollowed := true, recurses := true, apart := false }
def FilesRunsSaid : Prop := filesRunsRow.holds Try.pinned (OpenSpec.ofChange filesRunsSpec)

/-- ITS FALSE NEIGHBOUR: 'it returns false'. Refute it at one input. -/
def filesRunsWrong : ChangeSpec := { name := "filesRuns", fn := fun _ => fun
  | [d1, d2] => { results := [.lit (.bool false)], args := [d1, d2] }
  | _ => none }
def FilesRunsWrongFalsely : Prop := filesRunsRow.holds Try.pinned (OpenSpec.ofChange filesRunsWrong)

/-- 'formularylaw23.FilesActs': WHATEVER THE INPUT: true; the input reads as it did. -/
def filesActsSpec : ChangeSpec := { name := "filesActs", fn := fun _ => fun
  | [d1, d2] => { results := [.lit (.bool true)], args := [d1, d2] }
  | _ => none }
def filesActsRow : OpenClaim := { program := "ythdgdngdfijfhaa", sum := "cffc39164ad85133d34237d0b2d060e5e4d9ddfe563d70c6cb5686b8753493b5", func := "formulary/formularylaw23.FilesActs", spec := "filesActs", inPlace := ["internal/abi.NoEscape", "internal/bytealg.MakeNoZero"], unfollowed := true, recurses := true, apart := false }
def FilesActsSaid : Prop := filesActsRow.holds Try.pinned (OpenSpec.ofChange filesActsSpec)

/-- ITS FALSE NEIGHBOUR: 'it returns false'. Refute it at one input. -/
def filesActsWrong : ChangeSpec := { name := "filesActs", fn := fun _ => fun
  | [d1, d2] => { results := [.lit (.bool false)], args := [d1, d2] }
  | _ => none }
def FilesActsWrongFalsely : Prop := filesActsRow.holds Try.pinned (OpenSpec.ofChange filesActsWrong)

/-- 'formularylaw23.FilesFails': WHATEVER THE INPUT: true; the input reads as it did. -/
def filesFailsSpec : ChangeSpec := { name := "filesFails", fn := fun _ => fun
  | [d1, d2, d3] => { results := [.lit (.bool true)], args := [d1, d2, d3] }
  | _ => none }
def filesFailsRow : OpenClaim := { program := "ythdgdngdfijfhaa", sum := "cffc39164ad85133d34237d0b2d060e5e4d9ddfe563d70c6cb5686b8753493b5", func := "formulary/formularylaw23.FilesFails", spec := "filesFails", inPlace := ["internal/abi.NoEscape", "internal/bytealg.MakeNoZero"], unfollowed := true, recurses := true, apart := false }
def FilesFailsSaid : Prop := filesFailsRow.holds Try.pinned (OpenSpec.ofChange filesFailsSpec)

/-- ITS FALSE NEIGHBOUR: 'it returns false'. Refute it at one input. -/
def filesFailsWrong : ChangeSpec := { name := "filesFails", fn := fun _ => fun
  | [d1, d2, d3] => { results := [.lit (.bool false)], args := [d1, d2, d3] }
  | _ => none }
def FilesFailsWrongFalsely : Prop := filesFailsRow.holds Try.pinned (OpenSpec.ofChange filesFailsWrong)

/-- 'formularylaw23.FilesEvents': WHATEVER THE INPUT: true; the input reads as it did. -/
def filesEventsSpec : ChangeSpec := { name := "filesEvents", fn := fun _ => fun
  | [d1, d2] => { results := [.lit (.bool true)], args := [d1, d2] }
  | _ => none }
def filesEventsRow : OpenClaim := { program := "ythdgdngdfijfhaa", sum := "cffc39164ad85133d34237d0b2d060e5e4d9ddfe563d70c6cb5686b8753493b5", func := "formulary/formularylaw23.FilesEvents", spec := "filesEvents", inPlace := ["internal/abi.NoEscape", "internal/bytealg.MakeNoZero"], unfollowed := true, recurses := true, apart := false }
def FilesEventsSaid : Prop := filesEventsRow.holds Try.pinned (OpenSpec.ofChange filesEventsSpec)

/-- ITS FALSE NEIGHBOUR: 'it returns false'. Refute it at one input. -/
def filesEventsWrong : ChangeSpec := { name := "filesEvents", fn := fun _ => fun
  | [d1, d2] => { results := [.lit (.bool false)], args := [d1, d2] }
  | _ => none }
def FilesEventsWrongFalsely : Prop := filesEventsRow.holds Try.pinned (OpenSpec.ofChange filesEventsWrong)

/-- 'formularylaw23.FilesWhole': WHATEVER THE INPUT: true; the input reads as it did. -/
def filesWholeSpec : ChangeSpec := { name := "filesWhole", fn := fun _ => fun
  | [d1, d2, d3] => { results := [.lit (.bool true)], args := [d1, d2, d3] }
  | _ => none }
def filesWholeRow : OpenClaim := { program := "ythdgdngdfijfhaa", sum := "cffc39164ad85133d34237d0b2d060e5e4d9ddfe563d70c6cb5686b8753493b5", func := "formulary/formularylaw23.FilesWhole", spec := "filesWhole", inPlace := ["internal/abi.NoEscape", "internal/bytealg.MakeNoZero"], unfollowed := true, recurses := true, apart := false }
def FilesWholeSaid : Prop := filesWholeRow.holds Try.pinned (OpenSpec.ofChange filesWholeSpec)

/-- ITS FALSE NEIGHBOUR: 'it returns false'. Refute it at one input. -/
def filesWholeWrong : ChangeSpec := { name := "filesWhole", fn := fun _ => fun
  | [d1, d2, d3] => { results := [.lit (.bool false)], args := [d1, d2, d3] }
  | _ => none }
def FilesWholeWrongFalsely : Prop := filesWholeRow.holds Try.pinned (OpenSpec.ofChange filesWholeWrong)

/-- 'formularylaw23.FilesOthers': WHATEVER THE INPUT: true; the input reads as it did. -/
def filesOthersSpec : ChangeSpec := { name := "filesOthers", fn := fun _ => fun
  | [d1, d2, d3] => { results := [.lit (.bool true)], args := [d1, d2, d3] }
  | _ => none }
def filesOthersRow : OpenClaim := { program := "ythdgdngdfijfhaa", sum := "cffc39164ad85133d34237d0b2d060e5e4d9ddfe563d70c6cb5686b8753493b5", func := "formulary/formularylaw23.FilesOthers", spec := "filesOthers", inPlace := ["internal/abi.NoEscape", "internal/bytealg.MakeNoZero"], unfollowed := true, recurses := true, apart := false }
def FilesOthersSaid : Prop := filesOthersRow.holds Try.pinned (OpenSpec.ofChange filesOthersSpec)

/-- ITS FALSE NEIGHBOUR: 'it returns false'. Refute it at one input. -/
def filesOthersWrong : ChangeSpec := { name := "filesOthers", fn := fun _ => fun
  | [d1, d2, d3] => { results := [.lit (.bool false)], args := [d1, d2, d3] }
  | _ => none }
def FilesOthersWrongFalsely : Prop := filesOthersRow.holds Try.pinned (OpenSpec.ofChange filesOthersWrong)

/- THE SECOND FORM. 'bulk': how many values and letters a reading holds, each counted each time it is reached (what is shared counts as often as it is met; a slice's spare places count too). A statement '..UptoSaid' is the law's where the arguments, and the package variables that the reading takes, are together of bulk at most 1048576: NARROWER than '..Said'. Prove '..Said' where nothing that the law and all that it calls make is longer than what came in: it says more and counts as full. Else prove '..UptoSaid'. A law counts once. -/
mutual
def uptoBulk {H : Type} : DataW H → Nat
  | .lit (.string bytes) => bytes.length + 1
  | .lit _ => 1
  | .nil => 1
  | .ptr d => uptoBulk d + 1
  | .slice elems spare => uptoBulkAll elems + uptoBulkAll spare + 1
  | .agg parts => uptoBulkAll parts + 1
  | .iface _ d => uptoBulk d + 1
  | .map entries => uptoBulkEntries entries + 1
  | .held _ => 1
def uptoBulkAll {H : Type} : List (DataW H) → Nat
  | [] => 0
  | d :: r => uptoBulk d + uptoBulkAll r
def uptoBulkEntries {H : Type} : List (Lit × DataW H) → Nat
  | [] => 0
  | x :: r => uptoBulkEntry x + uptoBulkEntries r
def uptoBulkEntry {H : Type} : Lit × DataW H → Nat
  | (.string bytes, d) => bytes.length + uptoBulk d + 1
  | (_, d) => uptoBulk d + 1
 end
def uptoSmall : (H : Type) → List (DataW H) → Bool := fun _ ds => decide (uptoBulkAll ds ≤ 1048576)
def OpenSpec.upto (s : _root_.Go.ChangeSpec) : _root_.Go.OpenSpec := { _root_.Go.OpenSpec.ofChange s with cond := some uptoSmall }

/-- 'formularylaw23.FilesUnits', WHERE WHAT IT READS IS OF BULK AT MOST 1048576: true; the input reads as it did. -/
def filesUnitsUptoRow : OpenClaim := { program := "ythdgdngdfijfhaa", sum := "cffc39164ad85133d34237d0b2d060e5e4d9ddfe563d70c6cb5686b8753493b5", func := "formulary/formularylaw23.FilesUnits", spec := "filesUnits", inPlace := ["internal/abi.NoEscape", "internal/bytealg.MakeNoZero"], unfollowed := true, recurses := true, apart := false, narrowed := true }
def FilesUnitsUptoSaid : Prop := filesUnitsUptoRow.holds Try.pinned (OpenSpec.upto filesUnitsSpec)

/-- 'formularylaw23.FilesOpens', WHERE WHAT IT READS IS OF BULK AT MOST 1048576: true; the input reads as it did. -/
def filesOpensUptoRow : OpenClaim := { program := "ythdgdngdfijfhaa", sum := "cffc39164ad85133d34237d0b2d060e5e4d9ddfe563d70c6cb5686b8753493b5", func := "formulary/formularylaw23.FilesOpens", spec := "filesOpens", inPlace := ["internal/abi.NoEscape", "internal/bytealg.MakeNoZero"], unfollowed := true, recurses := true, apart := false, narrowed := true }
def FilesOpensUptoSaid : Prop := filesOpensUptoRow.holds Try.pinned (OpenSpec.upto filesOpensSpec)

/-- 'formularylaw23.FilesRuns', WHERE WHAT IT READS IS OF BULK AT MOST 1048576: true; the input reads as it did. -/
def filesRunsUptoRow : OpenClaim := { program := "ythdgdngdfijfhaa", sum := "cffc39164ad85133d34237d0b2d060e5e4d9ddfe563d70c6cb5686b8753493b5", func := "formulary/formularylaw23.FilesRuns", spec := "filesRuns", inPlace := ["internal/abi.NoEscape", "internal/bytealg.MakeNoZero"], unfollowed := true, recurses := true, apart := false, narrowed := true }
def FilesRunsUptoSaid : Prop := filesRunsUptoRow.holds Try.pinned (OpenSpec.upto filesRunsSpec)

/-- 'formularylaw23.FilesActs', WHERE WHAT IT READS IS OF BULK AT MOST 1048576: true; the input reads as it did. -/
def filesActsUptoRow : OpenClaim := { program := "ythdgdngdfijfhaa", sum := "cffc39164ad85133d34237d0b2d060e5e4d9ddfe563d70c6cb5686b8753493b5", func := "formulary/formularylaw23.FilesActs", spec := "filesActs", inPlace := ["internal/abi.NoEscape", "internal/bytealg.MakeNoZero"], unfollowed := true, recurses := true, apart := false, narrowed := true }
def FilesActsUptoSaid : Prop := filesActsUptoRow.holds Try.pinned (OpenSpec.upto filesActsSpec)

/-- 'formularylaw23.FilesFails', WHERE WHAT IT READS IS OF BULK AT MOST 1048576: true; the input reads as it did. -/
def filesFailsUptoRow : OpenClaim := { program := "ythdgdngdfijfhaa", sum := "cffc39164ad85133d34237d0b2d060e5e4d9ddfe563d70c6cb5686b8753493b5", func := "formulary/formularylaw23.FilesFails", spec := "filesFails", inPlace := ["internal/abi.NoEscape", "internal/bytealg.MakeNoZero"], unfollowed := true, recurses := true, apart := false, narrowed := true }
def FilesFailsUptoSaid : Prop := filesFailsUptoRow.holds Try.pinned (OpenSpec.upto filesFailsSpec)

/-- 'formularylaw23.FilesEvents', WHERE WHAT IT READS IS OF BULK AT MOST 1048576: true; the input reads as it did. -/
def filesEventsUptoRow : OpenClaim := { program := "ythdgdngdfijfhaa", sum := "cffc39164ad85133d34237d0b2d060e5e4d9ddfe563d70c6cb5686b8753493b5", func := "formulary/formularylaw23.FilesEvents", spec := "filesEvents", inPlace := ["internal/abi.NoEscape", "internal/bytealg.MakeNoZero"], unfollowed := true, recurses := true, apart := false, narrowed := true }
def FilesEventsUptoSaid : Prop := filesEventsUptoRow.holds Try.pinned (OpenSpec.upto filesEventsSpec)

/-- 'formularylaw23.FilesWhole', WHERE WHAT IT READS IS OF BULK AT MOST 1048576: true; the input reads as it did. -/
def filesWholeUptoRow : OpenClaim := { program := "ythdgdngdfijfhaa", sum := "cffc39164ad85133d34237d0b2d060e5e4d9ddfe563d70c6cb5686b8753493b5", func := "formulary/formularylaw23.FilesWhole", spec := "filesWhole", inPlace := ["internal/abi.NoEscape", "internal/bytealg.MakeNoZero"], unfollowed := true, recurses := true, apart := false, narrowed := true }
def FilesWholeUptoSaid : Prop := filesWholeUptoRow.holds Try.pinned (OpenSpec.upto filesWholeSpec)

/-- 'formularylaw23.FilesOthers', WHERE WHAT IT READS IS OF BULK AT MOST 1048576: true; the input reads as it did. -/
def filesOthersUptoRow : OpenClaim := { program := "ythdgdngdfijfhaa", sum := "cffc39164ad85133d34237d0b2d060e5e4d9ddfe563d70c6cb5686b8753493b5", func := "formulary/formularylaw23.FilesOthers", spec := "filesOthers", inPlace := ["internal/abi.NoEscape", "internal/bytealg.MakeNoZero"], unfollowed := true, recurses := true, apart := false, narrowed := true }
def FilesOthersUptoSaid : Prop := filesOthersUptoRow.holds Try.pinned (OpenSpec.upto filesOthersSpec)

end Rows
end Go.Proofs.Ythdgdngdfijfhaa
