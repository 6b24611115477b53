/-
  No cell of these rows narrows 'for every input' (looked for: loops, veiled, ifaces, maps, wideKeys, modest, calm, conditions, laid).
  DERIVED. THE GIVEN ROWS OF THIS SEAT. 9 by the template 'for every input the law returns true; each argument reads behind the call as it read before'; 0 by the template 'total and deterministic' (their statements: YtloecggdboingaaTotals.lean).
  GIVEN WITH THE SEED: the statements are not yours to turn. If you find one false, say at which input.
  Laid BY PROGRAM, IN A SANDBOX (cutbox-rows.mjs): the forced cells as the released guide's own fill.sh prints them over the translation 021770150d636b01… (all of the seat's roots in one cut). By AI agents, Wed Nov 11 2026. No macro, syntax, notation, axiom, sorry.
-/
import Derived.Test.YtloecggdboingaaChecked
import GoSem.Claim
import GoSem.ClaimJoined
import GoSem.ClaimMapViews
import Derived.JoinedTies
import Derived.KernelRfl
namespace Go.Proofs.Ytloecggdboingaa
/- THE CELL 'sum', in the pinned program and in every row, IS THE sha256 OF THE DUMP (.gsa) THAT YtloecggdboingaaProg.lean LOADS. Nothing in Lean hashes anything: it is a label: what it is worth is what the hold of that sum in a sandbox is worth. -/
noncomputable def Try.pinned : Pinned := { name := "ytloecggdboingaa", sum := "021770150d636b016796f55479fb28f2e9a3f3b11933b2c5423a0b6c903b22b5", checked := Try.checked }
namespace Rows
def none {H : Type} : Left H := { results := [], args := [] }

/-- 'formularylaw18.GenericResolves': WHATEVER THE INPUT: true; the input reads as it did. -/
def genericResolvesSpec : ChangeSpec := { name := "genericResolves", fn := fun _ => fun
  | [d1, d2] => { results := [.lit (.bool true)], args := [d1, d2] }
  | _ => none }
def genericResolvesRow : OpenClaim := { program := "ytloecggdboingaa", sum := "021770150d636b016796f55479fb28f2e9a3f3b11933b2c5423a0b6c903b22b5", func := "formulary/formularylaw18.GenericResolves", spec := "genericResolves", unfollowed := true, recurses := true, apart := false }
def GenericResolvesSaid : Prop := genericResolvesRow.holds Try.pinned (OpenSpec.ofChange genericResolvesSpec)

/-- ITS FALSE NEIGHBOUR: 'it returns false'. Refute it at one input. -/
def genericResolvesWrong : ChangeSpec := { name := "genericResolves", fn := fun _ => fun
  | [d1, d2] => { results := [.lit (.bool false)], args := [d1, d2] }
  | _ => none }
def GenericResolvesWrongFalsely : Prop := genericResolvesRow.holds Try.pinned (OpenSpec.ofChange genericResolvesWrong)

/-- 'formularylaw18.GenericCommons': WHATEVER THE INPUT: true; the input reads as it did. -/
def genericCommonsSpec : ChangeSpec := { name := "genericCommons", fn := fun _ => fun
  | [d1, d2] => { results := [.lit (.bool true)], args := [d1, d2] }
  | _ => none }
def genericCommonsRow : OpenClaim := { program := "ytloecggdboingaa", sum := "021770150d636b016796f55479fb28f2e9a3f3b11933b2c5423a0b6c903b22b5", func := "formulary/formularylaw18.GenericCommons", spec := "genericCommons", unfollowed := true, recurses := true, apart := false }
def GenericCommonsSaid : Prop := genericCommonsRow.holds Try.pinned (OpenSpec.ofChange genericCommonsSpec)

/-- ITS FALSE NEIGHBOUR: 'it returns false'. Refute it at one input. -/
def genericCommonsWrong : ChangeSpec := { name := "genericCommons", fn := fun _ => fun
  | [d1, d2] => { results := [.lit (.bool false)], args := [d1, d2] }
  | _ => none }
def GenericCommonsWrongFalsely : Prop := genericCommonsRow.holds Try.pinned (OpenSpec.ofChange genericCommonsWrong)

/-- 'formularylaw18.GenericChecks': WHATEVER THE INPUT: true; the input reads as it did. -/
def genericChecksSpec : ChangeSpec := { name := "genericChecks", fn := fun _ => fun
  | [d1, d2] => { results := [.lit (.bool true)], args := [d1, d2] }
  | _ => none }
def genericChecksRow : OpenClaim := { program := "ytloecggdboingaa", sum := "021770150d636b016796f55479fb28f2e9a3f3b11933b2c5423a0b6c903b22b5", func := "formulary/formularylaw18.GenericChecks", spec := "genericChecks", unfollowed := true, recurses := true, apart := false }
def GenericChecksSaid : Prop := genericChecksRow.holds Try.pinned (OpenSpec.ofChange genericChecksSpec)

/-- ITS FALSE NEIGHBOUR: 'it returns false'. Refute it at one input. -/
def genericChecksWrong : ChangeSpec := { name := "genericChecks", fn := fun _ => fun
  | [d1, d2] => { results := [.lit (.bool false)], args := [d1, d2] }
  | _ => none }
def GenericChecksWrongFalsely : Prop := genericChecksRow.holds Try.pinned (OpenSpec.ofChange genericChecksWrong)

/-- 'formularylaw18.GenericMatches': WHATEVER THE INPUT: true; the input reads as it did. -/
def genericMatchesSpec : ChangeSpec := { name := "genericMatches", fn := fun _ => fun
  | [d1, d2] => { results := [.lit (.bool true)], args := [d1, d2] }
  | _ => none }
def genericMatchesRow : OpenClaim := { program := "ytloecggdboingaa", sum := "021770150d636b016796f55479fb28f2e9a3f3b11933b2c5423a0b6c903b22b5", func := "formulary/formularylaw18.GenericMatches", spec := "genericMatches", unfollowed := true, recurses := true, apart := false }
def GenericMatchesSaid : Prop := genericMatchesRow.holds Try.pinned (OpenSpec.ofChange genericMatchesSpec)

/-- ITS FALSE NEIGHBOUR: 'it returns false'. Refute it at one input. -/
def genericMatchesWrong : ChangeSpec := { name := "genericMatches", fn := fun _ => fun
  | [d1, d2] => { results := [.lit (.bool false)], args := [d1, d2] }
  | _ => none }
def GenericMatchesWrongFalsely : Prop := genericMatchesRow.holds Try.pinned (OpenSpec.ofChange genericMatchesWrong)

/-- 'formularylaw18.GenericDecides': WHATEVER THE INPUT: true; the input reads as it did. -/
def genericDecidesSpec : ChangeSpec := { name := "genericDecides", fn := fun _ => fun
  | [d1, d2, d3] => { results := [.lit (.bool true)], args := [d1, d2, d3] }
  | _ => none }
def genericDecidesRow : OpenClaim := { program := "ytloecggdboingaa", sum := "021770150d636b016796f55479fb28f2e9a3f3b11933b2c5423a0b6c903b22b5", func := "formulary/formularylaw18.GenericDecides", spec := "genericDecides", unfollowed := true, recurses := true, apart := false }
def GenericDecidesSaid : Prop := genericDecidesRow.holds Try.pinned (OpenSpec.ofChange genericDecidesSpec)

/-- ITS FALSE NEIGHBOUR: 'it returns false'. Refute it at one input. -/
def genericDecidesWrong : ChangeSpec := { name := "genericDecides", fn := fun _ => fun
  | [d1, d2, d3] => { results := [.lit (.bool false)], args := [d1, d2, d3] }
  | _ => none }
def GenericDecidesWrongFalsely : Prop := genericDecidesRow.holds Try.pinned (OpenSpec.ofChange genericDecidesWrong)

/-- 'formularylaw18.GenericRules': WHATEVER THE INPUT: true; the input reads as it did. -/
def genericRulesSpec : ChangeSpec := { name := "genericRules", fn := fun _ => fun
  | [d1, d2, d3] => { results := [.lit (.bool true)], args := [d1, d2, d3] }
  | _ => none }
def genericRulesRow : OpenClaim := { program := "ytloecggdboingaa", sum := "021770150d636b016796f55479fb28f2e9a3f3b11933b2c5423a0b6c903b22b5", func := "formulary/formularylaw18.GenericRules", spec := "genericRules", unfollowed := true, recurses := true, apart := false }
def GenericRulesSaid : Prop := genericRulesRow.holds Try.pinned (OpenSpec.ofChange genericRulesSpec)

/-- ITS FALSE NEIGHBOUR: 'it returns false'. Refute it at one input. -/
def genericRulesWrong : ChangeSpec := { name := "genericRules", fn := fun _ => fun
  | [d1, d2, d3] => { results := [.lit (.bool false)], args := [d1, d2, d3] }
  | _ => none }
def GenericRulesWrongFalsely : Prop := genericRulesRow.holds Try.pinned (OpenSpec.ofChange genericRulesWrong)

/-- 'formularylaw18.GenericSound': WHATEVER THE INPUT: true; the input reads as it did. -/
def genericSoundSpec : ChangeSpec := { name := "genericSound", fn := fun _ => fun
  | [d1, d2, d3] => { results := [.lit (.bool true)], args := [d1, d2, d3] }
  | _ => none }
def genericSoundRow : OpenClaim := { program := "ytloecggdboingaa", sum := "021770150d636b016796f55479fb28f2e9a3f3b11933b2c5423a0b6c903b22b5", func := "formulary/formularylaw18.GenericSound", spec := "genericSound", unfollowed := true, recurses := true, apart := false }
def GenericSoundSaid : Prop := genericSoundRow.holds Try.pinned (OpenSpec.ofChange genericSoundSpec)

/-- ITS FALSE NEIGHBOUR: 'it returns false'. Refute it at one input. -/
def genericSoundWrong : ChangeSpec := { name := "genericSound", fn := fun _ => fun
  | [d1, d2, d3] => { results := [.lit (.bool false)], args := [d1, d2, d3] }
  | _ => none }
def GenericSoundWrongFalsely : Prop := genericSoundRow.holds Try.pinned (OpenSpec.ofChange genericSoundWrong)

/-- 'formularylaw18.GenericPairs': WHATEVER THE INPUT: true; the input reads as it did. -/
def genericPairsSpec : ChangeSpec := { name := "genericPairs", fn := fun _ => fun
  | [d] => { results := [.lit (.bool true)], args := [d] }
  | _ => none }
def genericPairsRow : OpenClaim := { program := "ytloecggdboingaa", sum := "021770150d636b016796f55479fb28f2e9a3f3b11933b2c5423a0b6c903b22b5", func := "formulary/formularylaw18.GenericPairs", spec := "genericPairs", unfollowed := true, recurses := true, apart := false }
def GenericPairsSaid : Prop := genericPairsRow.holds Try.pinned (OpenSpec.ofChange genericPairsSpec)

/-- ITS FALSE NEIGHBOUR: 'it returns false'. Refute it at one input. -/
def genericPairsWrong : ChangeSpec := { name := "genericPairs", fn := fun _ => fun
  | [d] => { results := [.lit (.bool false)], args := [d] }
  | _ => none }
def GenericPairsWrongFalsely : Prop := genericPairsRow.holds Try.pinned (OpenSpec.ofChange genericPairsWrong)

/-- 'formularytop.TopGenericOne': WHATEVER THE INPUT: true; the input reads as it did. -/
def topGenericOneSpec : ChangeSpec := { name := "topGenericOne", fn := fun _ => fun
  | [d1, d2, d3] => { results := [.lit (.bool true)], args := [d1, d2, d3] }
  | _ => none }
def topGenericOneRow : OpenClaim := { program := "ytloecggdboingaa", sum := "021770150d636b016796f55479fb28f2e9a3f3b11933b2c5423a0b6c903b22b5", func := "formulary/formularytop.TopGenericOne", spec := "topGenericOne", unfollowed := true, recurses := true, apart := false }
def TopGenericOneSaid : Prop := topGenericOneRow.holds Try.pinned (OpenSpec.ofChange topGenericOneSpec)

/-- ITS FALSE NEIGHBOUR: 'it returns false'. Refute it at one input. -/
def topGenericOneWrong : ChangeSpec := { name := "topGenericOne", fn := fun _ => fun
  | [d1, d2, d3] => { results := [.lit (.bool false)], args := [d1, d2, d3] }
  | _ => none }
def TopGenericOneWrongFalsely : Prop := topGenericOneRow.holds Try.pinned (OpenSpec.ofChange topGenericOneWrong)

/- THE SECOND FORM. 'bulk': how many values and letters a reading holds, each counted each time it is reached (what is shared counts as often as it is met; a slice's spare places count too). A statement '..UptoSaid' is the law's where the arguments, and the package variables that the reading takes, are together of bulk at most 1048576: NARROWER than '..Said'. Prove '..Said' where nothing that the law and all that it calls make is longer than what came in: it says more and counts as full. Else prove '..UptoSaid'. A law counts once. -/
mutual
def uptoBulk {H : Type} : DataW H → Nat
  | .lit (.string bytes) => bytes.length + 1
  | .lit _ => 1
  | .nil => 1
  | .ptr d => uptoBulk d + 1
  | .slice elems spare => uptoBulkAll elems + uptoBulkAll spare + 1
  | .agg parts => uptoBulkAll parts + 1
  | .iface _ d => uptoBulk d + 1
  | .map entries => uptoBulkEntries entries + 1
  | .held _ => 1
def uptoBulkAll {H : Type} : List (DataW H) → Nat
  | [] => 0
  | d :: r => uptoBulk d + uptoBulkAll r
def uptoBulkEntries {H : Type} : List (Lit × DataW H) → Nat
  | [] => 0
  | x :: r => uptoBulkEntry x + uptoBulkEntries r
def uptoBulkEntry {H : Type} : Lit × DataW H → Nat
  | (.string bytes, d) => bytes.length + uptoBulk d + 1
  | (_, d) => uptoBulk d + 1
 end
def uptoSmall : (H : Type) → List (DataW H) → Bool := fun _ ds => decide (uptoBulkAll ds ≤ 1048576)
def OpenSpec.upto (s : _root_.Go.ChangeSpec) : _root_.Go.OpenSpec := { _root_.Go.OpenSpec.ofChange s with cond := some uptoSmall }

/-- 'formularylaw18.GenericResolves', WHERE WHAT IT READS IS OF BULK AT MOST 1048576: true; the input reads as it did. -/
def genericResolvesUptoRow : OpenClaim := { program := "ytloecggdboingaa", sum := "021770150d636b016796f55479fb28f2e9a3f3b11933b2c5423a0b6c903b22b5", func := "formulary/formularylaw18.GenericResolves", spec := "genericResolves", unfollowed := true, recurses := true, apart := false, narrowed := true }
def GenericResolvesUptoSaid : Prop := genericResolvesUptoRow.holds Try.pinned (OpenSpec.upto genericResolvesSpec)

/-- 'formularylaw18.GenericCommons', WHERE WHAT IT READS IS OF BULK AT MOST 1048576: true; the input reads as it did. -/
def genericCommonsUptoRow : OpenClaim := { program := "ytloecggdboingaa", sum := "021770150d636b016796f55479fb28f2e9a3f3b11933b2c5423a0b6c903b22b5", func := "formulary/formularylaw18.GenericCommons", spec := "genericCommons", unfollowed := true, recurses := true, apart := false, narrowed := true }
def GenericCommonsUptoSaid : Prop := genericCommonsUptoRow.holds Try.pinned (OpenSpec.upto genericCommonsSpec)

/-- 'formularylaw18.GenericChecks', WHERE WHAT IT READS IS OF BULK AT MOST 1048576: true; the input reads as it did. -/
def genericChecksUptoRow : OpenClaim := { program := "ytloecggdboingaa", sum := "021770150d636b016796f55479fb28f2e9a3f3b11933b2c5423a0b6c903b22b5", func := "formulary/formularylaw18.GenericChecks", spec := "genericChecks", unfollowed := true, recurses := true, apart := false, narrowed := true }
def GenericChecksUptoSaid : Prop := genericChecksUptoRow.holds Try.pinned (OpenSpec.upto genericChecksSpec)

/-- 'formularylaw18.GenericMatches', WHERE WHAT IT READS IS OF BULK AT MOST 1048576: true; the input reads as it did. -/
def genericMatchesUptoRow : OpenClaim := { program := "ytloecggdboingaa", sum := "021770150d636b016796f55479fb28f2e9a3f3b11933b2c5423a0b6c903b22b5", func := "formulary/formularylaw18.GenericMatches", spec := "genericMatches", unfollowed := true, recurses := true, apart := false, narrowed := true }
def GenericMatchesUptoSaid : Prop := genericMatchesUptoRow.holds Try.pinned (OpenSpec.upto genericMatchesSpec)

/-- 'formularylaw18.GenericDecides', WHERE WHAT IT READS IS OF BULK AT MOST 1048576: true; the input reads as it did. -/
def genericDecidesUptoRow : OpenClaim := { program := "ytloecggdboingaa", sum := "021770150d636b016796f55479fb28f2e9a3f3b11933b2c5423a0b6c903b22b5", func := "formulary/formularylaw18.GenericDecides", spec := "genericDecides", unfollowed := true, recurses := true, apart := false, narrowed := true }
def GenericDecidesUptoSaid : Prop := genericDecidesUptoRow.holds Try.pinned (OpenSpec.upto genericDecidesSpec)

/-- 'formularylaw18.GenericRules', WHERE WHAT IT READS IS OF BULK AT MOST 1048576: true; the input reads as it did. -/
def genericRulesUptoRow : OpenClaim := { program := "ytloecggdboingaa", sum := "021770150d636b016796f55479fb28f2e9a3f3b11933b2c5423a0b6c903b22b5", func := "formulary/formularylaw18.GenericRules", spec := "genericRules", unfollowed := true, recurses := true, apart := false, narrowed := true }
def GenericRulesUptoSaid : Prop := genericRulesUptoRow.holds Try.pinned (OpenSpec.upto genericRulesSpec)

/-- 'formularylaw18.GenericSound', WHERE WHAT IT READS IS OF BULK AT MOST 1048576: true; the input reads as it did. -/
def genericSoundUptoRow : OpenClaim := { program := "ytloecggdboingaa", sum := "021770150d636b016796f55479fb28f2e9a3f3b11933b2c5423a0b6c903b22b5", func := "formulary/formularylaw18.GenericSound", spec := "genericSound", unfollowed := true, recurses := true, apart := false, narrowed := true }
def GenericSoundUptoSaid : Prop := genericSoundUptoRow.holds Try.pinned (OpenSpec.upto genericSoundSpec)

/-- 'formularylaw18.GenericPairs', WHERE WHAT IT READS IS OF BULK AT MOST 1048576: true; the input reads as it did. -/
def genericPairsUptoRow : OpenClaim := { program := "ytloecggdboingaa", sum := "021770150d636b016796f55479fb28f2e9a3f3b11933b2c5423a0b6c903b22b5", func := "formulary/formularylaw18.GenericPairs", spec := "genericPairs", unfollowed := true, recurses := true, apart := false, narrowed := true }
def GenericPairsUptoSaid : Prop := genericPairsUptoRow.holds Try.pinned (OpenSpec.upto genericPairsSpec)

/-- 'formularytop.TopGenericOne', WHERE WHAT IT READS IS OF BULK AT MOST 1048576: true; the input reads as it did. -/
def topGenericOneUptoRow : OpenClaim := { program := "ytloecggdboingaa", sum := "021770150d636b016796f55479fb28f2e9a3f3b11933b2c5423a0b6c903b22b5", func := "formulary/formularytop.TopGenericOne", spec := "topGenericOne", unfollowed := true, recurses := true, apart := false, narrowed := true }
def TopGenericOneUptoSaid : Prop := topGenericOneUptoRow.holds Try.pinned (OpenSpec.upto topGenericOneSpec)

end Rows
end Go.Proofs.Ytloecggdboingaa
