/-
  No cell of these rows narrows 'for every input' (looked for: loops, veiled, ifaces, maps, wideKeys, modest, calm, conditions, laid).
  DERIVED. THE GIVEN ROWS OF THIS SEAT. 12 by the template 'for every input the law returns true; each argument reads behind the call as it read before'; 0 by the template 'total and deterministic' (their statements: YtakfeaomdkapaaaTotals.lean).
  GIVEN WITH THE SEED: the statements are not yours to turn. If you find one false, say at which input.
  Laid BY PROGRAM, IN A SANDBOX (cutbox-rows.mjs): the forced cells as the released guide's own fill.sh prints them over the translation d727a16cf46a4b0a… (all of the seat's roots in one cut). By AI agents, Wed Nov 11 2026. No macro, syntax, notation, axiom, sorry.
-/
import Derived.Test.YtakfeaomdkapaaaChecked
import GoSem.Claim
import GoSem.ClaimJoined
import GoSem.ClaimMapViews
import Derived.JoinedTies
import Derived.KernelRfl
namespace Go.Proofs.Ytakfeaomdkapaaa
/- THE CELL 'sum', in the pinned program and in every row, IS THE sha256 OF THE DUMP (.gsa) THAT YtakfeaomdkapaaaProg.lean LOADS. Nothing in Lean hashes anything: it is a label: what it is worth is what the hold of that sum in a sandbox is worth. -/
noncomputable def Try.pinned : Pinned := { name := "ytakfeaomdkapaaa", sum := "d727a16cf46a4b0aee12022c4478527a93dd1fb6dae42e3d4748a97e799b6835", checked := Try.checked }
namespace Rows
def none {H : Type} : Left H := { results := [], args := [] }

/-- 'laws.FnExactParentPlace': WHATEVER THE INPUT: true; the input reads as it did. -/
def fnExactParentPlaceSpec : ChangeSpec := { name := "fnExactParentPlace", fn := fun _ => fun
  | [d1, d2] => { results := [.lit (.bool true)], args := [d1, d2] }
  | _ => none }
def fnExactParentPlaceRow : OpenClaim := { program := "ytakfeaomdkapaaa", sum := "d727a16cf46a4b0aee12022c4478527a93dd1fb6dae42e3d4748a97e799b6835", func := "loop.example/g01252/laws.FnExactParentPlace", spec := "fnExactParentPlace", apart := false }
def FnExactParentPlaceSaid : Prop := fnExactParentPlaceRow.holds Try.pinned (OpenSpec.ofChange fnExactParentPlaceSpec)

/-- ITS FALSE NEIGHBOUR: 'it returns false'. Refute it at one input. -/
def fnExactParentPlaceWrong : ChangeSpec := { name := "fnExactParentPlace", fn := fun _ => fun
  | [d1, d2] => { results := [.lit (.bool false)], args := [d1, d2] }
  | _ => none }
def FnExactParentPlaceWrongFalsely : Prop := fnExactParentPlaceRow.holds Try.pinned (OpenSpec.ofChange fnExactParentPlaceWrong)

/-- 'laws.FnExactRegionSize': WHATEVER THE INPUT: true; the input reads as it did. -/
def fnExactRegionSizeSpec : ChangeSpec := { name := "fnExactRegionSize", fn := fun _ => fun
  | [d1, d2] => { results := [.lit (.bool true)], args := [d1, d2] }
  | _ => none }
def fnExactRegionSizeRow : OpenClaim := { program := "ytakfeaomdkapaaa", sum := "d727a16cf46a4b0aee12022c4478527a93dd1fb6dae42e3d4748a97e799b6835", func := "loop.example/g01252/laws.FnExactRegionSize", spec := "fnExactRegionSize", apart := false }
def FnExactRegionSizeSaid : Prop := fnExactRegionSizeRow.holds Try.pinned (OpenSpec.ofChange fnExactRegionSizeSpec)

/-- ITS FALSE NEIGHBOUR: 'it returns false'. Refute it at one input. -/
def fnExactRegionSizeWrong : ChangeSpec := { name := "fnExactRegionSize", fn := fun _ => fun
  | [d1, d2] => { results := [.lit (.bool false)], args := [d1, d2] }
  | _ => none }
def FnExactRegionSizeWrongFalsely : Prop := fnExactRegionSizeRow.holds Try.pinned (OpenSpec.ofChange fnExactRegionSizeWrong)

/-- 'laws.FnExactChildPlaces': WHATEVER THE INPUT: true; the input reads as it did. -/
def fnExactChildPlacesSpec : ChangeSpec := { name := "fnExactChildPlaces", fn := fun _ => fun
  | [d1, d2] => { results := [.lit (.bool true)], args := [d1, d2] }
  | _ => none }
def fnExactChildPlacesRow : OpenClaim := { program := "ytakfeaomdkapaaa", sum := "d727a16cf46a4b0aee12022c4478527a93dd1fb6dae42e3d4748a97e799b6835", func := "loop.example/g01252/laws.FnExactChildPlaces", spec := "fnExactChildPlaces", apart := false }
def FnExactChildPlacesSaid : Prop := fnExactChildPlacesRow.holds Try.pinned (OpenSpec.ofChange fnExactChildPlacesSpec)

/-- ITS FALSE NEIGHBOUR: 'it returns false'. Refute it at one input. -/
def fnExactChildPlacesWrong : ChangeSpec := { name := "fnExactChildPlaces", fn := fun _ => fun
  | [d1, d2] => { results := [.lit (.bool false)], args := [d1, d2] }
  | _ => none }
def FnExactChildPlacesWrongFalsely : Prop := fnExactChildPlacesRow.holds Try.pinned (OpenSpec.ofChange fnExactChildPlacesWrong)

/-- 'laws.FnExactDifferencesOf': WHATEVER THE INPUT: true; the input reads as it did. -/
def fnExactDifferencesOfSpec : ChangeSpec := { name := "fnExactDifferencesOf", fn := fun _ => fun
  | [d1, d2, d3] => { results := [.lit (.bool true)], args := [d1, d2, d3] }
  | _ => none }
def fnExactDifferencesOfRow : OpenClaim := { program := "ytakfeaomdkapaaa", sum := "d727a16cf46a4b0aee12022c4478527a93dd1fb6dae42e3d4748a97e799b6835", func := "loop.example/g01252/laws.FnExactDifferencesOf", spec := "fnExactDifferencesOf", apart := false }
def FnExactDifferencesOfSaid : Prop := fnExactDifferencesOfRow.holds Try.pinned (OpenSpec.ofChange fnExactDifferencesOfSpec)

/-- ITS FALSE NEIGHBOUR: 'it returns false'. Refute it at one input. -/
def fnExactDifferencesOfWrong : ChangeSpec := { name := "fnExactDifferencesOf", fn := fun _ => fun
  | [d1, d2, d3] => { results := [.lit (.bool false)], args := [d1, d2, d3] }
  | _ => none }
def FnExactDifferencesOfWrongFalsely : Prop := fnExactDifferencesOfRow.holds Try.pinned (OpenSpec.ofChange fnExactDifferencesOfWrong)

/-- 'laws.FnExactKeepsRule': WHATEVER THE INPUT: true; the input reads as it did. -/
def fnExactKeepsRuleSpec : ChangeSpec := { name := "fnExactKeepsRule", fn := fun _ => fun
  | [d1, d2, d3] => { results := [.lit (.bool true)], args := [d1, d2, d3] }
  | _ => none }
def fnExactKeepsRuleRow : OpenClaim := { program := "ytakfeaomdkapaaa", sum := "d727a16cf46a4b0aee12022c4478527a93dd1fb6dae42e3d4748a97e799b6835", func := "loop.example/g01252/laws.FnExactKeepsRule", spec := "fnExactKeepsRule", apart := false }
def FnExactKeepsRuleSaid : Prop := fnExactKeepsRuleRow.holds Try.pinned (OpenSpec.ofChange fnExactKeepsRuleSpec)

/-- ITS FALSE NEIGHBOUR: 'it returns false'. Refute it at one input. -/
def fnExactKeepsRuleWrong : ChangeSpec := { name := "fnExactKeepsRule", fn := fun _ => fun
  | [d1, d2, d3] => { results := [.lit (.bool false)], args := [d1, d2, d3] }
  | _ => none }
def FnExactKeepsRuleWrongFalsely : Prop := fnExactKeepsRuleRow.holds Try.pinned (OpenSpec.ofChange fnExactKeepsRuleWrong)

/-- 'laws.FnExactPotentialOf': WHATEVER THE INPUT: true; the input reads as it did. -/
def fnExactPotentialOfSpec : ChangeSpec := { name := "fnExactPotentialOf", fn := fun _ => fun
  | [d1, d2, d3, d4] => { results := [.lit (.bool true)], args := [d1, d2, d3, d4] }
  | _ => none }
def fnExactPotentialOfRow : OpenClaim := { program := "ytakfeaomdkapaaa", sum := "d727a16cf46a4b0aee12022c4478527a93dd1fb6dae42e3d4748a97e799b6835", func := "loop.example/g01252/laws.FnExactPotentialOf", spec := "fnExactPotentialOf", apart := false }
def FnExactPotentialOfSaid : Prop := fnExactPotentialOfRow.holds Try.pinned (OpenSpec.ofChange fnExactPotentialOfSpec)

/-- ITS FALSE NEIGHBOUR: 'it returns false'. Refute it at one input. -/
def fnExactPotentialOfWrong : ChangeSpec := { name := "fnExactPotentialOf", fn := fun _ => fun
  | [d1, d2, d3, d4] => { results := [.lit (.bool false)], args := [d1, d2, d3, d4] }
  | _ => none }
def FnExactPotentialOfWrongFalsely : Prop := fnExactPotentialOfRow.holds Try.pinned (OpenSpec.ofChange fnExactPotentialOfWrong)

/-- 'laws.FnExactFlowOfBoundary': WHATEVER THE INPUT: true; the input reads as it did. -/
def fnExactFlowOfBoundarySpec : ChangeSpec := { name := "fnExactFlowOfBoundary", fn := fun _ => fun
  | [d1, d2, d3] => { results := [.lit (.bool true)], args := [d1, d2, d3] }
  | _ => none }
def fnExactFlowOfBoundaryRow : OpenClaim := { program := "ytakfeaomdkapaaa", sum := "d727a16cf46a4b0aee12022c4478527a93dd1fb6dae42e3d4748a97e799b6835", func := "loop.example/g01252/laws.FnExactFlowOfBoundary", spec := "fnExactFlowOfBoundary", apart := false }
def FnExactFlowOfBoundarySaid : Prop := fnExactFlowOfBoundaryRow.holds Try.pinned (OpenSpec.ofChange fnExactFlowOfBoundarySpec)

/-- ITS FALSE NEIGHBOUR: 'it returns false'. Refute it at one input. -/
def fnExactFlowOfBoundaryWrong : ChangeSpec := { name := "fnExactFlowOfBoundary", fn := fun _ => fun
  | [d1, d2, d3] => { results := [.lit (.bool false)], args := [d1, d2, d3] }
  | _ => none }
def FnExactFlowOfBoundaryWrongFalsely : Prop := fnExactFlowOfBoundaryRow.holds Try.pinned (OpenSpec.ofChange fnExactFlowOfBoundaryWrong)

/-- 'laws.FnExactGapOf': WHATEVER THE INPUT: true; the input reads as it did. -/
def fnExactGapOfSpec : ChangeSpec := { name := "fnExactGapOf", fn := fun _ => fun
  | [d1, d2, d3] => { results := [.lit (.bool true)], args := [d1, d2, d3] }
  | _ => none }
def fnExactGapOfRow : OpenClaim := { program := "ytakfeaomdkapaaa", sum := "d727a16cf46a4b0aee12022c4478527a93dd1fb6dae42e3d4748a97e799b6835", func := "loop.example/g01252/laws.FnExactGapOf", spec := "fnExactGapOf", apart := false }
def FnExactGapOfSaid : Prop := fnExactGapOfRow.holds Try.pinned (OpenSpec.ofChange fnExactGapOfSpec)

/-- ITS FALSE NEIGHBOUR: 'it returns false'. Refute it at one input. -/
def fnExactGapOfWrong : ChangeSpec := { name := "fnExactGapOf", fn := fun _ => fun
  | [d1, d2, d3] => { results := [.lit (.bool false)], args := [d1, d2, d3] }
  | _ => none }
def FnExactGapOfWrongFalsely : Prop := fnExactGapOfRow.holds Try.pinned (OpenSpec.ofChange fnExactGapOfWrong)

/-- 'laws.FnExactCrossValuation': WHATEVER THE INPUT: true; the input reads as it did. -/
def fnExactCrossValuationSpec : ChangeSpec := { name := "fnExactCrossValuation", fn := fun _ => fun
  | [d1, d2, d3, d4, d5] => { results := [.lit (.bool true)], args := [d1, d2, d3, d4, d5] }
  | _ => none }
def fnExactCrossValuationRow : OpenClaim := { program := "ytakfeaomdkapaaa", sum := "d727a16cf46a4b0aee12022c4478527a93dd1fb6dae42e3d4748a97e799b6835", func := "loop.example/g01252/laws.FnExactCrossValuation", spec := "fnExactCrossValuation", apart := false }
def FnExactCrossValuationSaid : Prop := fnExactCrossValuationRow.holds Try.pinned (OpenSpec.ofChange fnExactCrossValuationSpec)

/-- ITS FALSE NEIGHBOUR: 'it returns false'. Refute it at one input. -/
def fnExactCrossValuationWrong : ChangeSpec := { name := "fnExactCrossValuation", fn := fun _ => fun
  | [d1, d2, d3, d4, d5] => { results := [.lit (.bool false)], args := [d1, d2, d3, d4, d5] }
  | _ => none }
def FnExactCrossValuationWrongFalsely : Prop := fnExactCrossValuationRow.holds Try.pinned (OpenSpec.ofChange fnExactCrossValuationWrong)

/-- 'laws.FnExactIsHarmonic': WHATEVER THE INPUT: true; the input reads as it did. -/
def fnExactIsHarmonicSpec : ChangeSpec := { name := "fnExactIsHarmonic", fn := fun _ => fun
  | [d1, d2, d3] => { results := [.lit (.bool true)], args := [d1, d2, d3] }
  | _ => none }
def fnExactIsHarmonicRow : OpenClaim := { program := "ytakfeaomdkapaaa", sum := "d727a16cf46a4b0aee12022c4478527a93dd1fb6dae42e3d4748a97e799b6835", func := "loop.example/g01252/laws.FnExactIsHarmonic", spec := "fnExactIsHarmonic", apart := false }
def FnExactIsHarmonicSaid : Prop := fnExactIsHarmonicRow.holds Try.pinned (OpenSpec.ofChange fnExactIsHarmonicSpec)

/-- ITS FALSE NEIGHBOUR: 'it returns false'. Refute it at one input. -/
def fnExactIsHarmonicWrong : ChangeSpec := { name := "fnExactIsHarmonic", fn := fun _ => fun
  | [d1, d2, d3] => { results := [.lit (.bool false)], args := [d1, d2, d3] }
  | _ => none }
def FnExactIsHarmonicWrongFalsely : Prop := fnExactIsHarmonicRow.holds Try.pinned (OpenSpec.ofChange fnExactIsHarmonicWrong)

/-- 'laws.FnExactNeighbourSums': WHATEVER THE INPUT: true; the input reads as it did. -/
def fnExactNeighbourSumsSpec : ChangeSpec := { name := "fnExactNeighbourSums", fn := fun _ => fun
  | [d1, d2, d3] => { results := [.lit (.bool true)], args := [d1, d2, d3] }
  | _ => none }
def fnExactNeighbourSumsRow : OpenClaim := { program := "ytakfeaomdkapaaa", sum := "d727a16cf46a4b0aee12022c4478527a93dd1fb6dae42e3d4748a97e799b6835", func := "loop.example/g01252/laws.FnExactNeighbourSums", spec := "fnExactNeighbourSums", apart := false }
def FnExactNeighbourSumsSaid : Prop := fnExactNeighbourSumsRow.holds Try.pinned (OpenSpec.ofChange fnExactNeighbourSumsSpec)

/-- ITS FALSE NEIGHBOUR: 'it returns false'. Refute it at one input. -/
def fnExactNeighbourSumsWrong : ChangeSpec := { name := "fnExactNeighbourSums", fn := fun _ => fun
  | [d1, d2, d3] => { results := [.lit (.bool false)], args := [d1, d2, d3] }
  | _ => none }
def FnExactNeighbourSumsWrongFalsely : Prop := fnExactNeighbourSumsRow.holds Try.pinned (OpenSpec.ofChange fnExactNeighbourSumsWrong)

/-- 'laws.FnExactSphereSums': WHATEVER THE INPUT: true; the input reads as it did. -/
def fnExactSphereSumsSpec : ChangeSpec := { name := "fnExactSphereSums", fn := fun _ => fun
  | [d1, d2, d3, d4] => { results := [.lit (.bool true)], args := [d1, d2, d3, d4] }
  | _ => none }
def fnExactSphereSumsRow : OpenClaim := { program := "ytakfeaomdkapaaa", sum := "d727a16cf46a4b0aee12022c4478527a93dd1fb6dae42e3d4748a97e799b6835", func := "loop.example/g01252/laws.FnExactSphereSums", spec := "fnExactSphereSums", recurses := true, apart := false }
def FnExactSphereSumsSaid : Prop := fnExactSphereSumsRow.holds Try.pinned (OpenSpec.ofChange fnExactSphereSumsSpec)

/-- ITS FALSE NEIGHBOUR: 'it returns false'. Refute it at one input. -/
def fnExactSphereSumsWrong : ChangeSpec := { name := "fnExactSphereSums", fn := fun _ => fun
  | [d1, d2, d3, d4] => { results := [.lit (.bool false)], args := [d1, d2, d3, d4] }
  | _ => none }
def FnExactSphereSumsWrongFalsely : Prop := fnExactSphereSumsRow.holds Try.pinned (OpenSpec.ofChange fnExactSphereSumsWrong)

/- THE SECOND FORM. 'bulk': how many values and letters a reading holds, each counted each time it is reached (what is shared counts as often as it is met; a slice's spare places count too). A statement '..UptoSaid' is the law's where the arguments, and the package variables that the reading takes, are together of bulk at most 1048576: NARROWER than '..Said'. Prove '..Said' where nothing that the law and all that it calls make is longer than what came in: it says more and counts as full. Else prove '..UptoSaid'. A law counts once. -/
mutual
def uptoBulk {H : Type} : DataW H → Nat
  | .lit (.string bytes) => bytes.length + 1
  | .lit _ => 1
  | .nil => 1
  | .ptr d => uptoBulk d + 1
  | .slice elems spare => uptoBulkAll elems + uptoBulkAll spare + 1
  | .agg parts => uptoBulkAll parts + 1
  | .iface _ d => uptoBulk d + 1
  | .map entries => uptoBulkEntries entries + 1
  | .held _ => 1
def uptoBulkAll {H : Type} : List (DataW H) → Nat
  | [] => 0
  | d :: r => uptoBulk d + uptoBulkAll r
def uptoBulkEntries {H : Type} : List (Lit × DataW H) → Nat
  | [] => 0
  | x :: r => uptoBulkEntry x + uptoBulkEntries r
def uptoBulkEntry {H : Type} : Lit × DataW H → Nat
  | (.string bytes, d) => bytes.length + uptoBulk d + 1
  | (_, d) => uptoBulk d + 1
 end
def uptoSmall : (H : Type) → List (DataW H) → Bool := fun _ ds => decide (uptoBulkAll ds ≤ 1048576)
def OpenSpec.upto (s : _root_.Go.ChangeSpec) : _root_.Go.OpenSpec := { _root_.Go.OpenSpec.ofChange s with cond := some uptoSmall }

/-- 'laws.FnExactParentPlace', WHERE WHAT IT READS IS OF BULK AT MOST 1048576: true; the input reads as it did. -/
def fnExactParentPlaceUptoRow : OpenClaim := { program := "ytakfeaomdkapaaa", sum := "d727a16cf46a4b0aee12022c4478527a93dd1fb6dae42e3d4748a97e799b6835", func := "loop.example/g01252/laws.FnExactParentPlace", spec := "fnExactParentPlace", apart := false, narrowed := true }
def FnExactParentPlaceUptoSaid : Prop := fnExactParentPlaceUptoRow.holds Try.pinned (OpenSpec.upto fnExactParentPlaceSpec)

/-- 'laws.FnExactRegionSize', WHERE WHAT IT READS IS OF BULK AT MOST 1048576: true; the input reads as it did. -/
def fnExactRegionSizeUptoRow : OpenClaim := { program := "ytakfeaomdkapaaa", sum := "d727a16cf46a4b0aee12022c4478527a93dd1fb6dae42e3d4748a97e799b6835", func := "loop.example/g01252/laws.FnExactRegionSize", spec := "fnExactRegionSize", apart := false, narrowed := true }
def FnExactRegionSizeUptoSaid : Prop := fnExactRegionSizeUptoRow.holds Try.pinned (OpenSpec.upto fnExactRegionSizeSpec)

/-- 'laws.FnExactChildPlaces', WHERE WHAT IT READS IS OF BULK AT MOST 1048576: true; the input reads as it did. -/
def fnExactChildPlacesUptoRow : OpenClaim := { program := "ytakfeaomdkapaaa", sum := "d727a16cf46a4b0aee12022c4478527a93dd1fb6dae42e3d4748a97e799b6835", func := "loop.example/g01252/laws.FnExactChildPlaces", spec := "fnExactChildPlaces", apart := false, narrowed := true }
def FnExactChildPlacesUptoSaid : Prop := fnExactChildPlacesUptoRow.holds Try.pinned (OpenSpec.upto fnExactChildPlacesSpec)

/-- 'laws.FnExactDifferencesOf', WHERE WHAT IT READS IS OF BULK AT MOST 1048576: true; the input reads as it did. -/
def fnExactDifferencesOfUptoRow : OpenClaim := { program := "ytakfeaomdkapaaa", sum := "d727a16cf46a4b0aee12022c4478527a93dd1fb6dae42e3d4748a97e799b6835", func := "loop.example/g01252/laws.FnExactDifferencesOf", spec := "fnExactDifferencesOf", apart := false, narrowed := true }
def FnExactDifferencesOfUptoSaid : Prop := fnExactDifferencesOfUptoRow.holds Try.pinned (OpenSpec.upto fnExactDifferencesOfSpec)

/-- 'laws.FnExactKeepsRule', WHERE WHAT IT READS IS OF BULK AT MOST 1048576: true; the input reads as it did. -/
def fnExactKeepsRuleUptoRow : OpenClaim := { program := "ytakfeaomdkapaaa", sum := "d727a16cf46a4b0aee12022c4478527a93dd1fb6dae42e3d4748a97e799b6835", func := "loop.example/g01252/laws.FnExactKeepsRule", spec := "fnExactKeepsRule", apart := false, narrowed := true }
def FnExactKeepsRuleUptoSaid : Prop := fnExactKeepsRuleUptoRow.holds Try.pinned (OpenSpec.upto fnExactKeepsRuleSpec)

/-- 'laws.FnExactPotentialOf', WHERE WHAT IT READS IS OF BULK AT MOST 1048576: true; the input reads as it did. -/
def fnExactPotentialOfUptoRow : OpenClaim := { program := "ytakfeaomdkapaaa", sum := "d727a16cf46a4b0aee12022c4478527a93dd1fb6dae42e3d4748a97e799b6835", func := "loop.example/g01252/laws.FnExactPotentialOf", spec := "fnExactPotentialOf", apart := false, narrowed := true }
def FnExactPotentialOfUptoSaid : Prop := fnExactPotentialOfUptoRow.holds Try.pinned (OpenSpec.upto fnExactPotentialOfSpec)

/-- 'laws.FnExactFlowOfBoundary', WHERE WHAT IT READS IS OF BULK AT MOST 1048576: true; the input reads as it did. -/
def fnExactFlowOfBoundaryUptoRow : OpenClaim := { program := "ytakfeaomdkapaaa", sum := "d727a16cf46a4b0aee12022c4478527a93dd1fb6dae42e3d4748a97e799b6835", func := "loop.example/g01252/laws.FnExactFlowOfBoundary", spec := "fnExactFlowOfBoundary", apart := false, narrowed := true }
def FnExactFlowOfBoundaryUptoSaid : Prop := fnExactFlowOfBoundaryUptoRow.holds Try.pinned (OpenSpec.upto fnExactFlowOfBoundarySpec)

/-- 'laws.FnExactGapOf', WHERE WHAT IT READS IS OF BULK AT MOST 1048576: true; the input reads as it did. -/
def fnExactGapOfUptoRow : OpenClaim := { program := "ytakfeaomdkapaaa", sum := "d727a16cf46a4b0aee12022c4478527a93dd1fb6dae42e3d4748a97e799b6835", func := "loop.example/g01252/laws.FnExactGapOf", spec := "fnExactGapOf", apart := false, narrowed := true }
def FnExactGapOfUptoSaid : Prop := fnExactGapOfUptoRow.holds Try.pinned (OpenSpec.upto fnExactGapOfSpec)

/-- 'laws.FnExactCrossValuation', WHERE WHAT IT READS IS OF BULK AT MOST 1048576: true; the input reads as it did. -/
def fnExactCrossValuationUptoRow : OpenClaim := { program := "ytakfeaomdkapaaa", sum := "d727a16cf46a4b0aee12022c4478527a93dd1fb6dae42e3d4748a97e799b6835", func := "loop.example/g01252/laws.FnExactCrossValuation", spec := "fnExactCrossValuation", apart := false, narrowed := true }
def FnExactCrossValuationUptoSaid : Prop := fnExactCrossValuationUptoRow.holds Try.pinned (OpenSpec.upto fnExactCrossValuationSpec)

/-- 'laws.FnExactIsHarmonic', WHERE WHAT IT READS IS OF BULK AT MOST 1048576: true; the input reads as it did. -/
def fnExactIsHarmonicUptoRow : OpenClaim := { program := "ytakfeaomdkapaaa", sum := "d727a16cf46a4b0aee12022c4478527a93dd1fb6dae42e3d4748a97e799b6835", func := "loop.example/g01252/laws.FnExactIsHarmonic", spec := "fnExactIsHarmonic", apart := false, narrowed := true }
def FnExactIsHarmonicUptoSaid : Prop := fnExactIsHarmonicUptoRow.holds Try.pinned (OpenSpec.upto fnExactIsHarmonicSpec)

/-- 'laws.FnExactNeighbourSums', WHERE WHAT IT READS IS OF BULK AT MOST 1048576: true; the input reads as it did. -/
def fnExactNeighbourSumsUptoRow : OpenClaim := { program := "ytakfeaomdkapaaa", sum := "d727a16cf46a4b0aee12022c4478527a93dd1fb6dae42e3d4748a97e799b6835", func := "loop.example/g01252/laws.FnExactNeighbourSums", spec := "fnExactNeighbourSums", apart := false, narrowed := true }
def FnExactNeighbourSumsUptoSaid : Prop := fnExactNeighbourSumsUptoRow.holds Try.pinned (OpenSpec.upto fnExactNeighbourSumsSpec)

/-- 'laws.FnExactSphereSums', WHERE WHAT IT READS IS OF BULK AT MOST 1048576: true; the input reads as it did. -/
def fnExactSphereSumsUptoRow : OpenClaim := { program := "ytakfeaomdkapaaa", sum := "d727a16cf46a4b0aee12022c4478527a93dd1fb6dae42e3d4748a97e799b6835", func := "loop.example/g01252/laws.FnExactSphereSums", spec := "fnExactSphereSums", recurses := true, apart := false, narrowed := true }
def FnExactSphereSumsUptoSaid : Prop := fnExactSphereSumsUptoRow.holds Try.pinned (OpenSpec.upto fnExactSphereSumsSpec)

end Rows
end Go.Proofs.Ytakfeaomdkapaaa
