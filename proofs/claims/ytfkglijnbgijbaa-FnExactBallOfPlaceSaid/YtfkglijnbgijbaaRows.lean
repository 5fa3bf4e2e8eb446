/-
  No cell of these rows narrows 'for every input' (looked for: loops, veiled, ifaces, maps, wideKeys, modest, calm, conditions, laid).
  DERIVED. THE GIVEN ROWS OF THIS SEAT. 12 by the template 'for every input the law returns true; each argument reads behind the call as it read before'; 0 by the template 'total and deterministic' (their statements: YtfkglijnbgijbaaTotals.lean).
  GIVEN WITH THE SEED: the statements are not yours to turn. If you find one false, say at which input.
  Laid BY PROGRAM, IN A SANDBOX (cutbox-rows.mjs): the forced cells as the released guide's own fill.sh prints them over the translation 9b3d0f891102661a… (all of the seat's roots in one cut). By AI agents, Wed Nov 11 2026. No macro, syntax, notation, axiom, sorry.
-/
import Derived.Test.YtfkglijnbgijbaaChecked
import GoSem.Claim
import GoSem.ClaimJoined
import GoSem.ClaimMapViews
import Derived.JoinedTies
import Derived.KernelRfl
namespace Go.Proofs.Ytfkglijnbgijbaa
/- THE CELL 'sum', in the pinned program and in every row, IS THE sha256 OF THE DUMP (.gsa) THAT YtfkglijnbgijbaaProg.lean LOADS. Nothing in Lean hashes anything: it is a label: what it is worth is what the hold of that sum in a sandbox is worth. -/
noncomputable def Try.pinned : Pinned := { name := "ytfkglijnbgijbaa", sum := "9b3d0f891102661a39fa4b515e4879135b33c9e3310f1c26b823c88ca4a3fe11", checked := Try.checked }
namespace Rows
def none {H : Type} : Left H := { results := [], args := [] }

/-- 'laws.FnExactCrossRatio': WHATEVER THE INPUT: true; the input reads as it did. -/
def fnExactCrossRatioSpec : ChangeSpec := { name := "fnExactCrossRatio", fn := fun _ => fun
  | [d1, d2, d3, d4] => { results := [.lit (.bool true)], args := [d1, d2, d3, d4] }
  | _ => none }
def fnExactCrossRatioRow : OpenClaim := { program := "ytfkglijnbgijbaa", sum := "9b3d0f891102661a39fa4b515e4879135b33c9e3310f1c26b823c88ca4a3fe11", func := "loop.example/g01252/laws.FnExactCrossRatio", spec := "fnExactCrossRatio", apart := false }
def FnExactCrossRatioSaid : Prop := fnExactCrossRatioRow.holds Try.pinned (OpenSpec.ofChange fnExactCrossRatioSpec)

/-- ITS FALSE NEIGHBOUR: 'it returns false'. Refute it at one input. -/
def fnExactCrossRatioWrong : ChangeSpec := { name := "fnExactCrossRatio", fn := fun _ => fun
  | [d1, d2, d3, d4] => { results := [.lit (.bool false)], args := [d1, d2, d3, d4] }
  | _ => none }
def FnExactCrossRatioWrongFalsely : Prop := fnExactCrossRatioRow.holds Try.pinned (OpenSpec.ofChange fnExactCrossRatioWrong)

/-- 'laws.FnExactCommonSteps': WHATEVER THE INPUT: true; the input reads as it did. -/
def fnExactCommonStepsSpec : ChangeSpec := { name := "fnExactCommonSteps", fn := fun _ => fun
  | [d1, d2, d3, d4] => { results := [.lit (.bool true)], args := [d1, d2, d3, d4] }
  | _ => none }
def fnExactCommonStepsRow : OpenClaim := { program := "ytfkglijnbgijbaa", sum := "9b3d0f891102661a39fa4b515e4879135b33c9e3310f1c26b823c88ca4a3fe11", func := "loop.example/g01252/laws.FnExactCommonSteps", spec := "fnExactCommonSteps", apart := false }
def FnExactCommonStepsSaid : Prop := fnExactCommonStepsRow.holds Try.pinned (OpenSpec.ofChange fnExactCommonStepsSpec)

/-- ITS FALSE NEIGHBOUR: 'it returns false'. Refute it at one input. -/
def fnExactCommonStepsWrong : ChangeSpec := { name := "fnExactCommonSteps", fn := fun _ => fun
  | [d1, d2, d3, d4] => { results := [.lit (.bool false)], args := [d1, d2, d3, d4] }
  | _ => none }
def FnExactCommonStepsWrongFalsely : Prop := fnExactCommonStepsRow.holds Try.pinned (OpenSpec.ofChange fnExactCommonStepsWrong)

/-- 'laws.FnExactDistanceToLine': WHATEVER THE INPUT: true; the input reads as it did. -/
def fnExactDistanceToLineSpec : ChangeSpec := { name := "fnExactDistanceToLine", fn := fun _ => fun
  | [d1, d2, d3, d4] => { results := [.lit (.bool true)], args := [d1, d2, d3, d4] }
  | _ => none }
def fnExactDistanceToLineRow : OpenClaim := { program := "ytfkglijnbgijbaa", sum := "9b3d0f891102661a39fa4b515e4879135b33c9e3310f1c26b823c88ca4a3fe11", func := "loop.example/g01252/laws.FnExactDistanceToLine", spec := "fnExactDistanceToLine", apart := false }
def FnExactDistanceToLineSaid : Prop := fnExactDistanceToLineRow.holds Try.pinned (OpenSpec.ofChange fnExactDistanceToLineSpec)

/-- ITS FALSE NEIGHBOUR: 'it returns false'. Refute it at one input. -/
def fnExactDistanceToLineWrong : ChangeSpec := { name := "fnExactDistanceToLine", fn := fun _ => fun
  | [d1, d2, d3, d4] => { results := [.lit (.bool false)], args := [d1, d2, d3, d4] }
  | _ => none }
def FnExactDistanceToLineWrongFalsely : Prop := fnExactDistanceToLineRow.holds Try.pinned (OpenSpec.ofChange fnExactDistanceToLineWrong)

/-- 'laws.FnExactPlaceOfBall': WHATEVER THE INPUT: true; the input reads as it did. -/
def fnExactPlaceOfBallSpec : ChangeSpec := { name := "fnExactPlaceOfBall", fn := fun _ => fun
  | [d1, d2, d3] => { results := [.lit (.bool true)], args := [d1, d2, d3] }
  | _ => none }
def fnExactPlaceOfBallRow : OpenClaim := { program := "ytfkglijnbgijbaa", sum := "9b3d0f891102661a39fa4b515e4879135b33c9e3310f1c26b823c88ca4a3fe11", func := "loop.example/g01252/laws.FnExactPlaceOfBall", spec := "fnExactPlaceOfBall", apart := false }
def FnExactPlaceOfBallSaid : Prop := fnExactPlaceOfBallRow.holds Try.pinned (OpenSpec.ofChange fnExactPlaceOfBallSpec)

/-- ITS FALSE NEIGHBOUR: 'it returns false'. Refute it at one input. -/
def fnExactPlaceOfBallWrong : ChangeSpec := { name := "fnExactPlaceOfBall", fn := fun _ => fun
  | [d1, d2, d3] => { results := [.lit (.bool false)], args := [d1, d2, d3] }
  | _ => none }
def FnExactPlaceOfBallWrongFalsely : Prop := fnExactPlaceOfBallRow.holds Try.pinned (OpenSpec.ofChange fnExactPlaceOfBallWrong)

/-- 'laws.FnExactBallOfPlace': WHATEVER THE INPUT: true; the input reads as it did. -/
def fnExactBallOfPlaceSpec : ChangeSpec := { name := "fnExactBallOfPlace", fn := fun _ => fun
  | [d1, d2, d3] => { results := [.lit (.bool true)], args := [d1, d2, d3] }
  | _ => none }
def fnExactBallOfPlaceRow : OpenClaim := { program := "ytfkglijnbgijbaa", sum := "9b3d0f891102661a39fa4b515e4879135b33c9e3310f1c26b823c88ca4a3fe11", func := "loop.example/g01252/laws.FnExactBallOfPlace", spec := "fnExactBallOfPlace", recurses := true, apart := false }
def FnExactBallOfPlaceSaid : Prop := fnExactBallOfPlaceRow.holds Try.pinned (OpenSpec.ofChange fnExactBallOfPlaceSpec)

/-- ITS FALSE NEIGHBOUR: 'it returns false'. Refute it at one input. -/
def fnExactBallOfPlaceWrong : ChangeSpec := { name := "fnExactBallOfPlace", fn := fun _ => fun
  | [d1, d2, d3] => { results := [.lit (.bool false)], args := [d1, d2, d3] }
  | _ => none }
def FnExactBallOfPlaceWrongFalsely : Prop := fnExactBallOfPlaceRow.holds Try.pinned (OpenSpec.ofChange fnExactBallOfPlaceWrong)

/-- 'laws.FnBoundaries': WHATEVER THE INPUT: true; the input reads as it did. -/
def fnBoundariesSpec : ChangeSpec := { name := "fnBoundaries", fn := fun _ => fun
  | [d] => { results := [.lit (.bool true)], args := [d] }
  | _ => none }
def fnBoundariesRow : OpenClaim := { program := "ytfkglijnbgijbaa", sum := "9b3d0f891102661a39fa4b515e4879135b33c9e3310f1c26b823c88ca4a3fe11", func := "loop.example/g01252/laws.FnBoundaries", spec := "fnBoundaries", apart := false }
def FnBoundariesSaid : Prop := fnBoundariesRow.holds Try.pinned (OpenSpec.ofChange fnBoundariesSpec)

/-- ITS FALSE NEIGHBOUR: 'it returns false'. Refute it at one input. -/
def fnBoundariesWrong : ChangeSpec := { name := "fnBoundaries", fn := fun _ => fun
  | [d] => { results := [.lit (.bool false)], args := [d] }
  | _ => none }
def FnBoundariesWrongFalsely : Prop := fnBoundariesRow.holds Try.pinned (OpenSpec.ofChange fnBoundariesWrong)

/-- 'laws.FnExactBranchOf': WHATEVER THE INPUT: true; the input reads as it did. -/
def fnExactBranchOfSpec : ChangeSpec := { name := "fnExactBranchOf", fn := fun _ => fun
  | [d1, d2, d3] => { results := [.lit (.bool true)], args := [d1, d2, d3] }
  | _ => none }
def fnExactBranchOfRow : OpenClaim := { program := "ytfkglijnbgijbaa", sum := "9b3d0f891102661a39fa4b515e4879135b33c9e3310f1c26b823c88ca4a3fe11", func := "loop.example/g01252/laws.FnExactBranchOf", spec := "fnExactBranchOf", named := ["math/bits.divideError", "math/bits.overflowError"], apart := false }
def FnExactBranchOfSaid : Prop := fnExactBranchOfRow.holds Try.pinned (OpenSpec.ofChange fnExactBranchOfSpec)

/-- ITS FALSE NEIGHBOUR: 'it returns false'. Refute it at one input. -/
def fnExactBranchOfWrong : ChangeSpec := { name := "fnExactBranchOf", fn := fun _ => fun
  | [d1, d2, d3] => { results := [.lit (.bool false)], args := [d1, d2, d3] }
  | _ => none }
def FnExactBranchOfWrongFalsely : Prop := fnExactBranchOfRow.holds Try.pinned (OpenSpec.ofChange fnExactBranchOfWrong)

/-- 'laws.FnExactIsOnLine': WHATEVER THE INPUT: true; the input reads as it did. -/
def fnExactIsOnLineSpec : ChangeSpec := { name := "fnExactIsOnLine", fn := fun _ => fun
  | [d1, d2, d3, d4] => { results := [.lit (.bool true)], args := [d1, d2, d3, d4] }
  | _ => none }
def fnExactIsOnLineRow : OpenClaim := { program := "ytfkglijnbgijbaa", sum := "9b3d0f891102661a39fa4b515e4879135b33c9e3310f1c26b823c88ca4a3fe11", func := "loop.example/g01252/laws.FnExactIsOnLine", spec := "fnExactIsOnLine", named := ["math/bits.divideError", "math/bits.overflowError"], apart := false }
def FnExactIsOnLineSaid : Prop := fnExactIsOnLineRow.holds Try.pinned (OpenSpec.ofChange fnExactIsOnLineSpec)

/-- ITS FALSE NEIGHBOUR: 'it returns false'. Refute it at one input. -/
def fnExactIsOnLineWrong : ChangeSpec := { name := "fnExactIsOnLine", fn := fun _ => fun
  | [d1, d2, d3, d4] => { results := [.lit (.bool false)], args := [d1, d2, d3, d4] }
  | _ => none }
def FnExactIsOnLineWrongFalsely : Prop := fnExactIsOnLineRow.holds Try.pinned (OpenSpec.ofChange fnExactIsOnLineWrong)

/-- 'laws.FnExactRegionOf': WHATEVER THE INPUT: true; the input reads as it did. -/
def fnExactRegionOfSpec : ChangeSpec := { name := "fnExactRegionOf", fn := fun _ => fun
  | [d1, d2] => { results := [.lit (.bool true)], args := [d1, d2] }
  | _ => none }
def fnExactRegionOfRow : OpenClaim := { program := "ytfkglijnbgijbaa", sum := "9b3d0f891102661a39fa4b515e4879135b33c9e3310f1c26b823c88ca4a3fe11", func := "loop.example/g01252/laws.FnExactRegionOf", spec := "fnExactRegionOf", apart := false }
def FnExactRegionOfSaid : Prop := fnExactRegionOfRow.holds Try.pinned (OpenSpec.ofChange fnExactRegionOfSpec)

/-- ITS FALSE NEIGHBOUR: 'it returns false'. Refute it at one input. -/
def fnExactRegionOfWrong : ChangeSpec := { name := "fnExactRegionOf", fn := fun _ => fun
  | [d1, d2] => { results := [.lit (.bool false)], args := [d1, d2] }
  | _ => none }
def FnExactRegionOfWrongFalsely : Prop := fnExactRegionOfRow.holds Try.pinned (OpenSpec.ofChange fnExactRegionOfWrong)

/-- 'laws.FnExactApexOf': WHATEVER THE INPUT: true; the input reads as it did. -/
def fnExactApexOfSpec : ChangeSpec := { name := "fnExactApexOf", fn := fun _ => fun
  | [d1, d2, d3] => { results := [.lit (.bool true)], args := [d1, d2, d3] }
  | _ => none }
def fnExactApexOfRow : OpenClaim := { program := "ytfkglijnbgijbaa", sum := "9b3d0f891102661a39fa4b515e4879135b33c9e3310f1c26b823c88ca4a3fe11", func := "loop.example/g01252/laws.FnExactApexOf", spec := "fnExactApexOf", named := ["math/bits.divideError", "math/bits.overflowError"], apart := false }
def FnExactApexOfSaid : Prop := fnExactApexOfRow.holds Try.pinned (OpenSpec.ofChange fnExactApexOfSpec)

/-- ITS FALSE NEIGHBOUR: 'it returns false'. Refute it at one input. -/
def fnExactApexOfWrong : ChangeSpec := { name := "fnExactApexOf", fn := fun _ => fun
  | [d1, d2, d3] => { results := [.lit (.bool false)], args := [d1, d2, d3] }
  | _ => none }
def FnExactApexOfWrongFalsely : Prop := fnExactApexOfRow.holds Try.pinned (OpenSpec.ofChange fnExactApexOfWrong)

/-- 'laws.FnExactNearestOnLine': WHATEVER THE INPUT: true; the input reads as it did. -/
def fnExactNearestOnLineSpec : ChangeSpec := { name := "fnExactNearestOnLine", fn := fun _ => fun
  | [d1, d2, d3, d4] => { results := [.lit (.bool true)], args := [d1, d2, d3, d4] }
  | _ => none }
def fnExactNearestOnLineRow : OpenClaim := { program := "ytfkglijnbgijbaa", sum := "9b3d0f891102661a39fa4b515e4879135b33c9e3310f1c26b823c88ca4a3fe11", func := "loop.example/g01252/laws.FnExactNearestOnLine", spec := "fnExactNearestOnLine", named := ["math/bits.divideError", "math/bits.overflowError"], apart := false }
def FnExactNearestOnLineSaid : Prop := fnExactNearestOnLineRow.holds Try.pinned (OpenSpec.ofChange fnExactNearestOnLineSpec)

/-- ITS FALSE NEIGHBOUR: 'it returns false'. Refute it at one input. -/
def fnExactNearestOnLineWrong : ChangeSpec := { name := "fnExactNearestOnLine", fn := fun _ => fun
  | [d1, d2, d3, d4] => { results := [.lit (.bool false)], args := [d1, d2, d3, d4] }
  | _ => none }
def FnExactNearestOnLineWrongFalsely : Prop := fnExactNearestOnLineRow.holds Try.pinned (OpenSpec.ofChange fnExactNearestOnLineWrong)

/-- 'laws.FnExactRayOf': WHATEVER THE INPUT: true; the input reads as it did. -/
def fnExactRayOfSpec : ChangeSpec := { name := "fnExactRayOf", fn := fun _ => fun
  | [d1, d2, d3, d4] => { results := [.lit (.bool true)], args := [d1, d2, d3, d4] }
  | _ => none }
def fnExactRayOfRow : OpenClaim := { program := "ytfkglijnbgijbaa", sum := "9b3d0f891102661a39fa4b515e4879135b33c9e3310f1c26b823c88ca4a3fe11", func := "loop.example/g01252/laws.FnExactRayOf", spec := "fnExactRayOf", named := ["math/bits.divideError", "math/bits.overflowError"], apart := false }
def FnExactRayOfSaid : Prop := fnExactRayOfRow.holds Try.pinned (OpenSpec.ofChange fnExactRayOfSpec)

/-- ITS FALSE NEIGHBOUR: 'it returns false'. Refute it at one input. -/
def fnExactRayOfWrong : ChangeSpec := { name := "fnExactRayOf", fn := fun _ => fun
  | [d1, d2, d3, d4] => { results := [.lit (.bool false)], args := [d1, d2, d3, d4] }
  | _ => none }
def FnExactRayOfWrongFalsely : Prop := fnExactRayOfRow.holds Try.pinned (OpenSpec.ofChange fnExactRayOfWrong)

/- THE SECOND FORM. 'bulk': how many values and letters a reading holds, each counted each time it is reached (what is shared counts as often as it is met; a slice's spare places count too). A statement '..UptoSaid' is the law's where the arguments, and the package variables that the reading takes, are together of bulk at most 1048576: NARROWER than '..Said'. Prove '..Said' where nothing that the law and all that it calls make is longer than what came in: it says more and counts as full. Else prove '..UptoSaid'. A law counts once. -/
mutual
def uptoBulk {H : Type} : DataW H → Nat
  | .lit (.string bytes) => bytes.length + 1
  | .lit _ => 1
  | .nil => 1
  | .ptr d => uptoBulk d + 1
  | .slice elems spare => uptoBulkAll elems + uptoBulkAll spare + 1
  | .agg parts => uptoBulkAll parts + 1
  | .iface _ d => uptoBulk d + 1
  | .map entries => uptoBulkEntries entries + 1
  | .held _ => 1
def uptoBulkAll {H : Type} : List (DataW H) → Nat
  | [] => 0
  | d :: r => uptoBulk d + uptoBulkAll r
def uptoBulkEntries {H : Type} : List (Lit × DataW H) → Nat
  | [] => 0
  | x :: r => uptoBulkEntry x + uptoBulkEntries r
def uptoBulkEntry {H : Type} : Lit × DataW H → Nat
  | (.string bytes, d) => bytes.length + uptoBulk d + 1
  | (_, d) => uptoBulk d + 1
 end
def uptoSmall : (H : Type) → List (DataW H) → Bool := fun _ ds => decide (uptoBulkAll ds ≤ 1048576)
def OpenSpec.upto (s : _root_.Go.ChangeSpec) : _root_.Go.OpenSpec := { _root_.Go.OpenSpec.ofChange s with cond := some uptoSmall }

/-- 'laws.FnExactCrossRatio', WHERE WHAT IT READS IS OF BULK AT MOST 1048576: true; the input reads as it did. -/
def fnExactCrossRatioUptoRow : OpenClaim := { program := "ytfkglijnbgijbaa", sum := "9b3d0f891102661a39fa4b515e4879135b33c9e3310f1c26b823c88ca4a3fe11", func := "loop.example/g01252/laws.FnExactCrossRatio", spec := "fnExactCrossRatio", apart := false, narrowed := true }
def FnExactCrossRatioUptoSaid : Prop := fnExactCrossRatioUptoRow.holds Try.pinned (OpenSpec.upto fnExactCrossRatioSpec)

/-- 'laws.FnExactCommonSteps', WHERE WHAT IT READS IS OF BULK AT MOST 1048576: true; the input reads as it did. -/
def fnExactCommonStepsUptoRow : OpenClaim := { program := "ytfkglijnbgijbaa", sum := "9b3d0f891102661a39fa4b515e4879135b33c9e3310f1c26b823c88ca4a3fe11", func := "loop.example/g01252/laws.FnExactCommonSteps", spec := "fnExactCommonSteps", apart := false, narrowed := true }
def FnExactCommonStepsUptoSaid : Prop := fnExactCommonStepsUptoRow.holds Try.pinned (OpenSpec.upto fnExactCommonStepsSpec)

/-- 'laws.FnExactDistanceToLine', WHERE WHAT IT READS IS OF BULK AT MOST 1048576: true; the input reads as it did. -/
def fnExactDistanceToLineUptoRow : OpenClaim := { program := "ytfkglijnbgijbaa", sum := "9b3d0f891102661a39fa4b515e4879135b33c9e3310f1c26b823c88ca4a3fe11", func := "loop.example/g01252/laws.FnExactDistanceToLine", spec := "fnExactDistanceToLine", apart := false, narrowed := true }
def FnExactDistanceToLineUptoSaid : Prop := fnExactDistanceToLineUptoRow.holds Try.pinned (OpenSpec.upto fnExactDistanceToLineSpec)

/-- 'laws.FnExactPlaceOfBall', WHERE WHAT IT READS IS OF BULK AT MOST 1048576: true; the input reads as it did. -/
def fnExactPlaceOfBallUptoRow : OpenClaim := { program := "ytfkglijnbgijbaa", sum := "9b3d0f891102661a39fa4b515e4879135b33c9e3310f1c26b823c88ca4a3fe11", func := "loop.example/g01252/laws.FnExactPlaceOfBall", spec := "fnExactPlaceOfBall", apart := false, narrowed := true }
def FnExactPlaceOfBallUptoSaid : Prop := fnExactPlaceOfBallUptoRow.holds Try.pinned (OpenSpec.upto fnExactPlaceOfBallSpec)

/-- 'laws.FnExactBallOfPlace', WHERE WHAT IT READS IS OF BULK AT MOST 1048576: true; the input reads as it did. -/
def fnExactBallOfPlaceUptoRow : OpenClaim := { program := "ytfkglijnbgijbaa", sum := "9b3d0f891102661a39fa4b515e4879135b33c9e3310f1c26b823c88ca4a3fe11", func := "loop.example/g01252/laws.FnExactBallOfPlace", spec := "fnExactBallOfPlace", recurses := true, apart := false, narrowed := true }
def FnExactBallOfPlaceUptoSaid : Prop := fnExactBallOfPlaceUptoRow.holds Try.pinned (OpenSpec.upto fnExactBallOfPlaceSpec)

/-- 'laws.FnBoundaries', WHERE WHAT IT READS IS OF BULK AT MOST 1048576: true; the input reads as it did. -/
def fnBoundariesUptoRow : OpenClaim := { program := "ytfkglijnbgijbaa", sum := "9b3d0f891102661a39fa4b515e4879135b33c9e3310f1c26b823c88ca4a3fe11", func := "loop.example/g01252/laws.FnBoundaries", spec := "fnBoundaries", apart := false, narrowed := true }
def FnBoundariesUptoSaid : Prop := fnBoundariesUptoRow.holds Try.pinned (OpenSpec.upto fnBoundariesSpec)

/-- 'laws.FnExactBranchOf', WHERE WHAT IT READS IS OF BULK AT MOST 1048576: true; the input reads as it did. -/
def fnExactBranchOfUptoRow : OpenClaim := { program := "ytfkglijnbgijbaa", sum := "9b3d0f891102661a39fa4b515e4879135b33c9e3310f1c26b823c88ca4a3fe11", func := "loop.example/g01252/laws.FnExactBranchOf", spec := "fnExactBranchOf", named := ["math/bits.divideError", "math/bits.overflowError"], apart := false, narrowed := true }
def FnExactBranchOfUptoSaid : Prop := fnExactBranchOfUptoRow.holds Try.pinned (OpenSpec.upto fnExactBranchOfSpec)

/-- 'laws.FnExactIsOnLine', WHERE WHAT IT READS IS OF BULK AT MOST 1048576: true; the input reads as it did. -/
def fnExactIsOnLineUptoRow : OpenClaim := { program := "ytfkglijnbgijbaa", sum := "9b3d0f891102661a39fa4b515e4879135b33c9e3310f1c26b823c88ca4a3fe11", func := "loop.example/g01252/laws.FnExactIsOnLine", spec := "fnExactIsOnLine", named := ["math/bits.divideError", "math/bits.overflowError"], apart := false, narrowed := true }
def FnExactIsOnLineUptoSaid : Prop := fnExactIsOnLineUptoRow.holds Try.pinned (OpenSpec.upto fnExactIsOnLineSpec)

/-- 'laws.FnExactRegionOf', WHERE WHAT IT READS IS OF BULK AT MOST 1048576: true; the input reads as it did. -/
def fnExactRegionOfUptoRow : OpenClaim := { program := "ytfkglijnbgijbaa", sum := "9b3d0f891102661a39fa4b515e4879135b33c9e3310f1c26b823c88ca4a3fe11", func := "loop.example/g01252/laws.FnExactRegionOf", spec := "fnExactRegionOf", apart := false, narrowed := true }
def FnExactRegionOfUptoSaid : Prop := fnExactRegionOfUptoRow.holds Try.pinned (OpenSpec.upto fnExactRegionOfSpec)

/-- 'laws.FnExactApexOf', WHERE WHAT IT READS IS OF BULK AT MOST 1048576: true; the input reads as it did. -/
def fnExactApexOfUptoRow : OpenClaim := { program := "ytfkglijnbgijbaa", sum := "9b3d0f891102661a39fa4b515e4879135b33c9e3310f1c26b823c88ca4a3fe11", func := "loop.example/g01252/laws.FnExactApexOf", spec := "fnExactApexOf", named := ["math/bits.divideError", "math/bits.overflowError"], apart := false, narrowed := true }
def FnExactApexOfUptoSaid : Prop := fnExactApexOfUptoRow.holds Try.pinned (OpenSpec.upto fnExactApexOfSpec)

/-- 'laws.FnExactNearestOnLine', WHERE WHAT IT READS IS OF BULK AT MOST 1048576: true; the input reads as it did. -/
def fnExactNearestOnLineUptoRow : OpenClaim := { program := "ytfkglijnbgijbaa", sum := "9b3d0f891102661a39fa4b515e4879135b33c9e3310f1c26b823c88ca4a3fe11", func := "loop.example/g01252/laws.FnExactNearestOnLine", spec := "fnExactNearestOnLine", named := ["math/bits.divideError", "math/bits.overflowError"], apart := false, narrowed := true }
def FnExactNearestOnLineUptoSaid : Prop := fnExactNearestOnLineUptoRow.holds Try.pinned (OpenSpec.upto fnExactNearestOnLineSpec)

/-- 'laws.FnExactRayOf', WHERE WHAT IT READS IS OF BULK AT MOST 1048576: true; the input reads as it did. -/
def fnExactRayOfUptoRow : OpenClaim := { program := "ytfkglijnbgijbaa", sum := "9b3d0f891102661a39fa4b515e4879135b33c9e3310f1c26b823c88ca4a3fe11", func := "loop.example/g01252/laws.FnExactRayOf", spec := "fnExactRayOf", named := ["math/bits.divideError", "math/bits.overflowError"], apart := false, narrowed := true }
def FnExactRayOfUptoSaid : Prop := fnExactRayOfUptoRow.holds Try.pinned (OpenSpec.upto fnExactRayOfSpec)

end Rows
end Go.Proofs.Ytfkglijnbgijbaa
