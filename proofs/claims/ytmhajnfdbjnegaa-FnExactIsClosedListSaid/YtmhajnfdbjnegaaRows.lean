/-
  No cell of these rows narrows 'for every input' (looked for: loops, veiled, ifaces, maps, wideKeys, modest, calm, conditions, laid).
  DERIVED. THE GIVEN ROWS OF THIS SEAT. 12 by the template 'for every input the law returns true; each argument reads behind the call as it read before'; 0 by the template 'total and deterministic' (their statements: YtmhajnfdbjnegaaTotals.lean).
  GIVEN WITH THE SEED: the statements are not yours to turn. If you find one false, say at which input.
  Laid BY PROGRAM, IN A SANDBOX (cutbox-rows.mjs): the forced cells as the released guide's own fill.sh prints them over the translation a0b1849f339ce0aa… (all of the seat's roots in one cut). By AI agents, Wed Nov 11 2026. No macro, syntax, notation, axiom, sorry.
-/
import Derived.Test.YtmhajnfdbjnegaaChecked
import GoSem.Claim
import GoSem.ClaimJoined
import GoSem.ClaimMapViews
import Derived.JoinedTies
import Derived.KernelRfl
namespace Go.Proofs.Ytmhajnfdbjnegaa
/- THE CELL 'sum', in the pinned program and in every row, IS THE sha256 OF THE DUMP (.gsa) THAT YtmhajnfdbjnegaaProg.lean LOADS. Nothing in Lean hashes anything: it is a label: what it is worth is what the hold of that sum in a sandbox is worth. -/
noncomputable def Try.pinned : Pinned := { name := "ytmhajnfdbjnegaa", sum := "a0b1849f339ce0aaebc7857a34687c6588c3a6211debe3d2d81f475e6c552d8f", checked := Try.checked }
namespace Rows
def none {H : Type} : Left H := { results := [], args := [] }

/-- 'laws.FnExactIsMatrix': WHATEVER THE INPUT: true; the input reads as it did. -/
def fnExactIsMatrixSpec : ChangeSpec := { name := "fnExactIsMatrix", fn := fun _ => fun
  | [d] => { results := [.lit (.bool true)], args := [d] }
  | _ => none }
def fnExactIsMatrixRow : OpenClaim := { program := "ytmhajnfdbjnegaa", sum := "a0b1849f339ce0aaebc7857a34687c6588c3a6211debe3d2d81f475e6c552d8f", func := "loop.example/g01252/laws.FnExactIsMatrix", spec := "fnExactIsMatrix", apart := false }
def FnExactIsMatrixSaid : Prop := fnExactIsMatrixRow.holds Try.pinned (OpenSpec.ofChange fnExactIsMatrixSpec)

/-- ITS FALSE NEIGHBOUR: 'it returns false'. Refute it at one input. -/
def fnExactIsMatrixWrong : ChangeSpec := { name := "fnExactIsMatrix", fn := fun _ => fun
  | [d] => { results := [.lit (.bool false)], args := [d] }
  | _ => none }
def FnExactIsMatrixWrongFalsely : Prop := fnExactIsMatrixRow.holds Try.pinned (OpenSpec.ofChange fnExactIsMatrixWrong)

/-- 'laws.FnExactAreSameMatrices': WHATEVER THE INPUT: true; the input reads as it did. -/
def fnExactAreSameMatricesSpec : ChangeSpec := { name := "fnExactAreSameMatrices", fn := fun _ => fun
  | [d1, d2] => { results := [.lit (.bool true)], args := [d1, d2] }
  | _ => none }
def fnExactAreSameMatricesRow : OpenClaim := { program := "ytmhajnfdbjnegaa", sum := "a0b1849f339ce0aaebc7857a34687c6588c3a6211debe3d2d81f475e6c552d8f", func := "loop.example/g01252/laws.FnExactAreSameMatrices", spec := "fnExactAreSameMatrices", apart := false }
def FnExactAreSameMatricesSaid : Prop := fnExactAreSameMatricesRow.holds Try.pinned (OpenSpec.ofChange fnExactAreSameMatricesSpec)

/-- ITS FALSE NEIGHBOUR: 'it returns false'. Refute it at one input. -/
def fnExactAreSameMatricesWrong : ChangeSpec := { name := "fnExactAreSameMatrices", fn := fun _ => fun
  | [d1, d2] => { results := [.lit (.bool false)], args := [d1, d2] }
  | _ => none }
def FnExactAreSameMatricesWrongFalsely : Prop := fnExactAreSameMatricesRow.holds Try.pinned (OpenSpec.ofChange fnExactAreSameMatricesWrong)

/-- 'laws.FnExactReduceMatrix': WHATEVER THE INPUT: true; the input reads as it did. -/
def fnExactReduceMatrixSpec : ChangeSpec := { name := "fnExactReduceMatrix", fn := fun _ => fun
  | [d] => { results := [.lit (.bool true)], args := [d] }
  | _ => none }
def fnExactReduceMatrixRow : OpenClaim := { program := "ytmhajnfdbjnegaa", sum := "a0b1849f339ce0aaebc7857a34687c6588c3a6211debe3d2d81f475e6c552d8f", func := "loop.example/g01252/laws.FnExactReduceMatrix", spec := "fnExactReduceMatrix", apart := false }
def FnExactReduceMatrixSaid : Prop := fnExactReduceMatrixRow.holds Try.pinned (OpenSpec.ofChange fnExactReduceMatrixSpec)

/-- ITS FALSE NEIGHBOUR: 'it returns false'. Refute it at one input. -/
def fnExactReduceMatrixWrong : ChangeSpec := { name := "fnExactReduceMatrix", fn := fun _ => fun
  | [d] => { results := [.lit (.bool false)], args := [d] }
  | _ => none }
def FnExactReduceMatrixWrongFalsely : Prop := fnExactReduceMatrixRow.holds Try.pinned (OpenSpec.ofChange fnExactReduceMatrixWrong)

/-- 'laws.FnExactInverseMatrix': WHATEVER THE INPUT: true; the input reads as it did. -/
def fnExactInverseMatrixSpec : ChangeSpec := { name := "fnExactInverseMatrix", fn := fun _ => fun
  | [d] => { results := [.lit (.bool true)], args := [d] }
  | _ => none }
def fnExactInverseMatrixRow : OpenClaim := { program := "ytmhajnfdbjnegaa", sum := "a0b1849f339ce0aaebc7857a34687c6588c3a6211debe3d2d81f475e6c552d8f", func := "loop.example/g01252/laws.FnExactInverseMatrix", spec := "fnExactInverseMatrix", apart := false }
def FnExactInverseMatrixSaid : Prop := fnExactInverseMatrixRow.holds Try.pinned (OpenSpec.ofChange fnExactInverseMatrixSpec)

/-- ITS FALSE NEIGHBOUR: 'it returns false'. Refute it at one input. -/
def fnExactInverseMatrixWrong : ChangeSpec := { name := "fnExactInverseMatrix", fn := fun _ => fun
  | [d] => { results := [.lit (.bool false)], args := [d] }
  | _ => none }
def FnExactInverseMatrixWrongFalsely : Prop := fnExactInverseMatrixRow.holds Try.pinned (OpenSpec.ofChange fnExactInverseMatrixWrong)

/-- 'laws.FnExactKindOf': WHATEVER THE INPUT: true; the input reads as it did. -/
def fnExactKindOfSpec : ChangeSpec := { name := "fnExactKindOf", fn := fun _ => fun
  | [d1, d2] => { results := [.lit (.bool true)], args := [d1, d2] }
  | _ => none }
def fnExactKindOfRow : OpenClaim := { program := "ytmhajnfdbjnegaa", sum := "a0b1849f339ce0aaebc7857a34687c6588c3a6211debe3d2d81f475e6c552d8f", func := "loop.example/g01252/laws.FnExactKindOf", spec := "fnExactKindOf", apart := false }
def FnExactKindOfSaid : Prop := fnExactKindOfRow.holds Try.pinned (OpenSpec.ofChange fnExactKindOfSpec)

/-- ITS FALSE NEIGHBOUR: 'it returns false'. Refute it at one input. -/
def fnExactKindOfWrong : ChangeSpec := { name := "fnExactKindOf", fn := fun _ => fun
  | [d1, d2] => { results := [.lit (.bool false)], args := [d1, d2] }
  | _ => none }
def FnExactKindOfWrongFalsely : Prop := fnExactKindOfRow.holds Try.pinned (OpenSpec.ofChange fnExactKindOfWrong)

/-- 'laws.FnExactLengthOf': WHATEVER THE INPUT: true; the input reads as it did. -/
def fnExactLengthOfSpec : ChangeSpec := { name := "fnExactLengthOf", fn := fun _ => fun
  | [d1, d2] => { results := [.lit (.bool true)], args := [d1, d2] }
  | _ => none }
def fnExactLengthOfRow : OpenClaim := { program := "ytmhajnfdbjnegaa", sum := "a0b1849f339ce0aaebc7857a34687c6588c3a6211debe3d2d81f475e6c552d8f", func := "loop.example/g01252/laws.FnExactLengthOf", spec := "fnExactLengthOf", apart := false }
def FnExactLengthOfSaid : Prop := fnExactLengthOfRow.holds Try.pinned (OpenSpec.ofChange fnExactLengthOfSpec)

/-- ITS FALSE NEIGHBOUR: 'it returns false'. Refute it at one input. -/
def fnExactLengthOfWrong : ChangeSpec := { name := "fnExactLengthOf", fn := fun _ => fun
  | [d1, d2] => { results := [.lit (.bool false)], args := [d1, d2] }
  | _ => none }
def FnExactLengthOfWrongFalsely : Prop := fnExactLengthOfRow.holds Try.pinned (OpenSpec.ofChange fnExactLengthOfWrong)

/-- 'laws.FnExactMoveEnd': WHATEVER THE INPUT: true; the input reads as it did. -/
def fnExactMoveEndSpec : ChangeSpec := { name := "fnExactMoveEnd", fn := fun _ => fun
  | [d1, d2] => { results := [.lit (.bool true)], args := [d1, d2] }
  | _ => none }
def fnExactMoveEndRow : OpenClaim := { program := "ytmhajnfdbjnegaa", sum := "a0b1849f339ce0aaebc7857a34687c6588c3a6211debe3d2d81f475e6c552d8f", func := "loop.example/g01252/laws.FnExactMoveEnd", spec := "fnExactMoveEnd", apart := false }
def FnExactMoveEndSaid : Prop := fnExactMoveEndRow.holds Try.pinned (OpenSpec.ofChange fnExactMoveEndSpec)

/-- ITS FALSE NEIGHBOUR: 'it returns false'. Refute it at one input. -/
def fnExactMoveEndWrong : ChangeSpec := { name := "fnExactMoveEnd", fn := fun _ => fun
  | [d1, d2] => { results := [.lit (.bool false)], args := [d1, d2] }
  | _ => none }
def FnExactMoveEndWrongFalsely : Prop := fnExactMoveEndRow.holds Try.pinned (OpenSpec.ofChange fnExactMoveEndWrong)

/-- 'laws.FnExactMultiplyMatrices': WHATEVER THE INPUT: true; the input reads as it did. -/
def fnExactMultiplyMatricesSpec : ChangeSpec := { name := "fnExactMultiplyMatrices", fn := fun _ => fun
  | [d1, d2] => { results := [.lit (.bool true)], args := [d1, d2] }
  | _ => none }
def fnExactMultiplyMatricesRow : OpenClaim := { program := "ytmhajnfdbjnegaa", sum := "a0b1849f339ce0aaebc7857a34687c6588c3a6211debe3d2d81f475e6c552d8f", func := "loop.example/g01252/laws.FnExactMultiplyMatrices", spec := "fnExactMultiplyMatrices", apart := false }
def FnExactMultiplyMatricesSaid : Prop := fnExactMultiplyMatricesRow.holds Try.pinned (OpenSpec.ofChange fnExactMultiplyMatricesSpec)

/-- ITS FALSE NEIGHBOUR: 'it returns false'. Refute it at one input. -/
def fnExactMultiplyMatricesWrong : ChangeSpec := { name := "fnExactMultiplyMatrices", fn := fun _ => fun
  | [d1, d2] => { results := [.lit (.bool false)], args := [d1, d2] }
  | _ => none }
def FnExactMultiplyMatricesWrongFalsely : Prop := fnExactMultiplyMatricesRow.holds Try.pinned (OpenSpec.ofChange fnExactMultiplyMatricesWrong)

/-- 'laws.FnExactIsClosedList': WHATEVER THE INPUT: true; the input reads as it did. -/
def fnExactIsClosedListSpec : ChangeSpec := { name := "fnExactIsClosedList", fn := fun _ => fun
  | [d] => { results := [.lit (.bool true)], args := [d] }
  | _ => none }
def fnExactIsClosedListRow : OpenClaim := { program := "ytmhajnfdbjnegaa", sum := "a0b1849f339ce0aaebc7857a34687c6588c3a6211debe3d2d81f475e6c552d8f", func := "loop.example/g01252/laws.FnExactIsClosedList", spec := "fnExactIsClosedList", apart := false }
def FnExactIsClosedListSaid : Prop := fnExactIsClosedListRow.holds Try.pinned (OpenSpec.ofChange fnExactIsClosedListSpec)

/-- ITS FALSE NEIGHBOUR: 'it returns false'. Refute it at one input. -/
def fnExactIsClosedListWrong : ChangeSpec := { name := "fnExactIsClosedList", fn := fun _ => fun
  | [d] => { results := [.lit (.bool false)], args := [d] }
  | _ => none }
def FnExactIsClosedListWrongFalsely : Prop := fnExactIsClosedListRow.holds Try.pinned (OpenSpec.ofChange fnExactIsClosedListWrong)

/-- 'laws.FnExactMoveBall': WHATEVER THE INPUT: true; the input reads as it did. -/
def fnExactMoveBallSpec : ChangeSpec := { name := "fnExactMoveBall", fn := fun _ => fun
  | [d1, d2, d3] => { results := [.lit (.bool true)], args := [d1, d2, d3] }
  | _ => none }
def fnExactMoveBallRow : OpenClaim := { program := "ytmhajnfdbjnegaa", sum := "a0b1849f339ce0aaebc7857a34687c6588c3a6211debe3d2d81f475e6c552d8f", func := "loop.example/g01252/laws.FnExactMoveBall", spec := "fnExactMoveBall", named := ["math/bits.divideError", "math/bits.overflowError"], apart := false }
def FnExactMoveBallSaid : Prop := fnExactMoveBallRow.holds Try.pinned (OpenSpec.ofChange fnExactMoveBallSpec)

/-- ITS FALSE NEIGHBOUR: 'it returns false'. Refute it at one input. -/
def fnExactMoveBallWrong : ChangeSpec := { name := "fnExactMoveBall", fn := fun _ => fun
  | [d1, d2, d3] => { results := [.lit (.bool false)], args := [d1, d2, d3] }
  | _ => none }
def FnExactMoveBallWrongFalsely : Prop := fnExactMoveBallRow.holds Try.pinned (OpenSpec.ofChange fnExactMoveBallWrong)

/-- 'laws.FnExactDisplacementOf': WHATEVER THE INPUT: true; the input reads as it did. -/
def fnExactDisplacementOfSpec : ChangeSpec := { name := "fnExactDisplacementOf", fn := fun _ => fun
  | [d1, d2, d3] => { results := [.lit (.bool true)], args := [d1, d2, d3] }
  | _ => none }
def fnExactDisplacementOfRow : OpenClaim := { program := "ytmhajnfdbjnegaa", sum := "a0b1849f339ce0aaebc7857a34687c6588c3a6211debe3d2d81f475e6c552d8f", func := "loop.example/g01252/laws.FnExactDisplacementOf", spec := "fnExactDisplacementOf", named := ["math/bits.divideError", "math/bits.overflowError"], apart := false }
def FnExactDisplacementOfSaid : Prop := fnExactDisplacementOfRow.holds Try.pinned (OpenSpec.ofChange fnExactDisplacementOfSpec)

/-- ITS FALSE NEIGHBOUR: 'it returns false'. Refute it at one input. -/
def fnExactDisplacementOfWrong : ChangeSpec := { name := "fnExactDisplacementOf", fn := fun _ => fun
  | [d1, d2, d3] => { results := [.lit (.bool false)], args := [d1, d2, d3] }
  | _ => none }
def FnExactDisplacementOfWrongFalsely : Prop := fnExactDisplacementOfRow.holds Try.pinned (OpenSpec.ofChange fnExactDisplacementOfWrong)

/-- 'laws.FnExactStabiliserIn': WHATEVER THE INPUT: true; the input reads as it did. -/
def fnExactStabiliserInSpec : ChangeSpec := { name := "fnExactStabiliserIn", fn := fun _ => fun
  | [d1, d2, d3] => { results := [.lit (.bool true)], args := [d1, d2, d3] }
  | _ => none }
def fnExactStabiliserInRow : OpenClaim := { program := "ytmhajnfdbjnegaa", sum := "a0b1849f339ce0aaebc7857a34687c6588c3a6211debe3d2d81f475e6c552d8f", func := "loop.example/g01252/laws.FnExactStabiliserIn", spec := "fnExactStabiliserIn", named := ["math/bits.divideError", "math/bits.overflowError"], apart := false }
def FnExactStabiliserInSaid : Prop := fnExactStabiliserInRow.holds Try.pinned (OpenSpec.ofChange fnExactStabiliserInSpec)

/-- ITS FALSE NEIGHBOUR: 'it returns false'. Refute it at one input. -/
def fnExactStabiliserInWrong : ChangeSpec := { name := "fnExactStabiliserIn", fn := fun _ => fun
  | [d1, d2, d3] => { results := [.lit (.bool false)], args := [d1, d2, d3] }
  | _ => none }
def FnExactStabiliserInWrongFalsely : Prop := fnExactStabiliserInRow.holds Try.pinned (OpenSpec.ofChange fnExactStabiliserInWrong)

/- THE SECOND FORM. 'bulk': how many values and letters a reading holds, each counted each time it is reached (what is shared counts as often as it is met; a slice's spare places count too). A statement '..UptoSaid' is the law's where the arguments, and the package variables that the reading takes, are together of bulk at most 1048576: NARROWER than '..Said'. Prove '..Said' where nothing that the law and all that it calls make is longer than what came in: it says more and counts as full. Else prove '..UptoSaid'. A law counts once. -/
mutual
def uptoBulk {H : Type} : DataW H → Nat
  | .lit (.string bytes) => bytes.length + 1
  | .lit _ => 1
  | .nil => 1
  | .ptr d => uptoBulk d + 1
  | .slice elems spare => uptoBulkAll elems + uptoBulkAll spare + 1
  | .agg parts => uptoBulkAll parts + 1
  | .iface _ d => uptoBulk d + 1
  | .map entries => uptoBulkEntries entries + 1
  | .held _ => 1
def uptoBulkAll {H : Type} : List (DataW H) → Nat
  | [] => 0
  | d :: r => uptoBulk d + uptoBulkAll r
def uptoBulkEntries {H : Type} : List (Lit × DataW H) → Nat
  | [] => 0
  | x :: r => uptoBulkEntry x + uptoBulkEntries r
def uptoBulkEntry {H : Type} : Lit × DataW H → Nat
  | (.string bytes, d) => bytes.length + uptoBulk d + 1
  | (_, d) => uptoBulk d + 1
 end
def uptoSmall : (H : Type) → List (DataW H) → Bool := fun _ ds => decide (uptoBulkAll ds ≤ 1048576)
def OpenSpec.upto (s : _root_.Go.ChangeSpec) : _root_.Go.OpenSpec := { _root_.Go.OpenSpec.ofChange s with cond := some uptoSmall }

/-- 'laws.FnExactIsMatrix', WHERE WHAT IT READS IS OF BULK AT MOST 1048576: true; the input reads as it did. -/
def fnExactIsMatrixUptoRow : OpenClaim := { program := "ytmhajnfdbjnegaa", sum := "a0b1849f339ce0aaebc7857a34687c6588c3a6211debe3d2d81f475e6c552d8f", func := "loop.example/g01252/laws.FnExactIsMatrix", spec := "fnExactIsMatrix", apart := false, narrowed := true }
def FnExactIsMatrixUptoSaid : Prop := fnExactIsMatrixUptoRow.holds Try.pinned (OpenSpec.upto fnExactIsMatrixSpec)

/-- 'laws.FnExactAreSameMatrices', WHERE WHAT IT READS IS OF BULK AT MOST 1048576: true; the input reads as it did. -/
def fnExactAreSameMatricesUptoRow : OpenClaim := { program := "ytmhajnfdbjnegaa", sum := "a0b1849f339ce0aaebc7857a34687c6588c3a6211debe3d2d81f475e6c552d8f", func := "loop.example/g01252/laws.FnExactAreSameMatrices", spec := "fnExactAreSameMatrices", apart := false, narrowed := true }
def FnExactAreSameMatricesUptoSaid : Prop := fnExactAreSameMatricesUptoRow.holds Try.pinned (OpenSpec.upto fnExactAreSameMatricesSpec)

/-- 'laws.FnExactReduceMatrix', WHERE WHAT IT READS IS OF BULK AT MOST 1048576: true; the input reads as it did. -/
def fnExactReduceMatrixUptoRow : OpenClaim := { program := "ytmhajnfdbjnegaa", sum := "a0b1849f339ce0aaebc7857a34687c6588c3a6211debe3d2d81f475e6c552d8f", func := "loop.example/g01252/laws.FnExactReduceMatrix", spec := "fnExactReduceMatrix", apart := false, narrowed := true }
def FnExactReduceMatrixUptoSaid : Prop := fnExactReduceMatrixUptoRow.holds Try.pinned (OpenSpec.upto fnExactReduceMatrixSpec)

/-- 'laws.FnExactInverseMatrix', WHERE WHAT IT READS IS OF BULK AT MOST 1048576: true; the input reads as it did. -/
def fnExactInverseMatrixUptoRow : OpenClaim := { program := "ytmhajnfdbjnegaa", sum := "a0b1849f339ce0aaebc7857a34687c6588c3a6211debe3d2d81f475e6c552d8f", func := "loop.example/g01252/laws.FnExactInverseMatrix", spec := "fnExactInverseMatrix", apart := false, narrowed := true }
def FnExactInverseMatrixUptoSaid : Prop := fnExactInverseMatrixUptoRow.holds Try.pinned (OpenSpec.upto fnExactInverseMatrixSpec)

/-- 'laws.FnExactKindOf', WHERE WHAT IT READS IS OF BULK AT MOST 1048576: true; the input reads as it did. -/
def fnExactKindOfUptoRow : OpenClaim := { program := "ytmhajnfdbjnegaa", sum := "a0b1849f339ce0aaebc7857a34687c6588c3a6211debe3d2d81f475e6c552d8f", func := "loop.example/g01252/laws.FnExactKindOf", spec := "fnExactKindOf", apart := false, narrowed := true }
def FnExactKindOfUptoSaid : Prop := fnExactKindOfUptoRow.holds Try.pinned (OpenSpec.upto fnExactKindOfSpec)

/-- 'laws.FnExactLengthOf', WHERE WHAT IT READS IS OF BULK AT MOST 1048576: true; the input reads as it did. -/
def fnExactLengthOfUptoRow : OpenClaim := { program := "ytmhajnfdbjnegaa", sum := "a0b1849f339ce0aaebc7857a34687c6588c3a6211debe3d2d81f475e6c552d8f", func := "loop.example/g01252/laws.FnExactLengthOf", spec := "fnExactLengthOf", apart := false, narrowed := true }
def FnExactLengthOfUptoSaid : Prop := fnExactLengthOfUptoRow.holds Try.pinned (OpenSpec.upto fnExactLengthOfSpec)

/-- 'laws.FnExactMoveEnd', WHERE WHAT IT READS IS OF BULK AT MOST 1048576: true; the input reads as it did. -/
def fnExactMoveEndUptoRow : OpenClaim := { program := "ytmhajnfdbjnegaa", sum := "a0b1849f339ce0aaebc7857a34687c6588c3a6211debe3d2d81f475e6c552d8f", func := "loop.example/g01252/laws.FnExactMoveEnd", spec := "fnExactMoveEnd", apart := false, narrowed := true }
def FnExactMoveEndUptoSaid : Prop := fnExactMoveEndUptoRow.holds Try.pinned (OpenSpec.upto fnExactMoveEndSpec)

/-- 'laws.FnExactMultiplyMatrices', WHERE WHAT IT READS IS OF BULK AT MOST 1048576: true; the input reads as it did. -/
def fnExactMultiplyMatricesUptoRow : OpenClaim := { program := "ytmhajnfdbjnegaa", sum := "a0b1849f339ce0aaebc7857a34687c6588c3a6211debe3d2d81f475e6c552d8f", func := "loop.example/g01252/laws.FnExactMultiplyMatrices", spec := "fnExactMultiplyMatrices", apart := false, narrowed := true }
def FnExactMultiplyMatricesUptoSaid : Prop := fnExactMultiplyMatricesUptoRow.holds Try.pinned (OpenSpec.upto fnExactMultiplyMatricesSpec)

/-- 'laws.FnExactIsClosedList', WHERE WHAT IT READS IS OF BULK AT MOST 1048576: true; the input reads as it did. -/
def fnExactIsClosedListUptoRow : OpenClaim := { program := "ytmhajnfdbjnegaa", sum := "a0b1849f339ce0aaebc7857a34687c6588c3a6211debe3d2d81f475e6c552d8f", func := "loop.example/g01252/laws.FnExactIsClosedList", spec := "fnExactIsClosedList", apart := false, narrowed := true }
def FnExactIsClosedListUptoSaid : Prop := fnExactIsClosedListUptoRow.holds Try.pinned (OpenSpec.upto fnExactIsClosedListSpec)

/-- 'laws.FnExactMoveBall', WHERE WHAT IT READS IS OF BULK AT MOST 1048576: true; the input reads as it did. -/
def fnExactMoveBallUptoRow : OpenClaim := { program := "ytmhajnfdbjnegaa", sum := "a0b1849f339ce0aaebc7857a34687c6588c3a6211debe3d2d81f475e6c552d8f", func := "loop.example/g01252/laws.FnExactMoveBall", spec := "fnExactMoveBall", named := ["math/bits.divideError", "math/bits.overflowError"], apart := false, narrowed := true }
def FnExactMoveBallUptoSaid : Prop := fnExactMoveBallUptoRow.holds Try.pinned (OpenSpec.upto fnExactMoveBallSpec)

/-- 'laws.FnExactDisplacementOf', WHERE WHAT IT READS IS OF BULK AT MOST 1048576: true; the input reads as it did. -/
def fnExactDisplacementOfUptoRow : OpenClaim := { program := "ytmhajnfdbjnegaa", sum := "a0b1849f339ce0aaebc7857a34687c6588c3a6211debe3d2d81f475e6c552d8f", func := "loop.example/g01252/laws.FnExactDisplacementOf", spec := "fnExactDisplacementOf", named := ["math/bits.divideError", "math/bits.overflowError"], apart := false, narrowed := true }
def FnExactDisplacementOfUptoSaid : Prop := fnExactDisplacementOfUptoRow.holds Try.pinned (OpenSpec.upto fnExactDisplacementOfSpec)

/-- 'laws.FnExactStabiliserIn', WHERE WHAT IT READS IS OF BULK AT MOST 1048576: true; the input reads as it did. -/
def fnExactStabiliserInUptoRow : OpenClaim := { program := "ytmhajnfdbjnegaa", sum := "a0b1849f339ce0aaebc7857a34687c6588c3a6211debe3d2d81f475e6c552d8f", func := "loop.example/g01252/laws.FnExactStabiliserIn", spec := "fnExactStabiliserIn", named := ["math/bits.divideError", "math/bits.overflowError"], apart := false, narrowed := true }
def FnExactStabiliserInUptoSaid : Prop := fnExactStabiliserInUptoRow.holds Try.pinned (OpenSpec.upto fnExactStabiliserInSpec)

end Rows
end Go.Proofs.Ytmhajnfdbjnegaa
