/-
  No cell of these rows narrows 'for every input' (looked for: loops, veiled, ifaces, maps, wideKeys, modest, calm, conditions, laid).
  DERIVED. THE GIVEN ROWS OF THIS SEAT. 8 by the template 'for every input the law returns true; each argument reads behind the call as it read before'; 0 by the template 'total and deterministic' (their statements: YtccpccnnbacgjaaTotals.lean).
  GIVEN WITH THE SEED: the statements are not yours to turn. If you find one false, say at which input.
  Laid BY PROGRAM, IN A SANDBOX (cutbox-rows.mjs): the forced cells as the released guide's own fill.sh prints them over the translation addfea66e66502e4… (all of the seat's roots in one cut). By AI agents, Wed Nov 11 2026. No macro, syntax, notation, axiom, sorry.
-/
import Derived.Test.YtccpccnnbacgjaaChecked
import GoSem.Claim
import GoSem.ClaimJoined
import GoSem.ClaimMapViews
import Derived.JoinedTies
import Derived.KernelRfl
namespace Go.Proofs.Ytccpccnnbacgjaa
/- THE CELL 'sum', in the pinned program and in every row, IS THE sha256 OF THE DUMP (.gsa) THAT YtccpccnnbacgjaaProg.lean LOADS. Nothing in Lean hashes anything: it is a label: what it is worth is what the hold of that sum in a sandbox is worth. -/
noncomputable def Try.pinned : Pinned := { name := "ytccpccnnbacgjaa", sum := "addfea66e66502e4fddb9ef848bb0a936e44477c6561c58d5976c3d38629d603", checked := Try.checked }
namespace Rows
def none {H : Type} : Left H := { results := [], args := [] }

/-- 'laws.FnExactCountFixedOn': WHATEVER THE INPUT: true; the input reads as it did. -/
def fnExactCountFixedOnSpec : ChangeSpec := { name := "fnExactCountFixedOn", fn := fun _ => fun
  | [d1, d2, d3] => { results := [.lit (.bool true)], args := [d1, d2, d3] }
  | _ => none }
def fnExactCountFixedOnRow : OpenClaim := { program := "ytccpccnnbacgjaa", sum := "addfea66e66502e4fddb9ef848bb0a936e44477c6561c58d5976c3d38629d603", func := "loop.example/g01252/laws.FnExactCountFixedOn", spec := "fnExactCountFixedOn", named := ["math/bits.divideError", "math/bits.overflowError"], apart := false }
def FnExactCountFixedOnSaid : Prop := fnExactCountFixedOnRow.holds Try.pinned (OpenSpec.ofChange fnExactCountFixedOnSpec)

/-- ITS FALSE NEIGHBOUR: 'it returns false'. Refute it at one input. -/
def fnExactCountFixedOnWrong : ChangeSpec := { name := "fnExactCountFixedOn", fn := fun _ => fun
  | [d1, d2, d3] => { results := [.lit (.bool false)], args := [d1, d2, d3] }
  | _ => none }
def FnExactCountFixedOnWrongFalsely : Prop := fnExactCountFixedOnRow.holds Try.pinned (OpenSpec.ofChange fnExactCountFixedOnWrong)

/-- 'laws.FnExactPermutationOfSphere': WHATEVER THE INPUT: true; the input reads as it did. -/
def fnExactPermutationOfSphereSpec : ChangeSpec := { name := "fnExactPermutationOfSphere", fn := fun _ => fun
  | [d1, d2, d3] => { results := [.lit (.bool true)], args := [d1, d2, d3] }
  | _ => none }
def fnExactPermutationOfSphereRow : OpenClaim := { program := "ytccpccnnbacgjaa", sum := "addfea66e66502e4fddb9ef848bb0a936e44477c6561c58d5976c3d38629d603", func := "loop.example/g01252/laws.FnExactPermutationOfSphere", spec := "fnExactPermutationOfSphere", named := ["math/bits.divideError", "math/bits.overflowError"], apart := false }
def FnExactPermutationOfSphereSaid : Prop := fnExactPermutationOfSphereRow.holds Try.pinned (OpenSpec.ofChange fnExactPermutationOfSphereSpec)

/-- ITS FALSE NEIGHBOUR: 'it returns false'. Refute it at one input. -/
def fnExactPermutationOfSphereWrong : ChangeSpec := { name := "fnExactPermutationOfSphere", fn := fun _ => fun
  | [d1, d2, d3] => { results := [.lit (.bool false)], args := [d1, d2, d3] }
  | _ => none }
def FnExactPermutationOfSphereWrongFalsely : Prop := fnExactPermutationOfSphereRow.holds Try.pinned (OpenSpec.ofChange fnExactPermutationOfSphereWrong)

/-- 'laws.FnExactFixedBalls': WHATEVER THE INPUT: true; the input reads as it did. -/
def fnExactFixedBallsSpec : ChangeSpec := { name := "fnExactFixedBalls", fn := fun _ => fun
  | [d1, d2, d3, d4] => { results := [.lit (.bool true)], args := [d1, d2, d3, d4] }
  | _ => none }
def fnExactFixedBallsRow : OpenClaim := { program := "ytccpccnnbacgjaa", sum := "addfea66e66502e4fddb9ef848bb0a936e44477c6561c58d5976c3d38629d603", func := "loop.example/g01252/laws.FnExactFixedBalls", spec := "fnExactFixedBalls", named := ["math/bits.divideError", "math/bits.overflowError"], apart := false }
def FnExactFixedBallsSaid : Prop := fnExactFixedBallsRow.holds Try.pinned (OpenSpec.ofChange fnExactFixedBallsSpec)

/-- ITS FALSE NEIGHBOUR: 'it returns false'. Refute it at one input. -/
def fnExactFixedBallsWrong : ChangeSpec := { name := "fnExactFixedBalls", fn := fun _ => fun
  | [d1, d2, d3, d4] => { results := [.lit (.bool false)], args := [d1, d2, d3, d4] }
  | _ => none }
def FnExactFixedBallsWrongFalsely : Prop := fnExactFixedBallsRow.holds Try.pinned (OpenSpec.ofChange fnExactFixedBallsWrong)

/-- 'laws.FnExactAxisBalls': WHATEVER THE INPUT: true; the input reads as it did. -/
def fnExactAxisBallsSpec : ChangeSpec := { name := "fnExactAxisBalls", fn := fun _ => fun
  | [d1, d2, d3, d4] => { results := [.lit (.bool true)], args := [d1, d2, d3, d4] }
  | _ => none }
def fnExactAxisBallsRow : OpenClaim := { program := "ytccpccnnbacgjaa", sum := "addfea66e66502e4fddb9ef848bb0a936e44477c6561c58d5976c3d38629d603", func := "loop.example/g01252/laws.FnExactAxisBalls", spec := "fnExactAxisBalls", named := ["math/bits.divideError", "math/bits.overflowError"], apart := false }
def FnExactAxisBallsSaid : Prop := fnExactAxisBallsRow.holds Try.pinned (OpenSpec.ofChange fnExactAxisBallsSpec)

/-- ITS FALSE NEIGHBOUR: 'it returns false'. Refute it at one input. -/
def fnExactAxisBallsWrong : ChangeSpec := { name := "fnExactAxisBalls", fn := fun _ => fun
  | [d1, d2, d3, d4] => { results := [.lit (.bool false)], args := [d1, d2, d3, d4] }
  | _ => none }
def FnExactAxisBallsWrongFalsely : Prop := fnExactAxisBallsRow.holds Try.pinned (OpenSpec.ofChange fnExactAxisBallsWrong)

/-- 'laws.FnMoves': WHATEVER THE INPUT: true; the input reads as it did. -/
def fnMovesSpec : ChangeSpec := { name := "fnMoves", fn := fun _ => fun
  | [d] => { results := [.lit (.bool true)], args := [d] }
  | _ => none }
def fnMovesRow : OpenClaim := { program := "ytccpccnnbacgjaa", sum := "addfea66e66502e4fddb9ef848bb0a936e44477c6561c58d5976c3d38629d603", func := "loop.example/g01252/laws.FnMoves", spec := "fnMoves", named := ["math/bits.divideError", "math/bits.overflowError"], apart := false }
def FnMovesSaid : Prop := fnMovesRow.holds Try.pinned (OpenSpec.ofChange fnMovesSpec)

/-- ITS FALSE NEIGHBOUR: 'it returns false'. Refute it at one input. -/
def fnMovesWrong : ChangeSpec := { name := "fnMoves", fn := fun _ => fun
  | [d] => { results := [.lit (.bool false)], args := [d] }
  | _ => none }
def FnMovesWrongFalsely : Prop := fnMovesRow.holds Try.pinned (OpenSpec.ofChange fnMovesWrong)

/-- 'laws.FnExactOrbitIn': WHATEVER THE INPUT: true; the input reads as it did. -/
def fnExactOrbitInSpec : ChangeSpec := { name := "fnExactOrbitIn", fn := fun _ => fun
  | [d1, d2, d3, d4] => { results := [.lit (.bool true)], args := [d1, d2, d3, d4] }
  | _ => none }
def fnExactOrbitInRow : OpenClaim := { program := "ytccpccnnbacgjaa", sum := "addfea66e66502e4fddb9ef848bb0a936e44477c6561c58d5976c3d38629d603", func := "loop.example/g01252/laws.FnExactOrbitIn", spec := "fnExactOrbitIn", named := ["math/bits.divideError", "math/bits.overflowError"], apart := false }
def FnExactOrbitInSaid : Prop := fnExactOrbitInRow.holds Try.pinned (OpenSpec.ofChange fnExactOrbitInSpec)

/-- ITS FALSE NEIGHBOUR: 'it returns false'. Refute it at one input. -/
def fnExactOrbitInWrong : ChangeSpec := { name := "fnExactOrbitIn", fn := fun _ => fun
  | [d1, d2, d3, d4] => { results := [.lit (.bool false)], args := [d1, d2, d3, d4] }
  | _ => none }
def FnExactOrbitInWrongFalsely : Prop := fnExactOrbitInRow.holds Try.pinned (OpenSpec.ofChange fnExactOrbitInWrong)

/-- 'laws.FnExactClassesIn': WHATEVER THE INPUT: true; the input reads as it did. -/
def fnExactClassesInSpec : ChangeSpec := { name := "fnExactClassesIn", fn := fun _ => fun
  | [d1, d2, d3] => { results := [.lit (.bool true)], args := [d1, d2, d3] }
  | _ => none }
def fnExactClassesInRow : OpenClaim := { program := "ytccpccnnbacgjaa", sum := "addfea66e66502e4fddb9ef848bb0a936e44477c6561c58d5976c3d38629d603", func := "loop.example/g01252/laws.FnExactClassesIn", spec := "fnExactClassesIn", named := ["math/bits.divideError", "math/bits.overflowError"], apart := false }
def FnExactClassesInSaid : Prop := fnExactClassesInRow.holds Try.pinned (OpenSpec.ofChange fnExactClassesInSpec)

/-- ITS FALSE NEIGHBOUR: 'it returns false'. Refute it at one input. -/
def fnExactClassesInWrong : ChangeSpec := { name := "fnExactClassesIn", fn := fun _ => fun
  | [d1, d2, d3] => { results := [.lit (.bool false)], args := [d1, d2, d3] }
  | _ => none }
def FnExactClassesInWrongFalsely : Prop := fnExactClassesInRow.holds Try.pinned (OpenSpec.ofChange fnExactClassesInWrong)

/-- 'laws.FnTranslations': WHATEVER THE INPUT: true; the input reads as it did. -/
def fnTranslationsSpec : ChangeSpec := { name := "fnTranslations", fn := fun _ => fun
  | [d] => { results := [.lit (.bool true)], args := [d] }
  | _ => none }
def fnTranslationsRow : OpenClaim := { program := "ytccpccnnbacgjaa", sum := "addfea66e66502e4fddb9ef848bb0a936e44477c6561c58d5976c3d38629d603", func := "loop.example/g01252/laws.FnTranslations", spec := "fnTranslations", named := ["math/bits.divideError", "math/bits.overflowError"], apart := false }
def FnTranslationsSaid : Prop := fnTranslationsRow.holds Try.pinned (OpenSpec.ofChange fnTranslationsSpec)

/-- ITS FALSE NEIGHBOUR: 'it returns false'. Refute it at one input. -/
def fnTranslationsWrong : ChangeSpec := { name := "fnTranslations", fn := fun _ => fun
  | [d] => { results := [.lit (.bool false)], args := [d] }
  | _ => none }
def FnTranslationsWrongFalsely : Prop := fnTranslationsRow.holds Try.pinned (OpenSpec.ofChange fnTranslationsWrong)

/- THE SECOND FORM. 'bulk': how many values and letters a reading holds, each counted each time it is reached (what is shared counts as often as it is met; a slice's spare places count too). A statement '..UptoSaid' is the law's where the arguments, and the package variables that the reading takes, are together of bulk at most 1048576: NARROWER than '..Said'. Prove '..Said' where nothing that the law and all that it calls make is longer than what came in: it says more and counts as full. Else prove '..UptoSaid'. A law counts once. -/
mutual
def uptoBulk {H : Type} : DataW H → Nat
  | .lit (.string bytes) => bytes.length + 1
  | .lit _ => 1
  | .nil => 1
  | .ptr d => uptoBulk d + 1
  | .slice elems spare => uptoBulkAll elems + uptoBulkAll spare + 1
  | .agg parts => uptoBulkAll parts + 1
  | .iface _ d => uptoBulk d + 1
  | .map entries => uptoBulkEntries entries + 1
  | .held _ => 1
def uptoBulkAll {H : Type} : List (DataW H) → Nat
  | [] => 0
  | d :: r => uptoBulk d + uptoBulkAll r
def uptoBulkEntries {H : Type} : List (Lit × DataW H) → Nat
  | [] => 0
  | x :: r => uptoBulkEntry x + uptoBulkEntries r
def uptoBulkEntry {H : Type} : Lit × DataW H → Nat
  | (.string bytes, d) => bytes.length + uptoBulk d + 1
  | (_, d) => uptoBulk d + 1
 end
def uptoSmall : (H : Type) → List (DataW H) → Bool := fun _ ds => decide (uptoBulkAll ds ≤ 1048576)
def OpenSpec.upto (s : _root_.Go.ChangeSpec) : _root_.Go.OpenSpec := { _root_.Go.OpenSpec.ofChange s with cond := some uptoSmall }

/-- 'laws.FnExactCountFixedOn', WHERE WHAT IT READS IS OF BULK AT MOST 1048576: true; the input reads as it did. -/
def fnExactCountFixedOnUptoRow : OpenClaim := { program := "ytccpccnnbacgjaa", sum := "addfea66e66502e4fddb9ef848bb0a936e44477c6561c58d5976c3d38629d603", func := "loop.example/g01252/laws.FnExactCountFixedOn", spec := "fnExactCountFixedOn", named := ["math/bits.divideError", "math/bits.overflowError"], apart := false, narrowed := true }
def FnExactCountFixedOnUptoSaid : Prop := fnExactCountFixedOnUptoRow.holds Try.pinned (OpenSpec.upto fnExactCountFixedOnSpec)

/-- 'laws.FnExactPermutationOfSphere', WHERE WHAT IT READS IS OF BULK AT MOST 1048576: true; the input reads as it did. -/
def fnExactPermutationOfSphereUptoRow : OpenClaim := { program := "ytccpccnnbacgjaa", sum := "addfea66e66502e4fddb9ef848bb0a936e44477c6561c58d5976c3d38629d603", func := "loop.example/g01252/laws.FnExactPermutationOfSphere", spec := "fnExactPermutationOfSphere", named := ["math/bits.divideError", "math/bits.overflowError"], apart := false, narrowed := true }
def FnExactPermutationOfSphereUptoSaid : Prop := fnExactPermutationOfSphereUptoRow.holds Try.pinned (OpenSpec.upto fnExactPermutationOfSphereSpec)

/-- 'laws.FnExactFixedBalls', WHERE WHAT IT READS IS OF BULK AT MOST 1048576: true; the input reads as it did. -/
def fnExactFixedBallsUptoRow : OpenClaim := { program := "ytccpccnnbacgjaa", sum := "addfea66e66502e4fddb9ef848bb0a936e44477c6561c58d5976c3d38629d603", func := "loop.example/g01252/laws.FnExactFixedBalls", spec := "fnExactFixedBalls", named := ["math/bits.divideError", "math/bits.overflowError"], apart := false, narrowed := true }
def FnExactFixedBallsUptoSaid : Prop := fnExactFixedBallsUptoRow.holds Try.pinned (OpenSpec.upto fnExactFixedBallsSpec)

/-- 'laws.FnExactAxisBalls', WHERE WHAT IT READS IS OF BULK AT MOST 1048576: true; the input reads as it did. -/
def fnExactAxisBallsUptoRow : OpenClaim := { program := "ytccpccnnbacgjaa", sum := "addfea66e66502e4fddb9ef848bb0a936e44477c6561c58d5976c3d38629d603", func := "loop.example/g01252/laws.FnExactAxisBalls", spec := "fnExactAxisBalls", named := ["math/bits.divideError", "math/bits.overflowError"], apart := false, narrowed := true }
def FnExactAxisBallsUptoSaid : Prop := fnExactAxisBallsUptoRow.holds Try.pinned (OpenSpec.upto fnExactAxisBallsSpec)

/-- 'laws.FnMoves', WHERE WHAT IT READS IS OF BULK AT MOST 1048576: true; the input reads as it did. -/
def fnMovesUptoRow : OpenClaim := { program := "ytccpccnnbacgjaa", sum := "addfea66e66502e4fddb9ef848bb0a936e44477c6561c58d5976c3d38629d603", func := "loop.example/g01252/laws.FnMoves", spec := "fnMoves", named := ["math/bits.divideError", "math/bits.overflowError"], apart := false, narrowed := true }
def FnMovesUptoSaid : Prop := fnMovesUptoRow.holds Try.pinned (OpenSpec.upto fnMovesSpec)

/-- 'laws.FnExactOrbitIn', WHERE WHAT IT READS IS OF BULK AT MOST 1048576: true; the input reads as it did. -/
def fnExactOrbitInUptoRow : OpenClaim := { program := "ytccpccnnbacgjaa", sum := "addfea66e66502e4fddb9ef848bb0a936e44477c6561c58d5976c3d38629d603", func := "loop.example/g01252/laws.FnExactOrbitIn", spec := "fnExactOrbitIn", named := ["math/bits.divideError", "math/bits.overflowError"], apart := false, narrowed := true }
def FnExactOrbitInUptoSaid : Prop := fnExactOrbitInUptoRow.holds Try.pinned (OpenSpec.upto fnExactOrbitInSpec)

/-- 'laws.FnExactClassesIn', WHERE WHAT IT READS IS OF BULK AT MOST 1048576: true; the input reads as it did. -/
def fnExactClassesInUptoRow : OpenClaim := { program := "ytccpccnnbacgjaa", sum := "addfea66e66502e4fddb9ef848bb0a936e44477c6561c58d5976c3d38629d603", func := "loop.example/g01252/laws.FnExactClassesIn", spec := "fnExactClassesIn", named := ["math/bits.divideError", "math/bits.overflowError"], apart := false, narrowed := true }
def FnExactClassesInUptoSaid : Prop := fnExactClassesInUptoRow.holds Try.pinned (OpenSpec.upto fnExactClassesInSpec)

/-- 'laws.FnTranslations', WHERE WHAT IT READS IS OF BULK AT MOST 1048576: true; the input reads as it did. -/
def fnTranslationsUptoRow : OpenClaim := { program := "ytccpccnnbacgjaa", sum := "addfea66e66502e4fddb9ef848bb0a936e44477c6561c58d5976c3d38629d603", func := "loop.example/g01252/laws.FnTranslations", spec := "fnTranslations", named := ["math/bits.divideError", "math/bits.overflowError"], apart := false, narrowed := true }
def FnTranslationsUptoSaid : Prop := fnTranslationsUptoRow.holds Try.pinned (OpenSpec.upto fnTranslationsSpec)

end Rows
end Go.Proofs.Ytccpccnnbacgjaa
