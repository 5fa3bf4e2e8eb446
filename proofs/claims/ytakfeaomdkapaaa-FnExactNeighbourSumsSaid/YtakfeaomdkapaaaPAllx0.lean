-- turned for this claim out of the kit's print (arrays of a fixed size seen as structs)
import Derived.Test.YtakfeaomdkapaaaProg
import Derived.Below
import Derived.Deep.Draws
import Derived.Deep.AppendLies
import Derived.Maps.AppendAt
import Derived.OwnWalk
import Derived.Laws.BytesArg
import Derived.Laws.MakeOwn
import Derived.Laws.OwnMore
import Derived.Deep.OwnRows
import Derived.Tactics
import Derived.Lib.ConvBytes
import Derived.Laws.Slices
import Derived.WalkKit
import Derived.KernelRfl
import Derived.RowKit3
import Derived.Deep.LoopGhost
import Derived.Deep.QuietTactic
import Derived.BigQuiet
import Derived.WideLaws
import Derived.Deep.DeepCutAuto
import Derived.Deep.CutBlock
import Derived.Deep.RegionHeld3
import Derived.Laws.Rows
import Derived.Lib.AppendStr
import Derived.ArgAppend
import Derived.Laws.IdiomCopy
import Derived.OrdersHeld
import Derived.Laws.BitsLemmas
import Derived.RowKit
import Derived.Test.YtakfeaomdkapaaaAux
import Derived.Handy
import Derived.Test.YtakfeaomdkapaaaWWords
import Derived.Test.YtakfeaomdkapaaaWLast
import Derived.Test.YtakfeaomdkapaaaWTab
import Derived.Test.YtakfeaomdkapaaaWFour
import Derived.Test.YtakfeaomdkapaaaWQPut
import Derived.Test.YtakfeaomdkapaaaWApart
import Derived.Test.YtakfeaomdkapaaaWArr
import Derived.Test.YtakfeaomdkapaaaWZeros
import Derived.Test.YtakfeaomdkapaaaWFoot
import Derived.Test.YtakfeaomdkapaaaWKept
import Derived.Test.YtakfeaomdkapaaaWShare
import Derived.Test.YtakfeaomdkapaaaWN
import Derived.Test.YtakfeaomdkapaaaWFootNe
import Derived.Test.YtakfeaomdkapaaaWAt
import Derived.Test.YtakfeaomdkapaaaWEqStruct
import Derived.Test.YtakfeaomdkapaaaWRepsOne
import Derived.Test.YtakfeaomdkapaaaWInv
import Derived.Test.YtakfeaomdkapaaaWInvWords
import Derived.Test.YtakfeaomdkapaaaWGuard
import Derived.Test.YtakfeaomdkapaaaWNEv
import Derived.Test.YtakfeaomdkapaaaWMore
namespace Go.Proofs.Ytakfeaomdkapaaa.PAll
open Go.RowKit Go.Proofs.YtakfeaomdkapaaaW.PrintWords Go.Proofs.YtakfeaomdkapaaaW.PrintLast Go.Proofs.YtakfeaomdkapaaaW.PrintMore
attribute [local go_sem] Go.Proofs.Ytakfeaomdkapaaa.Aux.setCell_drewN Go.Proofs.Ytakfeaomdkapaaa.Aux.isSome_setCell max2_int min2_int max_two min_two max_three min_three max_four min_four   -- for this text's walks alone
set_option linter.unusedVariables false
set_option linter.unusedSimpArgs false



def errW : Option Int → Value
  | none => .nilIface
  | some c => .iface 0 (.int .i64 c)
theorem errW_none : errW none = .nilIface := rfl
theorem errW_some (c : Int) : errW (some c) = .iface 0 (.int .i64 c) := rfl

theorem info2 : (Try.prog.info? 2).map (fun i => (i.zero, i.size, i.bytes)) = some (some (.int .i64 0), 1, 8) := by kernel_rfl
-- the values' own types

end Go.Proofs.Ytakfeaomdkapaaa.PAll
