-- Written by a program of this session over the kit's print, with stand-ins for the functions that the print leaves; Lean checks it.
import Derived.Test.YthafbkpoepblgaeUFnExactOnFailureShort
import Derived.Test.YthafbkpoepblgaeProg
import Derived.Below
import Derived.Deep.Draws
import Derived.Deep.AppendLies
import Derived.Maps.AppendAt
import Derived.OwnWalk
import Derived.Laws.BytesArg
import Derived.Laws.MakeOwn
import Derived.Laws.OwnMore
import Derived.Deep.OwnRows
import Derived.Tactics
import Derived.Lib.ConvBytes
import Derived.Laws.Slices
import Derived.WalkKit
import Derived.KernelRfl
import Derived.RowKit3
import Derived.Deep.LoopGhost
import Derived.Deep.QuietTactic
import Derived.BigQuiet
import Derived.WideLaws
import Derived.Deep.DeepCutAuto
import Derived.Deep.CutBlock
import Derived.Deep.RegionHeld3
import Derived.Laws.Rows
import Derived.Lib.AppendStr
import Derived.ArgAppend
import Derived.Laws.IdiomCopy
import Derived.OrdersHeld
import Derived.Laws.BitsLemmas
import Derived.RowKit
import Derived.Test.YthafbkpoepblgaeUFnExactOnFailureWords
import Derived.Test.YthafbkpoepblgaeUFnExactOnFailureLast
import Derived.Test.YthafbkpoepblgaeUFnExactOnFailureTab
import Derived.Test.YthafbkpoepblgaeUFnExactOnFailureFour
import Derived.Test.YthafbkpoepblgaeUFnExactOnFailureQPut
import Derived.Test.YthafbkpoepblgaeUFnExactOnFailureApart
import Derived.Test.YthafbkpoepblgaeUFnExactOnFailureArr
import Derived.Test.YthafbkpoepblgaeUFnExactOnFailureZeros
import Derived.Test.YthafbkpoepblgaeUFnExactOnFailureFoot
import Derived.Test.YthafbkpoepblgaeUFnExactOnFailureKept
import Derived.Test.YthafbkpoepblgaeUFnExactOnFailureShare
import Derived.Test.YthafbkpoepblgaeUFnExactOnFailureN
import Derived.Test.YthafbkpoepblgaeUFnExactOnFailureFootNe
import Derived.Test.YthafbkpoepblgaeUFnExactOnFailureAt
import Derived.Test.YthafbkpoepblgaeUFnExactOnFailureEqStruct
import Derived.Test.YthafbkpoepblgaeUFnExactOnFailureRepsOne
import Derived.Test.YthafbkpoepblgaeUFnExactOnFailureInv
import Derived.Test.YthafbkpoepblgaeUFnExactOnFailureInvWords
import Derived.Test.YthafbkpoepblgaeUFnExactOnFailureGuard
import Derived.Test.YthafbkpoepblgaeUFnExactOnFailureNEv
import Derived.Test.YthafbkpoepblgaeUFnExactOnFailureMore
namespace Go.Proofs.Ythafbkpoepblgae.MFnExactOnFailure
open Go.RowKit Go.Proofs.YthafbkpoepblgaeW.PrintWords Go.Proofs.YthafbkpoepblgaeW.PrintLast Go.Proofs.YthafbkpoepblgaeW.PrintMore
attribute [local go_sem] max2_int min2_int max_two min_two max_three min_three max_four min_four   -- for this text's walks alone
set_option linter.unusedVariables false
set_option linter.unusedSimpArgs false



def errW : Option Int → Value
 | none => .nilIface
 | some c => .iface 0 (.int .i64 c)
theorem errW_none : errW none = .nilIface := rfl
theorem errW_some (c : Int) : errW (some c) = .iface 0 (.int .i64 c) := rfl

theorem info3 : (Try.prog.info? 3).map (fun i => (i.zero, i.size, i.bytes)) = some (some (.int .i64 0), 1, 8) := by kernel_rfl
-- the values' own types

end Go.Proofs.Ythafbkpoepblgae.MFnExactOnFailure
