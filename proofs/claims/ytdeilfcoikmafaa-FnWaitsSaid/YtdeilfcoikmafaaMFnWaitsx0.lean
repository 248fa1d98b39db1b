-- Written by a program of this session over the kit's print, with stand-ins for the functions that the print leaves; Lean checks it.
import Derived.Test.YtdeilfcoikmafaaUFnWaitsShort
import Derived.Test.YtdeilfcoikmafaaProg
import Derived.Below
import Derived.Deep.Draws
import Derived.Deep.AppendLies
import Derived.Maps.AppendAt
import Derived.OwnWalk
import Derived.Laws.BytesArg
import Derived.Laws.MakeOwn
import Derived.Laws.OwnMore
import Derived.Deep.OwnRows
import Derived.Tactics
import Derived.Lib.ConvBytes
import Derived.Laws.Slices
import Derived.WalkKit
import Derived.KernelRfl
import Derived.RowKit3
import Derived.Deep.LoopGhost
import Derived.Deep.QuietTactic
import Derived.BigQuiet
import Derived.WideLaws
import Derived.Deep.DeepCutAuto
import Derived.Deep.CutBlock
import Derived.Deep.RegionHeld3
import Derived.Laws.Rows
import Derived.Lib.AppendStr
import Derived.ArgAppend
import Derived.Laws.IdiomCopy
import Derived.OrdersHeld
import Derived.Laws.BitsLemmas
import Derived.RowKit
import Derived.Test.YtdeilfcoikmafaaUFnWaitsWords
import Derived.Test.YtdeilfcoikmafaaUFnWaitsLast
import Derived.Test.YtdeilfcoikmafaaUFnWaitsTab
import Derived.Test.YtdeilfcoikmafaaUFnWaitsFour
import Derived.Test.YtdeilfcoikmafaaUFnWaitsQPut
import Derived.Test.YtdeilfcoikmafaaUFnWaitsApart
import Derived.Test.YtdeilfcoikmafaaUFnWaitsArr
import Derived.Test.YtdeilfcoikmafaaUFnWaitsZeros
import Derived.Test.YtdeilfcoikmafaaUFnWaitsFoot
import Derived.Test.YtdeilfcoikmafaaUFnWaitsKept
import Derived.Test.YtdeilfcoikmafaaUFnWaitsShare
import Derived.Test.YtdeilfcoikmafaaUFnWaitsN
import Derived.Test.YtdeilfcoikmafaaUFnWaitsFootNe
import Derived.Test.YtdeilfcoikmafaaUFnWaitsAt
import Derived.Test.YtdeilfcoikmafaaUFnWaitsEqStruct
import Derived.Test.YtdeilfcoikmafaaUFnWaitsRepsOne
import Derived.Test.YtdeilfcoikmafaaUFnWaitsInv
import Derived.Test.YtdeilfcoikmafaaUFnWaitsInvWords
import Derived.Test.YtdeilfcoikmafaaUFnWaitsGuard
import Derived.Test.YtdeilfcoikmafaaUFnWaitsNEv
import Derived.Test.YtdeilfcoikmafaaUFnWaitsMore
namespace Go.Proofs.Ytdeilfcoikmafaa.MFnWaits
open Go.RowKit Go.Proofs.YtdeilfcoikmafaaW.PrintWords Go.Proofs.YtdeilfcoikmafaaW.PrintLast Go.Proofs.YtdeilfcoikmafaaW.PrintMore
attribute [local go_sem] max2_int min2_int max_two min_two max_three min_three max_four min_four   -- for this text's walks alone
set_option linter.unusedVariables false
set_option linter.unusedSimpArgs false



def errW : Option Int → Value
 | none => .nilIface
 | some c => .iface 0 (.int .i64 c)
theorem errW_none : errW none = .nilIface := rfl
theorem errW_some (c : Int) : errW (some c) = .iface 0 (.int .i64 c) := rfl

theorem info3 : (Try.prog.info? 3).map (fun i => (i.zero, i.size, i.bytes)) = some (some (.int .i64 0), 1, 8) := by kernel_rfl
-- the values' own types

end Go.Proofs.Ytdeilfcoikmafaa.MFnWaits
