-- Written by a program of this session over the kit's print, with stand-ins for the functions that the print leaves; Lean checks it.
import Derived.Test.YthafbkpoepblgacDoorProg
import Derived.Below
import Derived.Deep.Draws
import Derived.Deep.AppendLies
import Derived.Maps.AppendAt
import Derived.OwnWalk
import Derived.Laws.BytesArg
import Derived.Laws.MakeOwn
import Derived.Laws.OwnMore
import Derived.Deep.OwnRows
import Derived.Tactics
import Derived.Lib.ConvBytes
import Derived.Laws.Slices
import Derived.WalkKit
import Derived.KernelRfl
import Derived.RowKit3
import Derived.Deep.LoopGhost
import Derived.Deep.QuietTactic
import Derived.BigQuiet
import Derived.WideLaws
import Derived.Deep.DeepCutAuto
import Derived.Deep.CutBlock
import Derived.Deep.RegionHeld3
import Derived.Laws.Rows
import Derived.Lib.AppendStr
import Derived.ArgAppend
import Derived.Laws.IdiomCopy
import Derived.OrdersHeld
import Derived.Laws.BitsLemmas
import Derived.RowKit
import Derived.Test.YthafbkpoepblgacDoorWWords
import Derived.Test.YthafbkpoepblgacDoorWLast
import Derived.Test.YthafbkpoepblgacDoorWTab
import Derived.Test.YthafbkpoepblgacDoorWFour
import Derived.Test.YthafbkpoepblgacDoorWQPut
import Derived.Test.YthafbkpoepblgacDoorWApart
import Derived.Test.YthafbkpoepblgacDoorWArr
import Derived.Test.YthafbkpoepblgacDoorWZeros
import Derived.Test.YthafbkpoepblgacDoorWFoot
import Derived.Test.YthafbkpoepblgacDoorWKept
import Derived.Test.YthafbkpoepblgacDoorWShare
import Derived.Test.YthafbkpoepblgacDoorWN
import Derived.Test.YthafbkpoepblgacDoorWFootNe
import Derived.Test.YthafbkpoepblgacDoorWAt
import Derived.Test.YthafbkpoepblgacDoorWEqStruct
import Derived.Test.YthafbkpoepblgacDoorWRepsOne
import Derived.Test.YthafbkpoepblgacDoorWInv
import Derived.Test.YthafbkpoepblgacDoorWInvWords
import Derived.Test.YthafbkpoepblgacDoorWGuard
import Derived.Test.YthafbkpoepblgacDoorWNEv
import Derived.Test.YthafbkpoepblgacDoorWMore
namespace Go.Proofs.YthafbkpoepblgacDoor.MFnExactTickText
open Go.RowKit Go.Proofs.YthafbkpoepblgacDoorW.PrintWords Go.Proofs.YthafbkpoepblgacDoorW.PrintLast Go.Proofs.YthafbkpoepblgacDoorW.PrintMore
attribute [local go_sem] max2_int min2_int max_two min_two max_three min_three max_four min_four   -- for this text's walks alone
set_option linter.unusedVariables false
set_option linter.unusedSimpArgs false



def errW : Option Int → Value
  | none => .nilIface
  | some c => .iface 0 (.int .i64 c)
theorem errW_none : errW none = .nilIface := rfl
theorem errW_some (c : Int) : errW (some c) = .iface 0 (.int .i64 c) := rfl

theorem info5 : (Tryd.prog.info? 5).map (fun i => (i.zero, i.size, i.bytes)) = some (some (.int .u8 0), 1, 1) := by kernel_rfl
-- the values' own types

end Go.Proofs.YthafbkpoepblgacDoor.MFnExactTickText
