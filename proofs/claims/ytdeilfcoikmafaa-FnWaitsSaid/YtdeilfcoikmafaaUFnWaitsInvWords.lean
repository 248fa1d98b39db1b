-- Written by a program of this session out of what the kit's print wrote for this claim: shortened, nothing added; Lean checks it.

import Derived.Test.YtdeilfcoikmafaaUFnWaitsInv
import Derived.Test.YtdeilfcoikmafaaUFnWaitsFootNe
namespace Go.Proofs.YtdeilfcoikmafaaW.PrintWords
open Go.RowKit
end Go.Proofs.YtdeilfcoikmafaaW.PrintWords
namespace Go.Proofs.YtdeilfcoikmafaaW.PrintLast
section
variable {ops : Array Oper} {a : Act} {o og : Oper} {g : Nat} {t : Tmp} {u : Bool}
end
end Go.Proofs.YtdeilfcoikmafaaW.PrintLast
