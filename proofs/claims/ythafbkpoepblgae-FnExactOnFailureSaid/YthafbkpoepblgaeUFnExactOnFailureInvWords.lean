-- Written by a program of this session out of what the kit's print wrote for this claim: shortened, nothing added; Lean checks it.

import Derived.Test.YthafbkpoepblgaeUFnExactOnFailureInv
import Derived.Test.YthafbkpoepblgaeUFnExactOnFailureFootNe
namespace Go.Proofs.YthafbkpoepblgaeW.PrintWords
open Go.RowKit
end Go.Proofs.YthafbkpoepblgaeW.PrintWords
namespace Go.Proofs.YthafbkpoepblgaeW.PrintLast
section
variable {ops : Array Oper} {a : Act} {o og : Oper} {g : Nat} {t : Tmp} {u : Bool}
end
end Go.Proofs.YthafbkpoepblgaeW.PrintLast
