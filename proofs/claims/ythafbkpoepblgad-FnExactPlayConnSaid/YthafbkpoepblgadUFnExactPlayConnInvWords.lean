-- Written by a program of this session out of what the kit's print wrote for this claim: shortened, nothing added; Lean checks it.

import Derived.Test.YthafbkpoepblgadUFnExactPlayConnInv
import Derived.Test.YthafbkpoepblgadUFnExactPlayConnFootNe
namespace Go.Proofs.YthafbkpoepblgadW.PrintWords
open Go.RowKit
end Go.Proofs.YthafbkpoepblgadW.PrintWords
namespace Go.Proofs.YthafbkpoepblgadW.PrintLast
section
variable {ops : Array Oper} {a : Act} {o og : Oper} {g : Nat} {t : Tmp} {u : Bool}
end
end Go.Proofs.YthafbkpoepblgadW.PrintLast
