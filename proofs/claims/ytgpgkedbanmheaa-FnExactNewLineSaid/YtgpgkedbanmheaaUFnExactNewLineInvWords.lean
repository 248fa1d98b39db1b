-- Written by a program of this session out of what the kit's print wrote for this claim: shortened, nothing added; Lean checks it.

import Derived.Test.YtgpgkedbanmheaaUFnExactNewLineInv
import Derived.Test.YtgpgkedbanmheaaUFnExactNewLineFootNe
namespace Go.Proofs.YtgpgkedbanmheaaW.PrintWords
open Go.RowKit
end Go.Proofs.YtgpgkedbanmheaaW.PrintWords
namespace Go.Proofs.YtgpgkedbanmheaaW.PrintLast
section
variable {ops : Array Oper} {a : Act} {o og : Oper} {g : Nat} {t : Tmp} {u : Bool}
end
end Go.Proofs.YtgpgkedbanmheaaW.PrintLast
