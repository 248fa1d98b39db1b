-- Written by a program of this session out of what the kit's print wrote for this claim: shortened, nothing added; Lean checks it.

import Derived.Test.YtpckdemamlhpdaaUFnConnsInv
import Derived.Test.YtpckdemamlhpdaaUFnConnsFootNe
namespace Go.Proofs.YtpckdemamlhpdaaW.PrintWords
open Go.RowKit
end Go.Proofs.YtpckdemamlhpdaaW.PrintWords
namespace Go.Proofs.YtpckdemamlhpdaaW.PrintLast
section
variable {ops : Array Oper} {a : Act} {o og : Oper} {g : Nat} {t : Tmp} {u : Bool}
end
end Go.Proofs.YtpckdemamlhpdaaW.PrintLast
