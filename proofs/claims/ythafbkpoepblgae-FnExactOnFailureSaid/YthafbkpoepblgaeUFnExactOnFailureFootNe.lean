-- Written by a program of this session out of what the kit's print wrote for this claim: shortened, nothing added; Lean checks it.

import Derived.Test.YthafbkpoepblgaeUFnExactOnFailureN
namespace Go.Proofs.YthafbkpoepblgaeW.PrintWords
open Go.RowKit
namespace Kd
section
variable {α : Type} {d : Kd α} {W : World} {g n : Nat} {S ok : Nat → Prop} {A : Option Addr} {ad : Addr} {xs : List α}
end
end Kd
end Go.Proofs.YthafbkpoepblgaeW.PrintWords
