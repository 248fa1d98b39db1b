/-
  No cell of these rows narrows 'for every input' (looked for: loops, veiled, ifaces, maps, wideKeys, modest, calm, conditions, laid).
  DERIVED. THE GIVEN ROWS OF THIS SEAT. 11 by the template 'for every input the law returns true; each argument reads behind the call as it read before'; 0 by the template 'total and deterministic' (their statements: YtjjklpiiiihmlaaTotals.lean).
  GIVEN WITH THE SEED: the statements are not yours to turn. If you find one false, say at which input.
  Laid BY PROGRAM, IN A SANDBOX (cutbox-rows.mjs): the forced cells as the released guide's own fill.sh prints them over the translation 37fbde6368aef2ab… (all of the seat's roots in one cut). By AI agents, Wed Nov 11 2026. No macro, syntax, notation, axiom, sorry.
-/
import Derived.Test.YtjjklpiiiihmlaaChecked
import GoSem.Claim
import GoSem.ClaimJoined
import GoSem.ClaimMapViews
import Derived.JoinedTies
import Derived.KernelRfl
namespace Go.Proofs.Ytjjklpiiiihmlaa
/- THE CELL 'sum', in the pinned program and in every row, IS THE sha256 OF THE DUMP (.gsa) THAT YtjjklpiiiihmlaaProg.lean LOADS. Nothing in Lean hashes anything: it is a label: what it is worth is what the hold of that sum in a sandbox is worth. -/
noncomputable def Try.pinned : Pinned := { name := "ytjjklpiiiihmlaa", sum := "37fbde6368aef2ab5853d444be8180ba3887f28f582f35131005e50f2b66b485", checked := Try.checked }
namespace Rows
def none {H : Type} : Left H := { results := [], args := [] }

/-- 'laws.FnExactStepChannel': WHATEVER THE INPUT: true; the input reads as it did. -/
def fnExactStepChannelSpec : ChangeSpec := { name := "fnExactStepChannel", fn := fun _ => fun
  | [d1, d2] => { results := [.lit (.bool true)], args := [d1, d2] }
  | _ => none }
def fnExactStepChannelRow : OpenClaim := { program := "ytjjklpiiiihmlaa", sum := "37fbde6368aef2ab5853d444be8180ba3887f28f582f35131005e50f2b66b485", func := "loop.example/g00722/laws.FnExactStepChannel", spec := "fnExactStepChannel", apart := false }
def FnExactStepChannelSaid : Prop := fnExactStepChannelRow.holds Try.pinned (OpenSpec.ofChange fnExactStepChannelSpec)

/-- ITS FALSE NEIGHBOUR: 'it returns false'. Refute it at one input. -/
def fnExactStepChannelWrong : ChangeSpec := { name := "fnExactStepChannel", fn := fun _ => fun
  | [d1, d2] => { results := [.lit (.bool false)], args := [d1, d2] }
  | _ => none }
def FnExactStepChannelWrongFalsely : Prop := fnExactStepChannelRow.holds Try.pinned (OpenSpec.ofChange fnExactStepChannelWrong)

/-- 'laws.FnExactBreakerOk': WHATEVER THE INPUT: true; the input reads as it did. -/
def fnExactBreakerOkSpec : ChangeSpec := { name := "fnExactBreakerOk", fn := fun _ => fun
  | [d] => { results := [.lit (.bool true)], args := [d] }
  | _ => none }
def fnExactBreakerOkRow : OpenClaim := { program := "ytjjklpiiiihmlaa", sum := "37fbde6368aef2ab5853d444be8180ba3887f28f582f35131005e50f2b66b485", func := "loop.example/g00722/laws.FnExactBreakerOk", spec := "fnExactBreakerOk", apart := false }
def FnExactBreakerOkSaid : Prop := fnExactBreakerOkRow.holds Try.pinned (OpenSpec.ofChange fnExactBreakerOkSpec)

/-- ITS FALSE NEIGHBOUR: 'it returns false'. Refute it at one input. -/
def fnExactBreakerOkWrong : ChangeSpec := { name := "fnExactBreakerOk", fn := fun _ => fun
  | [d] => { results := [.lit (.bool false)], args := [d] }
  | _ => none }
def FnExactBreakerOkWrongFalsely : Prop := fnExactBreakerOkRow.holds Try.pinned (OpenSpec.ofChange fnExactBreakerOkWrong)

/-- 'laws.FnExactMayDial': WHATEVER THE INPUT: true; the input reads as it did. -/
def fnExactMayDialSpec : ChangeSpec := { name := "fnExactMayDial", fn := fun _ => fun
  | [d1, d2] => { results := [.lit (.bool true)], args := [d1, d2] }
  | _ => none }
def fnExactMayDialRow : OpenClaim := { program := "ytjjklpiiiihmlaa", sum := "37fbde6368aef2ab5853d444be8180ba3887f28f582f35131005e50f2b66b485", func := "loop.example/g00722/laws.FnExactMayDial", spec := "fnExactMayDial", apart := false }
def FnExactMayDialSaid : Prop := fnExactMayDialRow.holds Try.pinned (OpenSpec.ofChange fnExactMayDialSpec)

/-- ITS FALSE NEIGHBOUR: 'it returns false'. Refute it at one input. -/
def fnExactMayDialWrong : ChangeSpec := { name := "fnExactMayDial", fn := fun _ => fun
  | [d1, d2] => { results := [.lit (.bool false)], args := [d1, d2] }
  | _ => none }
def FnExactMayDialWrongFalsely : Prop := fnExactMayDialRow.holds Try.pinned (OpenSpec.ofChange fnExactMayDialWrong)

/-- 'laws.FnExactPlayChannel': WHATEVER THE INPUT: true; the input reads as it did. -/
def fnExactPlayChannelSpec : ChangeSpec := { name := "fnExactPlayChannel", fn := fun _ => fun
  | [d] => { results := [.lit (.bool true)], args := [d] }
  | _ => none }
def fnExactPlayChannelRow : OpenClaim := { program := "ytjjklpiiiihmlaa", sum := "37fbde6368aef2ab5853d444be8180ba3887f28f582f35131005e50f2b66b485", func := "loop.example/g00722/laws.FnExactPlayChannel", spec := "fnExactPlayChannel", apart := false }
def FnExactPlayChannelSaid : Prop := fnExactPlayChannelRow.holds Try.pinned (OpenSpec.ofChange fnExactPlayChannelSpec)

/-- ITS FALSE NEIGHBOUR: 'it returns false'. Refute it at one input. -/
def fnExactPlayChannelWrong : ChangeSpec := { name := "fnExactPlayChannel", fn := fun _ => fun
  | [d] => { results := [.lit (.bool false)], args := [d] }
  | _ => none }
def FnExactPlayChannelWrongFalsely : Prop := fnExactPlayChannelRow.holds Try.pinned (OpenSpec.ofChange fnExactPlayChannelWrong)

/-- 'laws.FnExactWatched': WHATEVER THE INPUT: true; the input reads as it did. -/
def fnExactWatchedSpec : ChangeSpec := { name := "fnExactWatched", fn := fun _ => fun
  | [d1, d2] => { results := [.lit (.bool true)], args := [d1, d2] }
  | _ => none }
def fnExactWatchedRow : OpenClaim := { program := "ytjjklpiiiihmlaa", sum := "37fbde6368aef2ab5853d444be8180ba3887f28f582f35131005e50f2b66b485", func := "loop.example/g00722/laws.FnExactWatched", spec := "fnExactWatched", apart := false }
def FnExactWatchedSaid : Prop := fnExactWatchedRow.holds Try.pinned (OpenSpec.ofChange fnExactWatchedSpec)

/-- ITS FALSE NEIGHBOUR: 'it returns false'. Refute it at one input. -/
def fnExactWatchedWrong : ChangeSpec := { name := "fnExactWatched", fn := fun _ => fun
  | [d1, d2] => { results := [.lit (.bool false)], args := [d1, d2] }
  | _ => none }
def FnExactWatchedWrongFalsely : Prop := fnExactWatchedRow.holds Try.pinned (OpenSpec.ofChange fnExactWatchedWrong)

/-- 'laws.FnExactOnSuccess': WHATEVER THE INPUT: true; the input reads as it did. -/
def fnExactOnSuccessSpec : ChangeSpec := { name := "fnExactOnSuccess", fn := fun _ => fun
  | [d] => { results := [.lit (.bool true)], args := [d] }
  | _ => none }
def fnExactOnSuccessRow : OpenClaim := { program := "ytjjklpiiiihmlaa", sum := "37fbde6368aef2ab5853d444be8180ba3887f28f582f35131005e50f2b66b485", func := "loop.example/g00722/laws.FnExactOnSuccess", spec := "fnExactOnSuccess", apart := false }
def FnExactOnSuccessSaid : Prop := fnExactOnSuccessRow.holds Try.pinned (OpenSpec.ofChange fnExactOnSuccessSpec)

/-- ITS FALSE NEIGHBOUR: 'it returns false'. Refute it at one input. -/
def fnExactOnSuccessWrong : ChangeSpec := { name := "fnExactOnSuccess", fn := fun _ => fun
  | [d] => { results := [.lit (.bool false)], args := [d] }
  | _ => none }
def FnExactOnSuccessWrongFalsely : Prop := fnExactOnSuccessRow.holds Try.pinned (OpenSpec.ofChange fnExactOnSuccessWrong)

/-- 'laws.FnExactCanReach': WHATEVER THE INPUT: true; the input reads as it did. -/
def fnExactCanReachSpec : ChangeSpec := { name := "fnExactCanReach", fn := fun _ => fun
  | [d1, d2] => { results := [.lit (.bool true)], args := [d1, d2] }
  | _ => none }
def fnExactCanReachRow : OpenClaim := { program := "ytjjklpiiiihmlaa", sum := "37fbde6368aef2ab5853d444be8180ba3887f28f582f35131005e50f2b66b485", func := "loop.example/g00722/laws.FnExactCanReach", spec := "fnExactCanReach", recurses := true, apart := false }
def FnExactCanReachSaid : Prop := fnExactCanReachRow.holds Try.pinned (OpenSpec.ofChange fnExactCanReachSpec)

/-- ITS FALSE NEIGHBOUR: 'it returns false'. Refute it at one input. -/
def fnExactCanReachWrong : ChangeSpec := { name := "fnExactCanReach", fn := fun _ => fun
  | [d1, d2] => { results := [.lit (.bool false)], args := [d1, d2] }
  | _ => none }
def FnExactCanReachWrongFalsely : Prop := fnExactCanReachRow.holds Try.pinned (OpenSpec.ofChange fnExactCanReachWrong)

/-- 'laws.FnExactOnDial': WHATEVER THE INPUT: true; the input reads as it did. -/
def fnExactOnDialSpec : ChangeSpec := { name := "fnExactOnDial", fn := fun _ => fun
  | [d1, d2] => { results := [.lit (.bool true)], args := [d1, d2] }
  | _ => none }
def fnExactOnDialRow : OpenClaim := { program := "ytjjklpiiiihmlaa", sum := "37fbde6368aef2ab5853d444be8180ba3887f28f582f35131005e50f2b66b485", func := "loop.example/g00722/laws.FnExactOnDial", spec := "fnExactOnDial", apart := false }
def FnExactOnDialSaid : Prop := fnExactOnDialRow.holds Try.pinned (OpenSpec.ofChange fnExactOnDialSpec)

/-- ITS FALSE NEIGHBOUR: 'it returns false'. Refute it at one input. -/
def fnExactOnDialWrong : ChangeSpec := { name := "fnExactOnDial", fn := fun _ => fun
  | [d1, d2] => { results := [.lit (.bool false)], args := [d1, d2] }
  | _ => none }
def FnExactOnDialWrongFalsely : Prop := fnExactOnDialRow.holds Try.pinned (OpenSpec.ofChange fnExactOnDialWrong)

/-- 'laws.FnExactShortestEvents': WHATEVER THE INPUT: true; the input reads as it did. -/
def fnExactShortestEventsSpec : ChangeSpec := { name := "fnExactShortestEvents", fn := fun _ => fun
  | [d1, d2] => { results := [.lit (.bool true)], args := [d1, d2] }
  | _ => none }
def fnExactShortestEventsRow : OpenClaim := { program := "ytjjklpiiiihmlaa", sum := "37fbde6368aef2ab5853d444be8180ba3887f28f582f35131005e50f2b66b485", func := "loop.example/g00722/laws.FnExactShortestEvents", spec := "fnExactShortestEvents", recurses := true, apart := false }
def FnExactShortestEventsSaid : Prop := fnExactShortestEventsRow.holds Try.pinned (OpenSpec.ofChange fnExactShortestEventsSpec)

/-- ITS FALSE NEIGHBOUR: 'it returns false'. Refute it at one input. -/
def fnExactShortestEventsWrong : ChangeSpec := { name := "fnExactShortestEvents", fn := fun _ => fun
  | [d1, d2] => { results := [.lit (.bool false)], args := [d1, d2] }
  | _ => none }
def FnExactShortestEventsWrongFalsely : Prop := fnExactShortestEventsRow.holds Try.pinned (OpenSpec.ofChange fnExactShortestEventsWrong)

/-- 'laws.FnChannels': WHATEVER THE INPUT: true; the input reads as it did. -/
def fnChannelsSpec : ChangeSpec := { name := "fnChannels", fn := fun _ => fun
  | [d] => { results := [.lit (.bool true)], args := [d] }
  | _ => none }
def fnChannelsRow : OpenClaim := { program := "ytjjklpiiiihmlaa", sum := "37fbde6368aef2ab5853d444be8180ba3887f28f582f35131005e50f2b66b485", func := "loop.example/g00722/laws.FnChannels", spec := "fnChannels", apart := false }
def FnChannelsSaid : Prop := fnChannelsRow.holds Try.pinned (OpenSpec.ofChange fnChannelsSpec)

/-- ITS FALSE NEIGHBOUR: 'it returns false'. Refute it at one input. -/
def fnChannelsWrong : ChangeSpec := { name := "fnChannels", fn := fun _ => fun
  | [d] => { results := [.lit (.bool false)], args := [d] }
  | _ => none }
def FnChannelsWrongFalsely : Prop := fnChannelsRow.holds Try.pinned (OpenSpec.ofChange fnChannelsWrong)

/-- 'laws.FnExactOnFailure': WHATEVER THE INPUT: true; the input reads as it did. -/
def fnExactOnFailureSpec : ChangeSpec := { name := "fnExactOnFailure", fn := fun _ => fun
  | [d1, d2, d3] => { results := [.lit (.bool true)], args := [d1, d2, d3] }
  | _ => none }
def fnExactOnFailureRow : OpenClaim := { program := "ytjjklpiiiihmlaa", sum := "37fbde6368aef2ab5853d444be8180ba3887f28f582f35131005e50f2b66b485", func := "loop.example/g00722/laws.FnExactOnFailure", spec := "fnExactOnFailure", unfollowed := true, recurses := true, apart := false }
def FnExactOnFailureSaid : Prop := fnExactOnFailureRow.holds Try.pinned (OpenSpec.ofChange fnExactOnFailureSpec)

/-- ITS FALSE NEIGHBOUR: 'it returns false'. Refute it at one input. -/
def fnExactOnFailureWrong : ChangeSpec := { name := "fnExactOnFailure", fn := fun _ => fun
  | [d1, d2, d3] => { results := [.lit (.bool false)], args := [d1, d2, d3] }
  | _ => none }
def FnExactOnFailureWrongFalsely : Prop := fnExactOnFailureRow.holds Try.pinned (OpenSpec.ofChange fnExactOnFailureWrong)

/- THE SECOND FORM. 'bulk': how many values and letters a reading holds, each counted each time it is reached (what is shared counts as often as it is met; a slice's spare places count too). A statement '..UptoSaid' is the law's where the arguments, and the package variables that the reading takes, are together of bulk at most 1048576: NARROWER than '..Said'. Prove '..Said' where nothing that the law and all that it calls make is longer than what came in: it says more and counts as full. Else prove '..UptoSaid'. A law counts once. -/
mutual
def uptoBulk {H : Type} : DataW H → Nat
  | .lit (.string bytes) => bytes.length + 1
  | .lit _ => 1
  | .nil => 1
  | .ptr d => uptoBulk d + 1
  | .slice elems spare => uptoBulkAll elems + uptoBulkAll spare + 1
  | .agg parts => uptoBulkAll parts + 1
  | .iface _ d => uptoBulk d + 1
  | .map entries => uptoBulkEntries entries + 1
  | .held _ => 1
def uptoBulkAll {H : Type} : List (DataW H) → Nat
  | [] => 0
  | d :: r => uptoBulk d + uptoBulkAll r
def uptoBulkEntries {H : Type} : List (Lit × DataW H) → Nat
  | [] => 0
  | x :: r => uptoBulkEntry x + uptoBulkEntries r
def uptoBulkEntry {H : Type} : Lit × DataW H → Nat
  | (.string bytes, d) => bytes.length + uptoBulk d + 1
  | (_, d) => uptoBulk d + 1
 end
def uptoSmall : (H : Type) → List (DataW H) → Bool := fun _ ds => decide (uptoBulkAll ds ≤ 1048576)
def OpenSpec.upto (s : _root_.Go.ChangeSpec) : _root_.Go.OpenSpec := { _root_.Go.OpenSpec.ofChange s with cond := some uptoSmall }

/-- 'laws.FnExactStepChannel', WHERE WHAT IT READS IS OF BULK AT MOST 1048576: true; the input reads as it did. -/
def fnExactStepChannelUptoRow : OpenClaim := { program := "ytjjklpiiiihmlaa", sum := "37fbde6368aef2ab5853d444be8180ba3887f28f582f35131005e50f2b66b485", func := "loop.example/g00722/laws.FnExactStepChannel", spec := "fnExactStepChannel", apart := false, narrowed := true }
def FnExactStepChannelUptoSaid : Prop := fnExactStepChannelUptoRow.holds Try.pinned (OpenSpec.upto fnExactStepChannelSpec)

/-- 'laws.FnExactBreakerOk', WHERE WHAT IT READS IS OF BULK AT MOST 1048576: true; the input reads as it did. -/
def fnExactBreakerOkUptoRow : OpenClaim := { program := "ytjjklpiiiihmlaa", sum := "37fbde6368aef2ab5853d444be8180ba3887f28f582f35131005e50f2b66b485", func := "loop.example/g00722/laws.FnExactBreakerOk", spec := "fnExactBreakerOk", apart := false, narrowed := true }
def FnExactBreakerOkUptoSaid : Prop := fnExactBreakerOkUptoRow.holds Try.pinned (OpenSpec.upto fnExactBreakerOkSpec)

/-- 'laws.FnExactMayDial', WHERE WHAT IT READS IS OF BULK AT MOST 1048576: true; the input reads as it did. -/
def fnExactMayDialUptoRow : OpenClaim := { program := "ytjjklpiiiihmlaa", sum := "37fbde6368aef2ab5853d444be8180ba3887f28f582f35131005e50f2b66b485", func := "loop.example/g00722/laws.FnExactMayDial", spec := "fnExactMayDial", apart := false, narrowed := true }
def FnExactMayDialUptoSaid : Prop := fnExactMayDialUptoRow.holds Try.pinned (OpenSpec.upto fnExactMayDialSpec)

/-- 'laws.FnExactPlayChannel', WHERE WHAT IT READS IS OF BULK AT MOST 1048576: true; the input reads as it did. -/
def fnExactPlayChannelUptoRow : OpenClaim := { program := "ytjjklpiiiihmlaa", sum := "37fbde6368aef2ab5853d444be8180ba3887f28f582f35131005e50f2b66b485", func := "loop.example/g00722/laws.FnExactPlayChannel", spec := "fnExactPlayChannel", apart := false, narrowed := true }
def FnExactPlayChannelUptoSaid : Prop := fnExactPlayChannelUptoRow.holds Try.pinned (OpenSpec.upto fnExactPlayChannelSpec)

/-- 'laws.FnExactWatched', WHERE WHAT IT READS IS OF BULK AT MOST 1048576: true; the input reads as it did. -/
def fnExactWatchedUptoRow : OpenClaim := { program := "ytjjklpiiiihmlaa", sum := "37fbde6368aef2ab5853d444be8180ba3887f28f582f35131005e50f2b66b485", func := "loop.example/g00722/laws.FnExactWatched", spec := "fnExactWatched", apart := false, narrowed := true }
def FnExactWatchedUptoSaid : Prop := fnExactWatchedUptoRow.holds Try.pinned (OpenSpec.upto fnExactWatchedSpec)

/-- 'laws.FnExactOnSuccess', WHERE WHAT IT READS IS OF BULK AT MOST 1048576: true; the input reads as it did. -/
def fnExactOnSuccessUptoRow : OpenClaim := { program := "ytjjklpiiiihmlaa", sum := "37fbde6368aef2ab5853d444be8180ba3887f28f582f35131005e50f2b66b485", func := "loop.example/g00722/laws.FnExactOnSuccess", spec := "fnExactOnSuccess", apart := false, narrowed := true }
def FnExactOnSuccessUptoSaid : Prop := fnExactOnSuccessUptoRow.holds Try.pinned (OpenSpec.upto fnExactOnSuccessSpec)

/-- 'laws.FnExactCanReach', WHERE WHAT IT READS IS OF BULK AT MOST 1048576: true; the input reads as it did. -/
def fnExactCanReachUptoRow : OpenClaim := { program := "ytjjklpiiiihmlaa", sum := "37fbde6368aef2ab5853d444be8180ba3887f28f582f35131005e50f2b66b485", func := "loop.example/g00722/laws.FnExactCanReach", spec := "fnExactCanReach", recurses := true, apart := false, narrowed := true }
def FnExactCanReachUptoSaid : Prop := fnExactCanReachUptoRow.holds Try.pinned (OpenSpec.upto fnExactCanReachSpec)

/-- 'laws.FnExactOnDial', WHERE WHAT IT READS IS OF BULK AT MOST 1048576: true; the input reads as it did. -/
def fnExactOnDialUptoRow : OpenClaim := { program := "ytjjklpiiiihmlaa", sum := "37fbde6368aef2ab5853d444be8180ba3887f28f582f35131005e50f2b66b485", func := "loop.example/g00722/laws.FnExactOnDial", spec := "fnExactOnDial", apart := false, narrowed := true }
def FnExactOnDialUptoSaid : Prop := fnExactOnDialUptoRow.holds Try.pinned (OpenSpec.upto fnExactOnDialSpec)

/-- 'laws.FnExactShortestEvents', WHERE WHAT IT READS IS OF BULK AT MOST 1048576: true; the input reads as it did. -/
def fnExactShortestEventsUptoRow : OpenClaim := { program := "ytjjklpiiiihmlaa", sum := "37fbde6368aef2ab5853d444be8180ba3887f28f582f35131005e50f2b66b485", func := "loop.example/g00722/laws.FnExactShortestEvents", spec := "fnExactShortestEvents", recurses := true, apart := false, narrowed := true }
def FnExactShortestEventsUptoSaid : Prop := fnExactShortestEventsUptoRow.holds Try.pinned (OpenSpec.upto fnExactShortestEventsSpec)

/-- 'laws.FnChannels', WHERE WHAT IT READS IS OF BULK AT MOST 1048576: true; the input reads as it did. -/
def fnChannelsUptoRow : OpenClaim := { program := "ytjjklpiiiihmlaa", sum := "37fbde6368aef2ab5853d444be8180ba3887f28f582f35131005e50f2b66b485", func := "loop.example/g00722/laws.FnChannels", spec := "fnChannels", apart := false, narrowed := true }
def FnChannelsUptoSaid : Prop := fnChannelsUptoRow.holds Try.pinned (OpenSpec.upto fnChannelsSpec)

/-- 'laws.FnExactOnFailure', WHERE WHAT IT READS IS OF BULK AT MOST 1048576: true; the input reads as it did. -/
def fnExactOnFailureUptoRow : OpenClaim := { program := "ytjjklpiiiihmlaa", sum := "37fbde6368aef2ab5853d444be8180ba3887f28f582f35131005e50f2b66b485", func := "loop.example/g00722/laws.FnExactOnFailure", spec := "fnExactOnFailure", unfollowed := true, recurses := true, apart := false, narrowed := true }
def FnExactOnFailureUptoSaid : Prop := fnExactOnFailureUptoRow.holds Try.pinned (OpenSpec.upto fnExactOnFailureSpec)

end Rows
end Go.Proofs.Ytjjklpiiiihmlaa
