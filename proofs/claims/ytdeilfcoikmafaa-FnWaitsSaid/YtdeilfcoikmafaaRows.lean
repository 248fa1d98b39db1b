/-
  No cell of these rows narrows 'for every input' (looked for: loops, veiled, ifaces, maps, wideKeys, modest, calm, conditions, laid).
  DERIVED. THE GIVEN ROWS OF THIS SEAT. 9 by the template 'for every input the law returns true; each argument reads behind the call as it read before'; 0 by the template 'total and deterministic' (their statements: YtdeilfcoikmafaaTotals.lean).
  GIVEN WITH THE SEED: the statements are not yours to turn. If you find one false, say at which input.
  Laid BY PROGRAM, IN A SANDBOX (cutbox-rows.mjs): the forced cells as the released guide's own fill.sh prints them over the translation becd75744e652df4… (all of the seat's roots in one cut). By AI agents, Wed Nov 11 2026. No macro, syntax, notation, axiom, sorry.
-/
import Derived.Test.YtdeilfcoikmafaaChecked
import GoSem.Claim
import GoSem.ClaimJoined
import GoSem.ClaimMapViews
import Derived.JoinedTies
import Derived.KernelRfl
namespace Go.Proofs.Ytdeilfcoikmafaa
/- THE CELL 'sum', in the pinned program and in every row, IS THE sha256 OF THE DUMP (.gsa) THAT YtdeilfcoikmafaaProg.lean LOADS. Nothing in Lean hashes anything: it is a label: what it is worth is what the hold of that sum in a sandbox is worth. -/
noncomputable def Try.pinned : Pinned := { name := "ytdeilfcoikmafaa", sum := "becd75744e652df4a763bf0682584b3fbd33841926911ad52607b480a2ed79bb", checked := Try.checked }
namespace Rows
def none {H : Type} : Left H := { results := [], args := [] }

/-- 'laws.FnExactSumTicks': WHATEVER THE INPUT: true; the input reads as it did. -/
def fnExactSumTicksSpec : ChangeSpec := { name := "fnExactSumTicks", fn := fun _ => fun
  | [d] => { results := [.lit (.bool true)], args := [d] }
  | _ => none }
def fnExactSumTicksRow : OpenClaim := { program := "ytdeilfcoikmafaa", sum := "becd75744e652df4a763bf0682584b3fbd33841926911ad52607b480a2ed79bb", func := "loop.example/g00722/laws.FnExactSumTicks", spec := "fnExactSumTicks", apart := false }
def FnExactSumTicksSaid : Prop := fnExactSumTicksRow.holds Try.pinned (OpenSpec.ofChange fnExactSumTicksSpec)

/-- ITS FALSE NEIGHBOUR: 'it returns false'. Refute it at one input. -/
def fnExactSumTicksWrong : ChangeSpec := { name := "fnExactSumTicks", fn := fun _ => fun
  | [d] => { results := [.lit (.bool false)], args := [d] }
  | _ => none }
def FnExactSumTicksWrongFalsely : Prop := fnExactSumTicksRow.holds Try.pinned (OpenSpec.ofChange fnExactSumTicksWrong)

/-- 'laws.FnExactFullWait': WHATEVER THE INPUT: true; the input reads as it did. -/
def fnExactFullWaitSpec : ChangeSpec := { name := "fnExactFullWait", fn := fun _ => fun
  | [d1, d2] => { results := [.lit (.bool true)], args := [d1, d2] }
  | _ => none }
def fnExactFullWaitRow : OpenClaim := { program := "ytdeilfcoikmafaa", sum := "becd75744e652df4a763bf0682584b3fbd33841926911ad52607b480a2ed79bb", func := "loop.example/g00722/laws.FnExactFullWait", spec := "fnExactFullWait", apart := false }
def FnExactFullWaitSaid : Prop := fnExactFullWaitRow.holds Try.pinned (OpenSpec.ofChange fnExactFullWaitSpec)

/-- ITS FALSE NEIGHBOUR: 'it returns false'. Refute it at one input. -/
def fnExactFullWaitWrong : ChangeSpec := { name := "fnExactFullWait", fn := fun _ => fun
  | [d1, d2] => { results := [.lit (.bool false)], args := [d1, d2] }
  | _ => none }
def FnExactFullWaitWrongFalsely : Prop := fnExactFullWaitRow.holds Try.pinned (OpenSpec.ofChange fnExactFullWaitWrong)

/-- 'laws.FnExactLeastWait': WHATEVER THE INPUT: true; the input reads as it did. -/
def fnExactLeastWaitSpec : ChangeSpec := { name := "fnExactLeastWait", fn := fun _ => fun
  | [d1, d2] => { results := [.lit (.bool true)], args := [d1, d2] }
  | _ => none }
def fnExactLeastWaitRow : OpenClaim := { program := "ytdeilfcoikmafaa", sum := "becd75744e652df4a763bf0682584b3fbd33841926911ad52607b480a2ed79bb", func := "loop.example/g00722/laws.FnExactLeastWait", spec := "fnExactLeastWait", apart := false }
def FnExactLeastWaitSaid : Prop := fnExactLeastWaitRow.holds Try.pinned (OpenSpec.ofChange fnExactLeastWaitSpec)

/-- ITS FALSE NEIGHBOUR: 'it returns false'. Refute it at one input. -/
def fnExactLeastWaitWrong : ChangeSpec := { name := "fnExactLeastWait", fn := fun _ => fun
  | [d1, d2] => { results := [.lit (.bool false)], args := [d1, d2] }
  | _ => none }
def FnExactLeastWaitWrongFalsely : Prop := fnExactLeastWaitRow.holds Try.pinned (OpenSpec.ofChange fnExactLeastWaitWrong)

/-- 'laws.FnExactJitteredWait': WHATEVER THE INPUT: true; the input reads as it did. -/
def fnExactJitteredWaitSpec : ChangeSpec := { name := "fnExactJitteredWait", fn := fun _ => fun
  | [d1, d2, d3] => { results := [.lit (.bool true)], args := [d1, d2, d3] }
  | _ => none }
def fnExactJitteredWaitRow : OpenClaim := { program := "ytdeilfcoikmafaa", sum := "becd75744e652df4a763bf0682584b3fbd33841926911ad52607b480a2ed79bb", func := "loop.example/g00722/laws.FnExactJitteredWait", spec := "fnExactJitteredWait", apart := false }
def FnExactJitteredWaitSaid : Prop := fnExactJitteredWaitRow.holds Try.pinned (OpenSpec.ofChange fnExactJitteredWaitSpec)

/-- ITS FALSE NEIGHBOUR: 'it returns false'. Refute it at one input. -/
def fnExactJitteredWaitWrong : ChangeSpec := { name := "fnExactJitteredWait", fn := fun _ => fun
  | [d1, d2, d3] => { results := [.lit (.bool false)], args := [d1, d2, d3] }
  | _ => none }
def FnExactJitteredWaitWrongFalsely : Prop := fnExactJitteredWaitRow.holds Try.pinned (OpenSpec.ofChange fnExactJitteredWaitWrong)

/-- 'laws.FnExactStepsToCap': WHATEVER THE INPUT: true; the input reads as it did. -/
def fnExactStepsToCapSpec : ChangeSpec := { name := "fnExactStepsToCap", fn := fun _ => fun
  | [d] => { results := [.lit (.bool true)], args := [d] }
  | _ => none }
def fnExactStepsToCapRow : OpenClaim := { program := "ytdeilfcoikmafaa", sum := "becd75744e652df4a763bf0682584b3fbd33841926911ad52607b480a2ed79bb", func := "loop.example/g00722/laws.FnExactStepsToCap", spec := "fnExactStepsToCap", apart := false }
def FnExactStepsToCapSaid : Prop := fnExactStepsToCapRow.holds Try.pinned (OpenSpec.ofChange fnExactStepsToCapSpec)

/-- ITS FALSE NEIGHBOUR: 'it returns false'. Refute it at one input. -/
def fnExactStepsToCapWrong : ChangeSpec := { name := "fnExactStepsToCap", fn := fun _ => fun
  | [d] => { results := [.lit (.bool false)], args := [d] }
  | _ => none }
def FnExactStepsToCapWrongFalsely : Prop := fnExactStepsToCapRow.holds Try.pinned (OpenSpec.ofChange fnExactStepsToCapWrong)

/-- 'laws.FnExactResized': WHATEVER THE INPUT: true; the input reads as it did. -/
def fnExactResizedSpec : ChangeSpec := { name := "fnExactResized", fn := fun _ => fun
  | [d1, d2, d3] => { results := [.lit (.bool true)], args := [d1, d2, d3] }
  | _ => none }
def fnExactResizedRow : OpenClaim := { program := "ytdeilfcoikmafaa", sum := "becd75744e652df4a763bf0682584b3fbd33841926911ad52607b480a2ed79bb", func := "loop.example/g00722/laws.FnExactResized", spec := "fnExactResized", apart := false }
def FnExactResizedSaid : Prop := fnExactResizedRow.holds Try.pinned (OpenSpec.ofChange fnExactResizedSpec)

/-- ITS FALSE NEIGHBOUR: 'it returns false'. Refute it at one input. -/
def fnExactResizedWrong : ChangeSpec := { name := "fnExactResized", fn := fun _ => fun
  | [d1, d2, d3] => { results := [.lit (.bool false)], args := [d1, d2, d3] }
  | _ => none }
def FnExactResizedWrongFalsely : Prop := fnExactResizedRow.holds Try.pinned (OpenSpec.ofChange fnExactResizedWrong)

/-- 'laws.FnExactWaitSum': WHATEVER THE INPUT: true; the input reads as it did. -/
def fnExactWaitSumSpec : ChangeSpec := { name := "fnExactWaitSum", fn := fun _ => fun
  | [d1, d2] => { results := [.lit (.bool true)], args := [d1, d2] }
  | _ => none }
def fnExactWaitSumRow : OpenClaim := { program := "ytdeilfcoikmafaa", sum := "becd75744e652df4a763bf0682584b3fbd33841926911ad52607b480a2ed79bb", func := "loop.example/g00722/laws.FnExactWaitSum", spec := "fnExactWaitSum", apart := false }
def FnExactWaitSumSaid : Prop := fnExactWaitSumRow.holds Try.pinned (OpenSpec.ofChange fnExactWaitSumSpec)

/-- ITS FALSE NEIGHBOUR: 'it returns false'. Refute it at one input. -/
def fnExactWaitSumWrong : ChangeSpec := { name := "fnExactWaitSum", fn := fun _ => fun
  | [d1, d2] => { results := [.lit (.bool false)], args := [d1, d2] }
  | _ => none }
def FnExactWaitSumWrongFalsely : Prop := fnExactWaitSumRow.holds Try.pinned (OpenSpec.ofChange fnExactWaitSumWrong)

/-- 'laws.FnExactRedials': WHATEVER THE INPUT: true; the input reads as it did. -/
def fnExactRedialsSpec : ChangeSpec := { name := "fnExactRedials", fn := fun _ => fun
  | [d1, d2] => { results := [.lit (.bool true)], args := [d1, d2] }
  | _ => none }
def fnExactRedialsRow : OpenClaim := { program := "ytdeilfcoikmafaa", sum := "becd75744e652df4a763bf0682584b3fbd33841926911ad52607b480a2ed79bb", func := "loop.example/g00722/laws.FnExactRedials", spec := "fnExactRedials", apart := false }
def FnExactRedialsSaid : Prop := fnExactRedialsRow.holds Try.pinned (OpenSpec.ofChange fnExactRedialsSpec)

/-- ITS FALSE NEIGHBOUR: 'it returns false'. Refute it at one input. -/
def fnExactRedialsWrong : ChangeSpec := { name := "fnExactRedials", fn := fun _ => fun
  | [d1, d2] => { results := [.lit (.bool false)], args := [d1, d2] }
  | _ => none }
def FnExactRedialsWrongFalsely : Prop := fnExactRedialsRow.holds Try.pinned (OpenSpec.ofChange fnExactRedialsWrong)

/-- 'laws.FnWaits': WHATEVER THE INPUT: true; the input reads as it did. -/
def fnWaitsSpec : ChangeSpec := { name := "fnWaits", fn := fun _ => fun
  | [d] => { results := [.lit (.bool true)], args := [d] }
  | _ => none }
def fnWaitsRow : OpenClaim := { program := "ytdeilfcoikmafaa", sum := "becd75744e652df4a763bf0682584b3fbd33841926911ad52607b480a2ed79bb", func := "loop.example/g00722/laws.FnWaits", spec := "fnWaits", apart := false }
def FnWaitsSaid : Prop := fnWaitsRow.holds Try.pinned (OpenSpec.ofChange fnWaitsSpec)

/-- ITS FALSE NEIGHBOUR: 'it returns false'. Refute it at one input. -/
def fnWaitsWrong : ChangeSpec := { name := "fnWaits", fn := fun _ => fun
  | [d] => { results := [.lit (.bool false)], args := [d] }
  | _ => none }
def FnWaitsWrongFalsely : Prop := fnWaitsRow.holds Try.pinned (OpenSpec.ofChange fnWaitsWrong)

/- THE SECOND FORM. 'bulk': how many values and letters a reading holds, each counted each time it is reached (what is shared counts as often as it is met; a slice's spare places count too). A statement '..UptoSaid' is the law's where the arguments, and the package variables that the reading takes, are together of bulk at most 1048576: NARROWER than '..Said'. Prove '..Said' where nothing that the law and all that it calls make is longer than what came in: it says more and counts as full. Else prove '..UptoSaid'. A law counts once. -/
mutual
def uptoBulk {H : Type} : DataW H → Nat
  | .lit (.string bytes) => bytes.length + 1
  | .lit _ => 1
  | .nil => 1
  | .ptr d => uptoBulk d + 1
  | .slice elems spare => uptoBulkAll elems + uptoBulkAll spare + 1
  | .agg parts => uptoBulkAll parts + 1
  | .iface _ d => uptoBulk d + 1
  | .map entries => uptoBulkEntries entries + 1
  | .held _ => 1
def uptoBulkAll {H : Type} : List (DataW H) → Nat
  | [] => 0
  | d :: r => uptoBulk d + uptoBulkAll r
def uptoBulkEntries {H : Type} : List (Lit × DataW H) → Nat
  | [] => 0
  | x :: r => uptoBulkEntry x + uptoBulkEntries r
def uptoBulkEntry {H : Type} : Lit × DataW H → Nat
  | (.string bytes, d) => bytes.length + uptoBulk d + 1
  | (_, d) => uptoBulk d + 1
 end
def uptoSmall : (H : Type) → List (DataW H) → Bool := fun _ ds => decide (uptoBulkAll ds ≤ 1048576)
def OpenSpec.upto (s : _root_.Go.ChangeSpec) : _root_.Go.OpenSpec := { _root_.Go.OpenSpec.ofChange s with cond := some uptoSmall }

/-- 'laws.FnExactSumTicks', WHERE WHAT IT READS IS OF BULK AT MOST 1048576: true; the input reads as it did. -/
def fnExactSumTicksUptoRow : OpenClaim := { program := "ytdeilfcoikmafaa", sum := "becd75744e652df4a763bf0682584b3fbd33841926911ad52607b480a2ed79bb", func := "loop.example/g00722/laws.FnExactSumTicks", spec := "fnExactSumTicks", apart := false, narrowed := true }
def FnExactSumTicksUptoSaid : Prop := fnExactSumTicksUptoRow.holds Try.pinned (OpenSpec.upto fnExactSumTicksSpec)

/-- 'laws.FnExactFullWait', WHERE WHAT IT READS IS OF BULK AT MOST 1048576: true; the input reads as it did. -/
def fnExactFullWaitUptoRow : OpenClaim := { program := "ytdeilfcoikmafaa", sum := "becd75744e652df4a763bf0682584b3fbd33841926911ad52607b480a2ed79bb", func := "loop.example/g00722/laws.FnExactFullWait", spec := "fnExactFullWait", apart := false, narrowed := true }
def FnExactFullWaitUptoSaid : Prop := fnExactFullWaitUptoRow.holds Try.pinned (OpenSpec.upto fnExactFullWaitSpec)

/-- 'laws.FnExactLeastWait', WHERE WHAT IT READS IS OF BULK AT MOST 1048576: true; the input reads as it did. -/
def fnExactLeastWaitUptoRow : OpenClaim := { program := "ytdeilfcoikmafaa", sum := "becd75744e652df4a763bf0682584b3fbd33841926911ad52607b480a2ed79bb", func := "loop.example/g00722/laws.FnExactLeastWait", spec := "fnExactLeastWait", apart := false, narrowed := true }
def FnExactLeastWaitUptoSaid : Prop := fnExactLeastWaitUptoRow.holds Try.pinned (OpenSpec.upto fnExactLeastWaitSpec)

/-- 'laws.FnExactJitteredWait', WHERE WHAT IT READS IS OF BULK AT MOST 1048576: true; the input reads as it did. -/
def fnExactJitteredWaitUptoRow : OpenClaim := { program := "ytdeilfcoikmafaa", sum := "becd75744e652df4a763bf0682584b3fbd33841926911ad52607b480a2ed79bb", func := "loop.example/g00722/laws.FnExactJitteredWait", spec := "fnExactJitteredWait", apart := false, narrowed := true }
def FnExactJitteredWaitUptoSaid : Prop := fnExactJitteredWaitUptoRow.holds Try.pinned (OpenSpec.upto fnExactJitteredWaitSpec)

/-- 'laws.FnExactStepsToCap', WHERE WHAT IT READS IS OF BULK AT MOST 1048576: true; the input reads as it did. -/
def fnExactStepsToCapUptoRow : OpenClaim := { program := "ytdeilfcoikmafaa", sum := "becd75744e652df4a763bf0682584b3fbd33841926911ad52607b480a2ed79bb", func := "loop.example/g00722/laws.FnExactStepsToCap", spec := "fnExactStepsToCap", apart := false, narrowed := true }
def FnExactStepsToCapUptoSaid : Prop := fnExactStepsToCapUptoRow.holds Try.pinned (OpenSpec.upto fnExactStepsToCapSpec)

/-- 'laws.FnExactResized', WHERE WHAT IT READS IS OF BULK AT MOST 1048576: true; the input reads as it did. -/
def fnExactResizedUptoRow : OpenClaim := { program := "ytdeilfcoikmafaa", sum := "becd75744e652df4a763bf0682584b3fbd33841926911ad52607b480a2ed79bb", func := "loop.example/g00722/laws.FnExactResized", spec := "fnExactResized", apart := false, narrowed := true }
def FnExactResizedUptoSaid : Prop := fnExactResizedUptoRow.holds Try.pinned (OpenSpec.upto fnExactResizedSpec)

/-- 'laws.FnExactWaitSum', WHERE WHAT IT READS IS OF BULK AT MOST 1048576: true; the input reads as it did. -/
def fnExactWaitSumUptoRow : OpenClaim := { program := "ytdeilfcoikmafaa", sum := "becd75744e652df4a763bf0682584b3fbd33841926911ad52607b480a2ed79bb", func := "loop.example/g00722/laws.FnExactWaitSum", spec := "fnExactWaitSum", apart := false, narrowed := true }
def FnExactWaitSumUptoSaid : Prop := fnExactWaitSumUptoRow.holds Try.pinned (OpenSpec.upto fnExactWaitSumSpec)

/-- 'laws.FnExactRedials', WHERE WHAT IT READS IS OF BULK AT MOST 1048576: true; the input reads as it did. -/
def fnExactRedialsUptoRow : OpenClaim := { program := "ytdeilfcoikmafaa", sum := "becd75744e652df4a763bf0682584b3fbd33841926911ad52607b480a2ed79bb", func := "loop.example/g00722/laws.FnExactRedials", spec := "fnExactRedials", apart := false, narrowed := true }
def FnExactRedialsUptoSaid : Prop := fnExactRedialsUptoRow.holds Try.pinned (OpenSpec.upto fnExactRedialsSpec)

/-- 'laws.FnWaits', WHERE WHAT IT READS IS OF BULK AT MOST 1048576: true; the input reads as it did. -/
def fnWaitsUptoRow : OpenClaim := { program := "ytdeilfcoikmafaa", sum := "becd75744e652df4a763bf0682584b3fbd33841926911ad52607b480a2ed79bb", func := "loop.example/g00722/laws.FnWaits", spec := "fnWaits", apart := false, narrowed := true }
def FnWaitsUptoSaid : Prop := fnWaitsUptoRow.holds Try.pinned (OpenSpec.upto fnWaitsSpec)

end Rows
end Go.Proofs.Ytdeilfcoikmafaa
