/-
  No cell of these rows narrows 'for every input' (looked for: loops, veiled, ifaces, maps, wideKeys, modest, calm, conditions, laid).
  DERIVED. THE GIVEN ROWS OF THIS SEAT. 10 by the template 'for every input the law returns true; each argument reads behind the call as it read before'; 0 by the template 'total and deterministic' (their statements: YtgpgkedbanmheaaTotals.lean).
  GIVEN WITH THE SEED: the statements are not yours to turn. If you find one false, say at which input.
  Laid BY PROGRAM, IN A SANDBOX (cutbox-rows.mjs): the forced cells as the released guide's own fill.sh prints them over the translation 6ee3f63c41987806… (all of the seat's roots in one cut). By AI agents, Wed Nov 11 2026. No macro, syntax, notation, axiom, sorry.
-/
import Derived.Test.YtgpgkedbanmheaaChecked
import GoSem.Claim
import GoSem.ClaimJoined
import GoSem.ClaimMapViews
import Derived.JoinedTies
import Derived.KernelRfl
namespace Go.Proofs.Ytgpgkedbanmheaa
/- THE CELL 'sum', in the pinned program and in every row, IS THE sha256 OF THE DUMP (.gsa) THAT YtgpgkedbanmheaaProg.lean LOADS. Nothing in Lean hashes anything: it is a label: what it is worth is what the hold of that sum in a sandbox is worth. -/
noncomputable def Try.pinned : Pinned := { name := "ytgpgkedbanmheaa", sum := "6ee3f63c41987806f6defaae1737a20165ff496dfe8c1db5c33a2658a7337292", checked := Try.checked }
namespace Rows
def none {H : Type} : Left H := { results := [], args := [] }

/-- 'laws.FnExactPopFront': WHATEVER THE INPUT: true; the input reads as it did. -/
def fnExactPopFrontSpec : ChangeSpec := { name := "fnExactPopFront", fn := fun _ => fun
  | [d] => { results := [.lit (.bool true)], args := [d] }
  | _ => none }
def fnExactPopFrontRow : OpenClaim := { program := "ytgpgkedbanmheaa", sum := "6ee3f63c41987806f6defaae1737a20165ff496dfe8c1db5c33a2658a7337292", func := "loop.example/g00722/laws.FnExactPopFront", spec := "fnExactPopFront", apart := false }
def FnExactPopFrontSaid : Prop := fnExactPopFrontRow.holds Try.pinned (OpenSpec.ofChange fnExactPopFrontSpec)

/-- ITS FALSE NEIGHBOUR: 'it returns false'. Refute it at one input. -/
def fnExactPopFrontWrong : ChangeSpec := { name := "fnExactPopFront", fn := fun _ => fun
  | [d] => { results := [.lit (.bool false)], args := [d] }
  | _ => none }
def FnExactPopFrontWrongFalsely : Prop := fnExactPopFrontRow.holds Try.pinned (OpenSpec.ofChange fnExactPopFrontWrong)

/-- 'laws.FnExactPushBack': WHATEVER THE INPUT: true; the input reads as it did. -/
def fnExactPushBackSpec : ChangeSpec := { name := "fnExactPushBack", fn := fun _ => fun
  | [d1, d2] => { results := [.lit (.bool true)], args := [d1, d2] }
  | _ => none }
def fnExactPushBackRow : OpenClaim := { program := "ytgpgkedbanmheaa", sum := "6ee3f63c41987806f6defaae1737a20165ff496dfe8c1db5c33a2658a7337292", func := "loop.example/g00722/laws.FnExactPushBack", spec := "fnExactPushBack", unfollowed := true, recurses := true, apart := false }
def FnExactPushBackSaid : Prop := fnExactPushBackRow.holds Try.pinned (OpenSpec.ofChange fnExactPushBackSpec)

/-- ITS FALSE NEIGHBOUR: 'it returns false'. Refute it at one input. -/
def fnExactPushBackWrong : ChangeSpec := { name := "fnExactPushBack", fn := fun _ => fun
  | [d1, d2] => { results := [.lit (.bool false)], args := [d1, d2] }
  | _ => none }
def FnExactPushBackWrongFalsely : Prop := fnExactPushBackRow.holds Try.pinned (OpenSpec.ofChange fnExactPushBackWrong)

/-- 'laws.FnExactNewQueue': WHATEVER THE INPUT: true; the input reads as it did. -/
def fnExactNewQueueSpec : ChangeSpec := { name := "fnExactNewQueue", fn := fun _ => fun
  | [] => { results := [.lit (.bool true)], args := [] }
  | _ => none }
def fnExactNewQueueRow : OpenClaim := { program := "ytgpgkedbanmheaa", sum := "6ee3f63c41987806f6defaae1737a20165ff496dfe8c1db5c33a2658a7337292", func := "loop.example/g00722/laws.FnExactNewQueue", spec := "fnExactNewQueue", apart := false }
def FnExactNewQueueSaid : Prop := fnExactNewQueueRow.holds Try.pinned (OpenSpec.ofChange fnExactNewQueueSpec)

/-- ITS FALSE NEIGHBOUR: 'it returns false'. Refute it at one input. -/
def fnExactNewQueueWrong : ChangeSpec := { name := "fnExactNewQueue", fn := fun _ => fun
  | [] => { results := [.lit (.bool false)], args := [] }
  | _ => none }
def FnExactNewQueueWrongFalsely : Prop := fnExactNewQueueRow.holds Try.pinned (OpenSpec.ofChange fnExactNewQueueWrong)

/-- 'laws.FnExactQueueOk': WHATEVER THE INPUT: true; the input reads as it did. -/
def fnExactQueueOkSpec : ChangeSpec := { name := "fnExactQueueOk", fn := fun _ => fun
  | [d] => { results := [.lit (.bool true)], args := [d] }
  | _ => none }
def fnExactQueueOkRow : OpenClaim := { program := "ytgpgkedbanmheaa", sum := "6ee3f63c41987806f6defaae1737a20165ff496dfe8c1db5c33a2658a7337292", func := "loop.example/g00722/laws.FnExactQueueOk", spec := "fnExactQueueOk", apart := false }
def FnExactQueueOkSaid : Prop := fnExactQueueOkRow.holds Try.pinned (OpenSpec.ofChange fnExactQueueOkSpec)

/-- ITS FALSE NEIGHBOUR: 'it returns false'. Refute it at one input. -/
def fnExactQueueOkWrong : ChangeSpec := { name := "fnExactQueueOk", fn := fun _ => fun
  | [d] => { results := [.lit (.bool false)], args := [d] }
  | _ => none }
def FnExactQueueOkWrongFalsely : Prop := fnExactQueueOkRow.holds Try.pinned (OpenSpec.ofChange fnExactQueueOkWrong)

/-- 'laws.FnExactPlaceOf': WHATEVER THE INPUT: true; the input reads as it did. -/
def fnExactPlaceOfSpec : ChangeSpec := { name := "fnExactPlaceOf", fn := fun _ => fun
  | [d1, d2] => { results := [.lit (.bool true)], args := [d1, d2] }
  | _ => none }
def fnExactPlaceOfRow : OpenClaim := { program := "ytgpgkedbanmheaa", sum := "6ee3f63c41987806f6defaae1737a20165ff496dfe8c1db5c33a2658a7337292", func := "loop.example/g00722/laws.FnExactPlaceOf", spec := "fnExactPlaceOf", unfollowed := true, recurses := true, apart := false }
def FnExactPlaceOfSaid : Prop := fnExactPlaceOfRow.holds Try.pinned (OpenSpec.ofChange fnExactPlaceOfSpec)

/-- ITS FALSE NEIGHBOUR: 'it returns false'. Refute it at one input. -/
def fnExactPlaceOfWrong : ChangeSpec := { name := "fnExactPlaceOf", fn := fun _ => fun
  | [d1, d2] => { results := [.lit (.bool false)], args := [d1, d2] }
  | _ => none }
def FnExactPlaceOfWrongFalsely : Prop := fnExactPlaceOfRow.holds Try.pinned (OpenSpec.ofChange fnExactPlaceOfWrong)

/-- 'laws.FnExactNewLine': WHATEVER THE INPUT: true; the input reads as it did. -/
def fnExactNewLineSpec : ChangeSpec := { name := "fnExactNewLine", fn := fun _ => fun
  | [] => { results := [.lit (.bool true)], args := [] }
  | _ => none }
def fnExactNewLineRow : OpenClaim := { program := "ytgpgkedbanmheaa", sum := "6ee3f63c41987806f6defaae1737a20165ff496dfe8c1db5c33a2658a7337292", func := "loop.example/g00722/laws.FnExactNewLine", spec := "fnExactNewLine", apart := false }
def FnExactNewLineSaid : Prop := fnExactNewLineRow.holds Try.pinned (OpenSpec.ofChange fnExactNewLineSpec)

/-- ITS FALSE NEIGHBOUR: 'it returns false'. Refute it at one input. -/
def fnExactNewLineWrong : ChangeSpec := { name := "fnExactNewLine", fn := fun _ => fun
  | [] => { results := [.lit (.bool false)], args := [] }
  | _ => none }
def FnExactNewLineWrongFalsely : Prop := fnExactNewLineRow.holds Try.pinned (OpenSpec.ofChange fnExactNewLineWrong)

/-- 'laws.FnExactAheadOf': WHATEVER THE INPUT: true; the input reads as it did. -/
def fnExactAheadOfSpec : ChangeSpec := { name := "fnExactAheadOf", fn := fun _ => fun
  | [d1, d2] => { results := [.lit (.bool true)], args := [d1, d2] }
  | _ => none }
def fnExactAheadOfRow : OpenClaim := { program := "ytgpgkedbanmheaa", sum := "6ee3f63c41987806f6defaae1737a20165ff496dfe8c1db5c33a2658a7337292", func := "loop.example/g00722/laws.FnExactAheadOf", spec := "fnExactAheadOf", apart := false }
def FnExactAheadOfSaid : Prop := fnExactAheadOfRow.holds Try.pinned (OpenSpec.ofChange fnExactAheadOfSpec)

/-- ITS FALSE NEIGHBOUR: 'it returns false'. Refute it at one input. -/
def fnExactAheadOfWrong : ChangeSpec := { name := "fnExactAheadOf", fn := fun _ => fun
  | [d1, d2] => { results := [.lit (.bool false)], args := [d1, d2] }
  | _ => none }
def FnExactAheadOfWrongFalsely : Prop := fnExactAheadOfRow.holds Try.pinned (OpenSpec.ofChange fnExactAheadOfWrong)

/-- 'laws.FnQueues': WHATEVER THE INPUT: true; the input reads as it did. -/
def fnQueuesSpec : ChangeSpec := { name := "fnQueues", fn := fun _ => fun
  | [d] => { results := [.lit (.bool true)], args := [d] }
  | _ => none }
def fnQueuesRow : OpenClaim := { program := "ytgpgkedbanmheaa", sum := "6ee3f63c41987806f6defaae1737a20165ff496dfe8c1db5c33a2658a7337292", func := "loop.example/g00722/laws.FnQueues", spec := "fnQueues", unfollowed := true, recurses := true, apart := false }
def FnQueuesSaid : Prop := fnQueuesRow.holds Try.pinned (OpenSpec.ofChange fnQueuesSpec)

/-- ITS FALSE NEIGHBOUR: 'it returns false'. Refute it at one input. -/
def fnQueuesWrong : ChangeSpec := { name := "fnQueues", fn := fun _ => fun
  | [d] => { results := [.lit (.bool false)], args := [d] }
  | _ => none }
def FnQueuesWrongFalsely : Prop := fnQueuesRow.holds Try.pinned (OpenSpec.ofChange fnQueuesWrong)

/-- 'laws.FnExactListQueue': WHATEVER THE INPUT: true; the input reads as it did. -/
def fnExactListQueueSpec : ChangeSpec := { name := "fnExactListQueue", fn := fun _ => fun
  | [d] => { results := [.lit (.bool true)], args := [d] }
  | _ => none }
def fnExactListQueueRow : OpenClaim := { program := "ytgpgkedbanmheaa", sum := "6ee3f63c41987806f6defaae1737a20165ff496dfe8c1db5c33a2658a7337292", func := "loop.example/g00722/laws.FnExactListQueue", spec := "fnExactListQueue", apart := false }
def FnExactListQueueSaid : Prop := fnExactListQueueRow.holds Try.pinned (OpenSpec.ofChange fnExactListQueueSpec)

/-- ITS FALSE NEIGHBOUR: 'it returns false'. Refute it at one input. -/
def fnExactListQueueWrong : ChangeSpec := { name := "fnExactListQueue", fn := fun _ => fun
  | [d] => { results := [.lit (.bool false)], args := [d] }
  | _ => none }
def FnExactListQueueWrongFalsely : Prop := fnExactListQueueRow.holds Try.pinned (OpenSpec.ofChange fnExactListQueueWrong)

/-- 'laws.FnExactRemoveAt': WHATEVER THE INPUT: true; the input reads as it did. -/
def fnExactRemoveAtSpec : ChangeSpec := { name := "fnExactRemoveAt", fn := fun _ => fun
  | [d1, d2] => { results := [.lit (.bool true)], args := [d1, d2] }
  | _ => none }
def fnExactRemoveAtRow : OpenClaim := { program := "ytgpgkedbanmheaa", sum := "6ee3f63c41987806f6defaae1737a20165ff496dfe8c1db5c33a2658a7337292", func := "loop.example/g00722/laws.FnExactRemoveAt", spec := "fnExactRemoveAt", apart := false }
def FnExactRemoveAtSaid : Prop := fnExactRemoveAtRow.holds Try.pinned (OpenSpec.ofChange fnExactRemoveAtSpec)

/-- ITS FALSE NEIGHBOUR: 'it returns false'. Refute it at one input. -/
def fnExactRemoveAtWrong : ChangeSpec := { name := "fnExactRemoveAt", fn := fun _ => fun
  | [d1, d2] => { results := [.lit (.bool false)], args := [d1, d2] }
  | _ => none }
def FnExactRemoveAtWrongFalsely : Prop := fnExactRemoveAtRow.holds Try.pinned (OpenSpec.ofChange fnExactRemoveAtWrong)

/- THE SECOND FORM. 'bulk': how many values and letters a reading holds, each counted each time it is reached (what is shared counts as often as it is met; a slice's spare places count too). A statement '..UptoSaid' is the law's where the arguments, and the package variables that the reading takes, are together of bulk at most 1048576: NARROWER than '..Said'. Prove '..Said' where nothing that the law and all that it calls make is longer than what came in: it says more and counts as full. Else prove '..UptoSaid'. A law counts once. -/
mutual
def uptoBulk {H : Type} : DataW H → Nat
  | .lit (.string bytes) => bytes.length + 1
  | .lit _ => 1
  | .nil => 1
  | .ptr d => uptoBulk d + 1
  | .slice elems spare => uptoBulkAll elems + uptoBulkAll spare + 1
  | .agg parts => uptoBulkAll parts + 1
  | .iface _ d => uptoBulk d + 1
  | .map entries => uptoBulkEntries entries + 1
  | .held _ => 1
def uptoBulkAll {H : Type} : List (DataW H) → Nat
  | [] => 0
  | d :: r => uptoBulk d + uptoBulkAll r
def uptoBulkEntries {H : Type} : List (Lit × DataW H) → Nat
  | [] => 0
  | x :: r => uptoBulkEntry x + uptoBulkEntries r
def uptoBulkEntry {H : Type} : Lit × DataW H → Nat
  | (.string bytes, d) => bytes.length + uptoBulk d + 1
  | (_, d) => uptoBulk d + 1
 end
def uptoSmall : (H : Type) → List (DataW H) → Bool := fun _ ds => decide (uptoBulkAll ds ≤ 1048576)
def OpenSpec.upto (s : _root_.Go.ChangeSpec) : _root_.Go.OpenSpec := { _root_.Go.OpenSpec.ofChange s with cond := some uptoSmall }

/-- 'laws.FnExactPopFront', WHERE WHAT IT READS IS OF BULK AT MOST 1048576: true; the input reads as it did. -/
def fnExactPopFrontUptoRow : OpenClaim := { program := "ytgpgkedbanmheaa", sum := "6ee3f63c41987806f6defaae1737a20165ff496dfe8c1db5c33a2658a7337292", func := "loop.example/g00722/laws.FnExactPopFront", spec := "fnExactPopFront", apart := false, narrowed := true }
def FnExactPopFrontUptoSaid : Prop := fnExactPopFrontUptoRow.holds Try.pinned (OpenSpec.upto fnExactPopFrontSpec)

/-- 'laws.FnExactPushBack', WHERE WHAT IT READS IS OF BULK AT MOST 1048576: true; the input reads as it did. -/
def fnExactPushBackUptoRow : OpenClaim := { program := "ytgpgkedbanmheaa", sum := "6ee3f63c41987806f6defaae1737a20165ff496dfe8c1db5c33a2658a7337292", func := "loop.example/g00722/laws.FnExactPushBack", spec := "fnExactPushBack", unfollowed := true, recurses := true, apart := false, narrowed := true }
def FnExactPushBackUptoSaid : Prop := fnExactPushBackUptoRow.holds Try.pinned (OpenSpec.upto fnExactPushBackSpec)

/-- 'laws.FnExactNewQueue', WHERE WHAT IT READS IS OF BULK AT MOST 1048576: true; the input reads as it did. -/
def fnExactNewQueueUptoRow : OpenClaim := { program := "ytgpgkedbanmheaa", sum := "6ee3f63c41987806f6defaae1737a20165ff496dfe8c1db5c33a2658a7337292", func := "loop.example/g00722/laws.FnExactNewQueue", spec := "fnExactNewQueue", apart := false, narrowed := true }
def FnExactNewQueueUptoSaid : Prop := fnExactNewQueueUptoRow.holds Try.pinned (OpenSpec.upto fnExactNewQueueSpec)

/-- 'laws.FnExactQueueOk', WHERE WHAT IT READS IS OF BULK AT MOST 1048576: true; the input reads as it did. -/
def fnExactQueueOkUptoRow : OpenClaim := { program := "ytgpgkedbanmheaa", sum := "6ee3f63c41987806f6defaae1737a20165ff496dfe8c1db5c33a2658a7337292", func := "loop.example/g00722/laws.FnExactQueueOk", spec := "fnExactQueueOk", apart := false, narrowed := true }
def FnExactQueueOkUptoSaid : Prop := fnExactQueueOkUptoRow.holds Try.pinned (OpenSpec.upto fnExactQueueOkSpec)

/-- 'laws.FnExactPlaceOf', WHERE WHAT IT READS IS OF BULK AT MOST 1048576: true; the input reads as it did. -/
def fnExactPlaceOfUptoRow : OpenClaim := { program := "ytgpgkedbanmheaa", sum := "6ee3f63c41987806f6defaae1737a20165ff496dfe8c1db5c33a2658a7337292", func := "loop.example/g00722/laws.FnExactPlaceOf", spec := "fnExactPlaceOf", unfollowed := true, recurses := true, apart := false, narrowed := true }
def FnExactPlaceOfUptoSaid : Prop := fnExactPlaceOfUptoRow.holds Try.pinned (OpenSpec.upto fnExactPlaceOfSpec)

/-- 'laws.FnExactNewLine', WHERE WHAT IT READS IS OF BULK AT MOST 1048576: true; the input reads as it did. -/
def fnExactNewLineUptoRow : OpenClaim := { program := "ytgpgkedbanmheaa", sum := "6ee3f63c41987806f6defaae1737a20165ff496dfe8c1db5c33a2658a7337292", func := "loop.example/g00722/laws.FnExactNewLine", spec := "fnExactNewLine", apart := false, narrowed := true }
def FnExactNewLineUptoSaid : Prop := fnExactNewLineUptoRow.holds Try.pinned (OpenSpec.upto fnExactNewLineSpec)

/-- 'laws.FnExactAheadOf', WHERE WHAT IT READS IS OF BULK AT MOST 1048576: true; the input reads as it did. -/
def fnExactAheadOfUptoRow : OpenClaim := { program := "ytgpgkedbanmheaa", sum := "6ee3f63c41987806f6defaae1737a20165ff496dfe8c1db5c33a2658a7337292", func := "loop.example/g00722/laws.FnExactAheadOf", spec := "fnExactAheadOf", apart := false, narrowed := true }
def FnExactAheadOfUptoSaid : Prop := fnExactAheadOfUptoRow.holds Try.pinned (OpenSpec.upto fnExactAheadOfSpec)

/-- 'laws.FnQueues', WHERE WHAT IT READS IS OF BULK AT MOST 1048576: true; the input reads as it did. -/
def fnQueuesUptoRow : OpenClaim := { program := "ytgpgkedbanmheaa", sum := "6ee3f63c41987806f6defaae1737a20165ff496dfe8c1db5c33a2658a7337292", func := "loop.example/g00722/laws.FnQueues", spec := "fnQueues", unfollowed := true, recurses := true, apart := false, narrowed := true }
def FnQueuesUptoSaid : Prop := fnQueuesUptoRow.holds Try.pinned (OpenSpec.upto fnQueuesSpec)

/-- 'laws.FnExactListQueue', WHERE WHAT IT READS IS OF BULK AT MOST 1048576: true; the input reads as it did. -/
def fnExactListQueueUptoRow : OpenClaim := { program := "ytgpgkedbanmheaa", sum := "6ee3f63c41987806f6defaae1737a20165ff496dfe8c1db5c33a2658a7337292", func := "loop.example/g00722/laws.FnExactListQueue", spec := "fnExactListQueue", apart := false, narrowed := true }
def FnExactListQueueUptoSaid : Prop := fnExactListQueueUptoRow.holds Try.pinned (OpenSpec.upto fnExactListQueueSpec)

/-- 'laws.FnExactRemoveAt', WHERE WHAT IT READS IS OF BULK AT MOST 1048576: true; the input reads as it did. -/
def fnExactRemoveAtUptoRow : OpenClaim := { program := "ytgpgkedbanmheaa", sum := "6ee3f63c41987806f6defaae1737a20165ff496dfe8c1db5c33a2658a7337292", func := "loop.example/g00722/laws.FnExactRemoveAt", spec := "fnExactRemoveAt", apart := false, narrowed := true }
def FnExactRemoveAtUptoSaid : Prop := fnExactRemoveAtUptoRow.holds Try.pinned (OpenSpec.upto fnExactRemoveAtSpec)

end Rows
end Go.Proofs.Ytgpgkedbanmheaa
