/-
  No cell of these rows narrows 'for every input' (looked for: loops, veiled, ifaces, maps, wideKeys, modest, calm, conditions, laid).
  DERIVED. THE GIVEN ROWS OF THIS SEAT. 8 by the template 'for every input the law returns true; each argument reads behind the call as it read before'; 0 by the template 'total and deterministic' (their statements: YtpckdemamlhpdaaTotals.lean).
  GIVEN WITH THE SEED: the statements are not yours to turn. If you find one false, say at which input.
  Laid BY PROGRAM, IN A SANDBOX (cutbox-rows.mjs): the forced cells as the released guide's own fill.sh prints them over the translation abb53d804495e441… (all of the seat's roots in one cut). By AI agents, Wed Nov 11 2026. No macro, syntax, notation, axiom, sorry.
-/
import Derived.Test.YtpckdemamlhpdaaChecked
import GoSem.Claim
import GoSem.ClaimJoined
import GoSem.ClaimMapViews
import Derived.JoinedTies
import Derived.KernelRfl
namespace Go.Proofs.Ytpckdemamlhpdaa
/- THE CELL 'sum', in the pinned program and in every row, IS THE sha256 OF THE DUMP (.gsa) THAT YtpckdemamlhpdaaProg.lean LOADS. Nothing in Lean hashes anything: it is a label: what it is worth is what the hold of that sum in a sandbox is worth. -/
noncomputable def Try.pinned : Pinned := { name := "ytpckdemamlhpdaa", sum := "abb53d804495e441b4b006d4f2b1137fd141e8fb3b80f97218603dba5ff6f6ec", checked := Try.checked }
namespace Rows
def none {H : Type} : Left H := { results := [], args := [] }

/-- 'laws.FnExactStepConn': WHATEVER THE INPUT: true; the input reads as it did. -/
def fnExactStepConnSpec : ChangeSpec := { name := "fnExactStepConn", fn := fun _ => fun
  | [d1, d2, d3, d4] => { results := [.lit (.bool true)], args := [d1, d2, d3, d4] }
  | _ => none }
def fnExactStepConnRow : OpenClaim := { program := "ytpckdemamlhpdaa", sum := "abb53d804495e441b4b006d4f2b1137fd141e8fb3b80f97218603dba5ff6f6ec", func := "loop.example/g00722/laws.FnExactStepConn", spec := "fnExactStepConn", apart := false }
def FnExactStepConnSaid : Prop := fnExactStepConnRow.holds Try.pinned (OpenSpec.ofChange fnExactStepConnSpec)

/-- ITS FALSE NEIGHBOUR: 'it returns false'. Refute it at one input. -/
def fnExactStepConnWrong : ChangeSpec := { name := "fnExactStepConn", fn := fun _ => fun
  | [d1, d2, d3, d4] => { results := [.lit (.bool false)], args := [d1, d2, d3, d4] }
  | _ => none }
def FnExactStepConnWrongFalsely : Prop := fnExactStepConnRow.holds Try.pinned (OpenSpec.ofChange fnExactStepConnWrong)

/-- 'laws.FnExactHeapOk': WHATEVER THE INPUT: true; the input reads as it did. -/
def fnExactHeapOkSpec : ChangeSpec := { name := "fnExactHeapOk", fn := fun _ => fun
  | [d] => { results := [.lit (.bool true)], args := [d] }
  | _ => none }
def fnExactHeapOkRow : OpenClaim := { program := "ytpckdemamlhpdaa", sum := "abb53d804495e441b4b006d4f2b1137fd141e8fb3b80f97218603dba5ff6f6ec", func := "loop.example/g00722/laws.FnExactHeapOk", spec := "fnExactHeapOk", apart := false }
def FnExactHeapOkSaid : Prop := fnExactHeapOkRow.holds Try.pinned (OpenSpec.ofChange fnExactHeapOkSpec)

/-- ITS FALSE NEIGHBOUR: 'it returns false'. Refute it at one input. -/
def fnExactHeapOkWrong : ChangeSpec := { name := "fnExactHeapOk", fn := fun _ => fun
  | [d] => { results := [.lit (.bool false)], args := [d] }
  | _ => none }
def FnExactHeapOkWrongFalsely : Prop := fnExactHeapOkRow.holds Try.pinned (OpenSpec.ofChange fnExactHeapOkWrong)

/-- 'laws.FnExactConnDue': WHATEVER THE INPUT: true; the input reads as it did. -/
def fnExactConnDueSpec : ChangeSpec := { name := "fnExactConnDue", fn := fun _ => fun
  | [d1, d2, d3] => { results := [.lit (.bool true)], args := [d1, d2, d3] }
  | _ => none }
def fnExactConnDueRow : OpenClaim := { program := "ytpckdemamlhpdaa", sum := "abb53d804495e441b4b006d4f2b1137fd141e8fb3b80f97218603dba5ff6f6ec", func := "loop.example/g00722/laws.FnExactConnDue", spec := "fnExactConnDue", unfollowed := true, recurses := true, apart := false }
def FnExactConnDueSaid : Prop := fnExactConnDueRow.holds Try.pinned (OpenSpec.ofChange fnExactConnDueSpec)

/-- ITS FALSE NEIGHBOUR: 'it returns false'. Refute it at one input. -/
def fnExactConnDueWrong : ChangeSpec := { name := "fnExactConnDue", fn := fun _ => fun
  | [d1, d2, d3] => { results := [.lit (.bool false)], args := [d1, d2, d3] }
  | _ => none }
def FnExactConnDueWrongFalsely : Prop := fnExactConnDueRow.holds Try.pinned (OpenSpec.ofChange fnExactConnDueWrong)

/-- 'laws.FnExactNextDue': WHATEVER THE INPUT: true; the input reads as it did. -/
def fnExactNextDueSpec : ChangeSpec := { name := "fnExactNextDue", fn := fun _ => fun
  | [d] => { results := [.lit (.bool true)], args := [d] }
  | _ => none }
def fnExactNextDueRow : OpenClaim := { program := "ytpckdemamlhpdaa", sum := "abb53d804495e441b4b006d4f2b1137fd141e8fb3b80f97218603dba5ff6f6ec", func := "loop.example/g00722/laws.FnExactNextDue", spec := "fnExactNextDue", apart := false }
def FnExactNextDueSaid : Prop := fnExactNextDueRow.holds Try.pinned (OpenSpec.ofChange fnExactNextDueSpec)

/-- ITS FALSE NEIGHBOUR: 'it returns false'. Refute it at one input. -/
def fnExactNextDueWrong : ChangeSpec := { name := "fnExactNextDue", fn := fun _ => fun
  | [d] => { results := [.lit (.bool false)], args := [d] }
  | _ => none }
def FnExactNextDueWrongFalsely : Prop := fnExactNextDueRow.holds Try.pinned (OpenSpec.ofChange fnExactNextDueWrong)

/-- 'laws.FnExactNextConnDue': WHATEVER THE INPUT: true; the input reads as it did. -/
def fnExactNextConnDueSpec : ChangeSpec := { name := "fnExactNextConnDue", fn := fun _ => fun
  | [d1, d2] => { results := [.lit (.bool true)], args := [d1, d2] }
  | _ => none }
def fnExactNextConnDueRow : OpenClaim := { program := "ytpckdemamlhpdaa", sum := "abb53d804495e441b4b006d4f2b1137fd141e8fb3b80f97218603dba5ff6f6ec", func := "loop.example/g00722/laws.FnExactNextConnDue", spec := "fnExactNextConnDue", unfollowed := true, recurses := true, apart := false }
def FnExactNextConnDueSaid : Prop := fnExactNextConnDueRow.holds Try.pinned (OpenSpec.ofChange fnExactNextConnDueSpec)

/-- ITS FALSE NEIGHBOUR: 'it returns false'. Refute it at one input. -/
def fnExactNextConnDueWrong : ChangeSpec := { name := "fnExactNextConnDue", fn := fun _ => fun
  | [d1, d2] => { results := [.lit (.bool false)], args := [d1, d2] }
  | _ => none }
def FnExactNextConnDueWrongFalsely : Prop := fnExactNextConnDueRow.holds Try.pinned (OpenSpec.ofChange fnExactNextConnDueWrong)

/-- 'laws.FnExactDueOf': WHATEVER THE INPUT: true; the input reads as it did. -/
def fnExactDueOfSpec : ChangeSpec := { name := "fnExactDueOf", fn := fun _ => fun
  | [d1, d2] => { results := [.lit (.bool true)], args := [d1, d2] }
  | _ => none }
def fnExactDueOfRow : OpenClaim := { program := "ytpckdemamlhpdaa", sum := "abb53d804495e441b4b006d4f2b1137fd141e8fb3b80f97218603dba5ff6f6ec", func := "loop.example/g00722/laws.FnExactDueOf", spec := "fnExactDueOf", unfollowed := true, recurses := true, apart := false }
def FnExactDueOfSaid : Prop := fnExactDueOfRow.holds Try.pinned (OpenSpec.ofChange fnExactDueOfSpec)

/-- ITS FALSE NEIGHBOUR: 'it returns false'. Refute it at one input. -/
def fnExactDueOfWrong : ChangeSpec := { name := "fnExactDueOf", fn := fun _ => fun
  | [d1, d2] => { results := [.lit (.bool false)], args := [d1, d2] }
  | _ => none }
def FnExactDueOfWrongFalsely : Prop := fnExactDueOfRow.holds Try.pinned (OpenSpec.ofChange fnExactDueOfWrong)

/-- 'laws.FnExactPlayConn': WHATEVER THE INPUT: true; the input reads as it did. -/
def fnExactPlayConnSpec : ChangeSpec := { name := "fnExactPlayConn", fn := fun _ => fun
  | [d1, d2] => { results := [.lit (.bool true)], args := [d1, d2] }
  | _ => none }
def fnExactPlayConnRow : OpenClaim := { program := "ytpckdemamlhpdaa", sum := "abb53d804495e441b4b006d4f2b1137fd141e8fb3b80f97218603dba5ff6f6ec", func := "loop.example/g00722/laws.FnExactPlayConn", spec := "fnExactPlayConn", apart := false }
def FnExactPlayConnSaid : Prop := fnExactPlayConnRow.holds Try.pinned (OpenSpec.ofChange fnExactPlayConnSpec)

/-- ITS FALSE NEIGHBOUR: 'it returns false'. Refute it at one input. -/
def fnExactPlayConnWrong : ChangeSpec := { name := "fnExactPlayConn", fn := fun _ => fun
  | [d1, d2] => { results := [.lit (.bool false)], args := [d1, d2] }
  | _ => none }
def FnExactPlayConnWrongFalsely : Prop := fnExactPlayConnRow.holds Try.pinned (OpenSpec.ofChange fnExactPlayConnWrong)

/-- 'laws.FnConns': WHATEVER THE INPUT: true; the input reads as it did. -/
def fnConnsSpec : ChangeSpec := { name := "fnConns", fn := fun _ => fun
  | [d] => { results := [.lit (.bool true)], args := [d] }
  | _ => none }
def fnConnsRow : OpenClaim := { program := "ytpckdemamlhpdaa", sum := "abb53d804495e441b4b006d4f2b1137fd141e8fb3b80f97218603dba5ff6f6ec", func := "loop.example/g00722/laws.FnConns", spec := "fnConns", unfollowed := true, recurses := true, apart := false }
def FnConnsSaid : Prop := fnConnsRow.holds Try.pinned (OpenSpec.ofChange fnConnsSpec)

/-- ITS FALSE NEIGHBOUR: 'it returns false'. Refute it at one input. -/
def fnConnsWrong : ChangeSpec := { name := "fnConns", fn := fun _ => fun
  | [d] => { results := [.lit (.bool false)], args := [d] }
  | _ => none }
def FnConnsWrongFalsely : Prop := fnConnsRow.holds Try.pinned (OpenSpec.ofChange fnConnsWrong)

/- THE SECOND FORM. 'bulk': how many values and letters a reading holds, each counted each time it is reached (what is shared counts as often as it is met; a slice's spare places count too). A statement '..UptoSaid' is the law's where the arguments, and the package variables that the reading takes, are together of bulk at most 1048576: NARROWER than '..Said'. Prove '..Said' where nothing that the law and all that it calls make is longer than what came in: it says more and counts as full. Else prove '..UptoSaid'. A law counts once. -/
mutual
def uptoBulk {H : Type} : DataW H → Nat
  | .lit (.string bytes) => bytes.length + 1
  | .lit _ => 1
  | .nil => 1
  | .ptr d => uptoBulk d + 1
  | .slice elems spare => uptoBulkAll elems + uptoBulkAll spare + 1
  | .agg parts => uptoBulkAll parts + 1
  | .iface _ d => uptoBulk d + 1
  | .map entries => uptoBulkEntries entries + 1
  | .held _ => 1
def uptoBulkAll {H : Type} : List (DataW H) → Nat
  | [] => 0
  | d :: r => uptoBulk d + uptoBulkAll r
def uptoBulkEntries {H : Type} : List (Lit × DataW H) → Nat
  | [] => 0
  | x :: r => uptoBulkEntry x + uptoBulkEntries r
def uptoBulkEntry {H : Type} : Lit × DataW H → Nat
  | (.string bytes, d) => bytes.length + uptoBulk d + 1
  | (_, d) => uptoBulk d + 1
 end
def uptoSmall : (H : Type) → List (DataW H) → Bool := fun _ ds => decide (uptoBulkAll ds ≤ 1048576)
def OpenSpec.upto (s : _root_.Go.ChangeSpec) : _root_.Go.OpenSpec := { _root_.Go.OpenSpec.ofChange s with cond := some uptoSmall }

/-- 'laws.FnExactStepConn', WHERE WHAT IT READS IS OF BULK AT MOST 1048576: true; the input reads as it did. -/
def fnExactStepConnUptoRow : OpenClaim := { program := "ytpckdemamlhpdaa", sum := "abb53d804495e441b4b006d4f2b1137fd141e8fb3b80f97218603dba5ff6f6ec", func := "loop.example/g00722/laws.FnExactStepConn", spec := "fnExactStepConn", apart := false, narrowed := true }
def FnExactStepConnUptoSaid : Prop := fnExactStepConnUptoRow.holds Try.pinned (OpenSpec.upto fnExactStepConnSpec)

/-- 'laws.FnExactHeapOk', WHERE WHAT IT READS IS OF BULK AT MOST 1048576: true; the input reads as it did. -/
def fnExactHeapOkUptoRow : OpenClaim := { program := "ytpckdemamlhpdaa", sum := "abb53d804495e441b4b006d4f2b1137fd141e8fb3b80f97218603dba5ff6f6ec", func := "loop.example/g00722/laws.FnExactHeapOk", spec := "fnExactHeapOk", apart := false, narrowed := true }
def FnExactHeapOkUptoSaid : Prop := fnExactHeapOkUptoRow.holds Try.pinned (OpenSpec.upto fnExactHeapOkSpec)

/-- 'laws.FnExactConnDue', WHERE WHAT IT READS IS OF BULK AT MOST 1048576: true; the input reads as it did. -/
def fnExactConnDueUptoRow : OpenClaim := { program := "ytpckdemamlhpdaa", sum := "abb53d804495e441b4b006d4f2b1137fd141e8fb3b80f97218603dba5ff6f6ec", func := "loop.example/g00722/laws.FnExactConnDue", spec := "fnExactConnDue", unfollowed := true, recurses := true, apart := false, narrowed := true }
def FnExactConnDueUptoSaid : Prop := fnExactConnDueUptoRow.holds Try.pinned (OpenSpec.upto fnExactConnDueSpec)

/-- 'laws.FnExactNextDue', WHERE WHAT IT READS IS OF BULK AT MOST 1048576: true; the input reads as it did. -/
def fnExactNextDueUptoRow : OpenClaim := { program := "ytpckdemamlhpdaa", sum := "abb53d804495e441b4b006d4f2b1137fd141e8fb3b80f97218603dba5ff6f6ec", func := "loop.example/g00722/laws.FnExactNextDue", spec := "fnExactNextDue", apart := false, narrowed := true }
def FnExactNextDueUptoSaid : Prop := fnExactNextDueUptoRow.holds Try.pinned (OpenSpec.upto fnExactNextDueSpec)

/-- 'laws.FnExactNextConnDue', WHERE WHAT IT READS IS OF BULK AT MOST 1048576: true; the input reads as it did. -/
def fnExactNextConnDueUptoRow : OpenClaim := { program := "ytpckdemamlhpdaa", sum := "abb53d804495e441b4b006d4f2b1137fd141e8fb3b80f97218603dba5ff6f6ec", func := "loop.example/g00722/laws.FnExactNextConnDue", spec := "fnExactNextConnDue", unfollowed := true, recurses := true, apart := false, narrowed := true }
def FnExactNextConnDueUptoSaid : Prop := fnExactNextConnDueUptoRow.holds Try.pinned (OpenSpec.upto fnExactNextConnDueSpec)

/-- 'laws.FnExactDueOf', WHERE WHAT IT READS IS OF BULK AT MOST 1048576: true; the input reads as it did. -/
def fnExactDueOfUptoRow : OpenClaim := { program := "ytpckdemamlhpdaa", sum := "abb53d804495e441b4b006d4f2b1137fd141e8fb3b80f97218603dba5ff6f6ec", func := "loop.example/g00722/laws.FnExactDueOf", spec := "fnExactDueOf", unfollowed := true, recurses := true, apart := false, narrowed := true }
def FnExactDueOfUptoSaid : Prop := fnExactDueOfUptoRow.holds Try.pinned (OpenSpec.upto fnExactDueOfSpec)

/-- 'laws.FnExactPlayConn', WHERE WHAT IT READS IS OF BULK AT MOST 1048576: true; the input reads as it did. -/
def fnExactPlayConnUptoRow : OpenClaim := { program := "ytpckdemamlhpdaa", sum := "abb53d804495e441b4b006d4f2b1137fd141e8fb3b80f97218603dba5ff6f6ec", func := "loop.example/g00722/laws.FnExactPlayConn", spec := "fnExactPlayConn", apart := false, narrowed := true }
def FnExactPlayConnUptoSaid : Prop := fnExactPlayConnUptoRow.holds Try.pinned (OpenSpec.upto fnExactPlayConnSpec)

/-- 'laws.FnConns', WHERE WHAT IT READS IS OF BULK AT MOST 1048576: true; the input reads as it did. -/
def fnConnsUptoRow : OpenClaim := { program := "ytpckdemamlhpdaa", sum := "abb53d804495e441b4b006d4f2b1137fd141e8fb3b80f97218603dba5ff6f6ec", func := "loop.example/g00722/laws.FnConns", spec := "fnConns", unfollowed := true, recurses := true, apart := false, narrowed := true }
def FnConnsUptoSaid : Prop := fnConnsUptoRow.holds Try.pinned (OpenSpec.upto fnConnsSpec)

end Rows
end Go.Proofs.Ytpckdemamlhpdaa
