/-
  No cell of these rows narrows 'for every input' (looked for: loops, veiled, ifaces, maps, wideKeys, modest, calm, conditions, laid).
  DERIVED. THE GIVEN ROWS OF THIS SEAT. 12 by the template 'for every input the law returns true; each argument reads behind the call as it read before'; 0 by the template 'total and deterministic' (their statements: YtpcddljnlkbepaaTotals.lean).
  GIVEN WITH THE SEED: the statements are not yours to turn. If you find one false, say at which input.
  Laid BY PROGRAM, IN A SANDBOX (cutbox-rows.mjs): the forced cells as the released guide's own fill.sh prints them over the translation 35c1a9bd5821785d… (all of the seat's roots in one cut). By AI agents, Wed Nov 11 2026. No macro, syntax, notation, axiom, sorry.
-/
import Derived.Test.YtpcddljnlkbepaaChecked
import GoSem.Claim
import GoSem.ClaimJoined
import GoSem.ClaimMapViews
import Derived.JoinedTies
import Derived.KernelRfl
namespace Go.Proofs.Ytpcddljnlkbepaa
/- THE CELL 'sum', in the pinned program and in every row, IS THE sha256 OF THE DUMP (.gsa) THAT YtpcddljnlkbepaaProg.lean LOADS. Nothing in Lean hashes anything: it is a label: what it is worth is what the hold of that sum in a sandbox is worth. -/
noncomputable def Try.pinned : Pinned := { name := "ytpcddljnlkbepaa", sum := "35c1a9bd5821785d4177a2cdc9e4f5662250ac10d4aaad6b163f920922c544be", checked := Try.checked }
namespace Rows
def none {H : Type} : Left H := { results := [], args := [] }

/-- 'laws.FnExactConstants': WHATEVER THE INPUT: true; the input reads as it did. -/
def fnExactConstantsSpec : ChangeSpec := { name := "fnExactConstants", fn := fun _ => fun
  | [] => { results := [.lit (.bool true)], args := [] }
  | _ => none }
def fnExactConstantsRow : OpenClaim := { program := "ytpcddljnlkbepaa", sum := "35c1a9bd5821785d4177a2cdc9e4f5662250ac10d4aaad6b163f920922c544be", func := "loop.example/g00722/laws.FnExactConstants", spec := "fnExactConstants", apart := false }
def FnExactConstantsSaid : Prop := fnExactConstantsRow.holds Try.pinned (OpenSpec.ofChange fnExactConstantsSpec)

/-- ITS FALSE NEIGHBOUR: 'it returns false'. Refute it at one input. -/
def fnExactConstantsWrong : ChangeSpec := { name := "fnExactConstants", fn := fun _ => fun
  | [] => { results := [.lit (.bool false)], args := [] }
  | _ => none }
def FnExactConstantsWrongFalsely : Prop := fnExactConstantsRow.holds Try.pinned (OpenSpec.ofChange fnExactConstantsWrong)

/-- 'laws.FnExactTickOk': WHATEVER THE INPUT: true; the input reads as it did. -/
def fnExactTickOkSpec : ChangeSpec := { name := "fnExactTickOk", fn := fun _ => fun
  | [d] => { results := [.lit (.bool true)], args := [d] }
  | _ => none }
def fnExactTickOkRow : OpenClaim := { program := "ytpcddljnlkbepaa", sum := "35c1a9bd5821785d4177a2cdc9e4f5662250ac10d4aaad6b163f920922c544be", func := "loop.example/g00722/laws.FnExactTickOk", spec := "fnExactTickOk", apart := false }
def FnExactTickOkSaid : Prop := fnExactTickOkRow.holds Try.pinned (OpenSpec.ofChange fnExactTickOkSpec)

/-- ITS FALSE NEIGHBOUR: 'it returns false'. Refute it at one input. -/
def fnExactTickOkWrong : ChangeSpec := { name := "fnExactTickOk", fn := fun _ => fun
  | [d] => { results := [.lit (.bool false)], args := [d] }
  | _ => none }
def FnExactTickOkWrongFalsely : Prop := fnExactTickOkRow.holds Try.pinned (OpenSpec.ofChange fnExactTickOkWrong)

/-- 'laws.FnExactChannelName': WHATEVER THE INPUT: true; the input reads as it did. -/
def fnExactChannelNameSpec : ChangeSpec := { name := "fnExactChannelName", fn := fun _ => fun
  | [d] => { results := [.lit (.bool true)], args := [d] }
  | _ => none }
def fnExactChannelNameRow : OpenClaim := { program := "ytpcddljnlkbepaa", sum := "35c1a9bd5821785d4177a2cdc9e4f5662250ac10d4aaad6b163f920922c544be", func := "loop.example/g00722/laws.FnExactChannelName", spec := "fnExactChannelName", apart := false }
def FnExactChannelNameSaid : Prop := fnExactChannelNameRow.holds Try.pinned (OpenSpec.ofChange fnExactChannelNameSpec)

/-- ITS FALSE NEIGHBOUR: 'it returns false'. Refute it at one input. -/
def fnExactChannelNameWrong : ChangeSpec := { name := "fnExactChannelName", fn := fun _ => fun
  | [d] => { results := [.lit (.bool false)], args := [d] }
  | _ => none }
def FnExactChannelNameWrongFalsely : Prop := fnExactChannelNameRow.holds Try.pinned (OpenSpec.ofChange fnExactChannelNameWrong)

/-- 'laws.FnExactSince': WHATEVER THE INPUT: true; the input reads as it did. -/
def fnExactSinceSpec : ChangeSpec := { name := "fnExactSince", fn := fun _ => fun
  | [d1, d2] => { results := [.lit (.bool true)], args := [d1, d2] }
  | _ => none }
def fnExactSinceRow : OpenClaim := { program := "ytpcddljnlkbepaa", sum := "35c1a9bd5821785d4177a2cdc9e4f5662250ac10d4aaad6b163f920922c544be", func := "loop.example/g00722/laws.FnExactSince", spec := "fnExactSince", apart := false }
def FnExactSinceSaid : Prop := fnExactSinceRow.holds Try.pinned (OpenSpec.ofChange fnExactSinceSpec)

/-- ITS FALSE NEIGHBOUR: 'it returns false'. Refute it at one input. -/
def fnExactSinceWrong : ChangeSpec := { name := "fnExactSince", fn := fun _ => fun
  | [d1, d2] => { results := [.lit (.bool false)], args := [d1, d2] }
  | _ => none }
def FnExactSinceWrongFalsely : Prop := fnExactSinceRow.holds Try.pinned (OpenSpec.ofChange fnExactSinceWrong)

/-- 'laws.FnExactAddTick': WHATEVER THE INPUT: true; the input reads as it did. -/
def fnExactAddTickSpec : ChangeSpec := { name := "fnExactAddTick", fn := fun _ => fun
  | [d1, d2] => { results := [.lit (.bool true)], args := [d1, d2] }
  | _ => none }
def fnExactAddTickRow : OpenClaim := { program := "ytpcddljnlkbepaa", sum := "35c1a9bd5821785d4177a2cdc9e4f5662250ac10d4aaad6b163f920922c544be", func := "loop.example/g00722/laws.FnExactAddTick", spec := "fnExactAddTick", apart := false }
def FnExactAddTickSaid : Prop := fnExactAddTickRow.holds Try.pinned (OpenSpec.ofChange fnExactAddTickSpec)

/-- ITS FALSE NEIGHBOUR: 'it returns false'. Refute it at one input. -/
def fnExactAddTickWrong : ChangeSpec := { name := "fnExactAddTick", fn := fun _ => fun
  | [d1, d2] => { results := [.lit (.bool false)], args := [d1, d2] }
  | _ => none }
def FnExactAddTickWrongFalsely : Prop := fnExactAddTickRow.holds Try.pinned (OpenSpec.ofChange fnExactAddTickWrong)

/-- 'laws.FnExactDueAt': WHATEVER THE INPUT: true; the input reads as it did. -/
def fnExactDueAtSpec : ChangeSpec := { name := "fnExactDueAt", fn := fun _ => fun
  | [d1, d2, d3] => { results := [.lit (.bool true)], args := [d1, d2, d3] }
  | _ => none }
def fnExactDueAtRow : OpenClaim := { program := "ytpcddljnlkbepaa", sum := "35c1a9bd5821785d4177a2cdc9e4f5662250ac10d4aaad6b163f920922c544be", func := "loop.example/g00722/laws.FnExactDueAt", spec := "fnExactDueAt", apart := false }
def FnExactDueAtSaid : Prop := fnExactDueAtRow.holds Try.pinned (OpenSpec.ofChange fnExactDueAtSpec)

/-- ITS FALSE NEIGHBOUR: 'it returns false'. Refute it at one input. -/
def fnExactDueAtWrong : ChangeSpec := { name := "fnExactDueAt", fn := fun _ => fun
  | [d1, d2, d3] => { results := [.lit (.bool false)], args := [d1, d2, d3] }
  | _ => none }
def FnExactDueAtWrongFalsely : Prop := fnExactDueAtRow.holds Try.pinned (OpenSpec.ofChange fnExactDueAtWrong)

/-- 'laws.FnExactConnOk': WHATEVER THE INPUT: true; the input reads as it did. -/
def fnExactConnOkSpec : ChangeSpec := { name := "fnExactConnOk", fn := fun _ => fun
  | [d] => { results := [.lit (.bool true)], args := [d] }
  | _ => none }
def fnExactConnOkRow : OpenClaim := { program := "ytpcddljnlkbepaa", sum := "35c1a9bd5821785d4177a2cdc9e4f5662250ac10d4aaad6b163f920922c544be", func := "loop.example/g00722/laws.FnExactConnOk", spec := "fnExactConnOk", apart := false }
def FnExactConnOkSaid : Prop := fnExactConnOkRow.holds Try.pinned (OpenSpec.ofChange fnExactConnOkSpec)

/-- ITS FALSE NEIGHBOUR: 'it returns false'. Refute it at one input. -/
def fnExactConnOkWrong : ChangeSpec := { name := "fnExactConnOk", fn := fun _ => fun
  | [d] => { results := [.lit (.bool false)], args := [d] }
  | _ => none }
def FnExactConnOkWrongFalsely : Prop := fnExactConnOkRow.holds Try.pinned (OpenSpec.ofChange fnExactConnOkWrong)

/-- 'laws.FnExactConfigOk': WHATEVER THE INPUT: true; the input reads as it did. -/
def fnExactConfigOkSpec : ChangeSpec := { name := "fnExactConfigOk", fn := fun _ => fun
  | [d] => { results := [.lit (.bool true)], args := [d] }
  | _ => none }
def fnExactConfigOkRow : OpenClaim := { program := "ytpcddljnlkbepaa", sum := "35c1a9bd5821785d4177a2cdc9e4f5662250ac10d4aaad6b163f920922c544be", func := "loop.example/g00722/laws.FnExactConfigOk", spec := "fnExactConfigOk", apart := false }
def FnExactConfigOkSaid : Prop := fnExactConfigOkRow.holds Try.pinned (OpenSpec.ofChange fnExactConfigOkSpec)

/-- ITS FALSE NEIGHBOUR: 'it returns false'. Refute it at one input. -/
def fnExactConfigOkWrong : ChangeSpec := { name := "fnExactConfigOk", fn := fun _ => fun
  | [d] => { results := [.lit (.bool false)], args := [d] }
  | _ => none }
def FnExactConfigOkWrongFalsely : Prop := fnExactConfigOkRow.holds Try.pinned (OpenSpec.ofChange fnExactConfigOkWrong)

/-- 'laws.FnExactFieldNames': WHATEVER THE INPUT: true; the input reads as it did. -/
def fnExactFieldNamesSpec : ChangeSpec := { name := "fnExactFieldNames", fn := fun _ => fun
  | [] => { results := [.lit (.bool true)], args := [] }
  | _ => none }
def fnExactFieldNamesRow : OpenClaim := { program := "ytpcddljnlkbepaa", sum := "35c1a9bd5821785d4177a2cdc9e4f5662250ac10d4aaad6b163f920922c544be", func := "loop.example/g00722/laws.FnExactFieldNames", spec := "fnExactFieldNames", apart := false }
def FnExactFieldNamesSaid : Prop := fnExactFieldNamesRow.holds Try.pinned (OpenSpec.ofChange fnExactFieldNamesSpec)

/-- ITS FALSE NEIGHBOUR: 'it returns false'. Refute it at one input. -/
def fnExactFieldNamesWrong : ChangeSpec := { name := "fnExactFieldNames", fn := fun _ => fun
  | [] => { results := [.lit (.bool false)], args := [] }
  | _ => none }
def FnExactFieldNamesWrongFalsely : Prop := fnExactFieldNamesRow.holds Try.pinned (OpenSpec.ofChange fnExactFieldNamesWrong)

/-- 'laws.FnExactSoonestOf': WHATEVER THE INPUT: true; the input reads as it did. -/
def fnExactSoonestOfSpec : ChangeSpec := { name := "fnExactSoonestOf", fn := fun _ => fun
  | [d] => { results := [.lit (.bool true)], args := [d] }
  | _ => none }
def fnExactSoonestOfRow : OpenClaim := { program := "ytpcddljnlkbepaa", sum := "35c1a9bd5821785d4177a2cdc9e4f5662250ac10d4aaad6b163f920922c544be", func := "loop.example/g00722/laws.FnExactSoonestOf", spec := "fnExactSoonestOf", apart := false }
def FnExactSoonestOfSaid : Prop := fnExactSoonestOfRow.holds Try.pinned (OpenSpec.ofChange fnExactSoonestOfSpec)

/-- ITS FALSE NEIGHBOUR: 'it returns false'. Refute it at one input. -/
def fnExactSoonestOfWrong : ChangeSpec := { name := "fnExactSoonestOf", fn := fun _ => fun
  | [d] => { results := [.lit (.bool false)], args := [d] }
  | _ => none }
def FnExactSoonestOfWrongFalsely : Prop := fnExactSoonestOfRow.holds Try.pinned (OpenSpec.ofChange fnExactSoonestOfWrong)

/-- 'laws.FnExactDefaultConfig': WHATEVER THE INPUT: true; the input reads as it did. -/
def fnExactDefaultConfigSpec : ChangeSpec := { name := "fnExactDefaultConfig", fn := fun _ => fun
  | [] => { results := [.lit (.bool true)], args := [] }
  | _ => none }
def fnExactDefaultConfigRow : OpenClaim := { program := "ytpcddljnlkbepaa", sum := "35c1a9bd5821785d4177a2cdc9e4f5662250ac10d4aaad6b163f920922c544be", func := "loop.example/g00722/laws.FnExactDefaultConfig", spec := "fnExactDefaultConfig", apart := false }
def FnExactDefaultConfigSaid : Prop := fnExactDefaultConfigRow.holds Try.pinned (OpenSpec.ofChange fnExactDefaultConfigSpec)

/-- ITS FALSE NEIGHBOUR: 'it returns false'. Refute it at one input. -/
def fnExactDefaultConfigWrong : ChangeSpec := { name := "fnExactDefaultConfig", fn := fun _ => fun
  | [] => { results := [.lit (.bool false)], args := [] }
  | _ => none }
def FnExactDefaultConfigWrongFalsely : Prop := fnExactDefaultConfigRow.holds Try.pinned (OpenSpec.ofChange fnExactDefaultConfigWrong)

/-- 'laws.FnExactNewConn': WHATEVER THE INPUT: true; the input reads as it did. -/
def fnExactNewConnSpec : ChangeSpec := { name := "fnExactNewConn", fn := fun _ => fun
  | [d1, d2] => { results := [.lit (.bool true)], args := [d1, d2] }
  | _ => none }
def fnExactNewConnRow : OpenClaim := { program := "ytpcddljnlkbepaa", sum := "35c1a9bd5821785d4177a2cdc9e4f5662250ac10d4aaad6b163f920922c544be", func := "loop.example/g00722/laws.FnExactNewConn", spec := "fnExactNewConn", apart := false }
def FnExactNewConnSaid : Prop := fnExactNewConnRow.holds Try.pinned (OpenSpec.ofChange fnExactNewConnSpec)

/-- ITS FALSE NEIGHBOUR: 'it returns false'. Refute it at one input. -/
def fnExactNewConnWrong : ChangeSpec := { name := "fnExactNewConn", fn := fun _ => fun
  | [d1, d2] => { results := [.lit (.bool false)], args := [d1, d2] }
  | _ => none }
def FnExactNewConnWrongFalsely : Prop := fnExactNewConnRow.holds Try.pinned (OpenSpec.ofChange fnExactNewConnWrong)

/- THE SECOND FORM. 'bulk': how many values and letters a reading holds, each counted each time it is reached (what is shared counts as often as it is met; a slice's spare places count too). A statement '..UptoSaid' is the law's where the arguments, and the package variables that the reading takes, are together of bulk at most 1048576: NARROWER than '..Said'. Prove '..Said' where nothing that the law and all that it calls make is longer than what came in: it says more and counts as full. Else prove '..UptoSaid'. A law counts once. -/
mutual
def uptoBulk {H : Type} : DataW H → Nat
  | .lit (.string bytes) => bytes.length + 1
  | .lit _ => 1
  | .nil => 1
  | .ptr d => uptoBulk d + 1
  | .slice elems spare => uptoBulkAll elems + uptoBulkAll spare + 1
  | .agg parts => uptoBulkAll parts + 1
  | .iface _ d => uptoBulk d + 1
  | .map entries => uptoBulkEntries entries + 1
  | .held _ => 1
def uptoBulkAll {H : Type} : List (DataW H) → Nat
  | [] => 0
  | d :: r => uptoBulk d + uptoBulkAll r
def uptoBulkEntries {H : Type} : List (Lit × DataW H) → Nat
  | [] => 0
  | x :: r => uptoBulkEntry x + uptoBulkEntries r
def uptoBulkEntry {H : Type} : Lit × DataW H → Nat
  | (.string bytes, d) => bytes.length + uptoBulk d + 1
  | (_, d) => uptoBulk d + 1
 end
def uptoSmall : (H : Type) → List (DataW H) → Bool := fun _ ds => decide (uptoBulkAll ds ≤ 1048576)
def OpenSpec.upto (s : _root_.Go.ChangeSpec) : _root_.Go.OpenSpec := { _root_.Go.OpenSpec.ofChange s with cond := some uptoSmall }

/-- 'laws.FnExactConstants', WHERE WHAT IT READS IS OF BULK AT MOST 1048576: true; the input reads as it did. -/
def fnExactConstantsUptoRow : OpenClaim := { program := "ytpcddljnlkbepaa", sum := "35c1a9bd5821785d4177a2cdc9e4f5662250ac10d4aaad6b163f920922c544be", func := "loop.example/g00722/laws.FnExactConstants", spec := "fnExactConstants", apart := false, narrowed := true }
def FnExactConstantsUptoSaid : Prop := fnExactConstantsUptoRow.holds Try.pinned (OpenSpec.upto fnExactConstantsSpec)

/-- 'laws.FnExactTickOk', WHERE WHAT IT READS IS OF BULK AT MOST 1048576: true; the input reads as it did. -/
def fnExactTickOkUptoRow : OpenClaim := { program := "ytpcddljnlkbepaa", sum := "35c1a9bd5821785d4177a2cdc9e4f5662250ac10d4aaad6b163f920922c544be", func := "loop.example/g00722/laws.FnExactTickOk", spec := "fnExactTickOk", apart := false, narrowed := true }
def FnExactTickOkUptoSaid : Prop := fnExactTickOkUptoRow.holds Try.pinned (OpenSpec.upto fnExactTickOkSpec)

/-- 'laws.FnExactChannelName', WHERE WHAT IT READS IS OF BULK AT MOST 1048576: true; the input reads as it did. -/
def fnExactChannelNameUptoRow : OpenClaim := { program := "ytpcddljnlkbepaa", sum := "35c1a9bd5821785d4177a2cdc9e4f5662250ac10d4aaad6b163f920922c544be", func := "loop.example/g00722/laws.FnExactChannelName", spec := "fnExactChannelName", apart := false, narrowed := true }
def FnExactChannelNameUptoSaid : Prop := fnExactChannelNameUptoRow.holds Try.pinned (OpenSpec.upto fnExactChannelNameSpec)

/-- 'laws.FnExactSince', WHERE WHAT IT READS IS OF BULK AT MOST 1048576: true; the input reads as it did. -/
def fnExactSinceUptoRow : OpenClaim := { program := "ytpcddljnlkbepaa", sum := "35c1a9bd5821785d4177a2cdc9e4f5662250ac10d4aaad6b163f920922c544be", func := "loop.example/g00722/laws.FnExactSince", spec := "fnExactSince", apart := false, narrowed := true }
def FnExactSinceUptoSaid : Prop := fnExactSinceUptoRow.holds Try.pinned (OpenSpec.upto fnExactSinceSpec)

/-- 'laws.FnExactAddTick', WHERE WHAT IT READS IS OF BULK AT MOST 1048576: true; the input reads as it did. -/
def fnExactAddTickUptoRow : OpenClaim := { program := "ytpcddljnlkbepaa", sum := "35c1a9bd5821785d4177a2cdc9e4f5662250ac10d4aaad6b163f920922c544be", func := "loop.example/g00722/laws.FnExactAddTick", spec := "fnExactAddTick", apart := false, narrowed := true }
def FnExactAddTickUptoSaid : Prop := fnExactAddTickUptoRow.holds Try.pinned (OpenSpec.upto fnExactAddTickSpec)

/-- 'laws.FnExactDueAt', WHERE WHAT IT READS IS OF BULK AT MOST 1048576: true; the input reads as it did. -/
def fnExactDueAtUptoRow : OpenClaim := { program := "ytpcddljnlkbepaa", sum := "35c1a9bd5821785d4177a2cdc9e4f5662250ac10d4aaad6b163f920922c544be", func := "loop.example/g00722/laws.FnExactDueAt", spec := "fnExactDueAt", apart := false, narrowed := true }
def FnExactDueAtUptoSaid : Prop := fnExactDueAtUptoRow.holds Try.pinned (OpenSpec.upto fnExactDueAtSpec)

/-- 'laws.FnExactConnOk', WHERE WHAT IT READS IS OF BULK AT MOST 1048576: true; the input reads as it did. -/
def fnExactConnOkUptoRow : OpenClaim := { program := "ytpcddljnlkbepaa", sum := "35c1a9bd5821785d4177a2cdc9e4f5662250ac10d4aaad6b163f920922c544be", func := "loop.example/g00722/laws.FnExactConnOk", spec := "fnExactConnOk", apart := false, narrowed := true }
def FnExactConnOkUptoSaid : Prop := fnExactConnOkUptoRow.holds Try.pinned (OpenSpec.upto fnExactConnOkSpec)

/-- 'laws.FnExactConfigOk', WHERE WHAT IT READS IS OF BULK AT MOST 1048576: true; the input reads as it did. -/
def fnExactConfigOkUptoRow : OpenClaim := { program := "ytpcddljnlkbepaa", sum := "35c1a9bd5821785d4177a2cdc9e4f5662250ac10d4aaad6b163f920922c544be", func := "loop.example/g00722/laws.FnExactConfigOk", spec := "fnExactConfigOk", apart := false, narrowed := true }
def FnExactConfigOkUptoSaid : Prop := fnExactConfigOkUptoRow.holds Try.pinned (OpenSpec.upto fnExactConfigOkSpec)

/-- 'laws.FnExactFieldNames', WHERE WHAT IT READS IS OF BULK AT MOST 1048576: true; the input reads as it did. -/
def fnExactFieldNamesUptoRow : OpenClaim := { program := "ytpcddljnlkbepaa", sum := "35c1a9bd5821785d4177a2cdc9e4f5662250ac10d4aaad6b163f920922c544be", func := "loop.example/g00722/laws.FnExactFieldNames", spec := "fnExactFieldNames", apart := false, narrowed := true }
def FnExactFieldNamesUptoSaid : Prop := fnExactFieldNamesUptoRow.holds Try.pinned (OpenSpec.upto fnExactFieldNamesSpec)

/-- 'laws.FnExactSoonestOf', WHERE WHAT IT READS IS OF BULK AT MOST 1048576: true; the input reads as it did. -/
def fnExactSoonestOfUptoRow : OpenClaim := { program := "ytpcddljnlkbepaa", sum := "35c1a9bd5821785d4177a2cdc9e4f5662250ac10d4aaad6b163f920922c544be", func := "loop.example/g00722/laws.FnExactSoonestOf", spec := "fnExactSoonestOf", apart := false, narrowed := true }
def FnExactSoonestOfUptoSaid : Prop := fnExactSoonestOfUptoRow.holds Try.pinned (OpenSpec.upto fnExactSoonestOfSpec)

/-- 'laws.FnExactDefaultConfig', WHERE WHAT IT READS IS OF BULK AT MOST 1048576: true; the input reads as it did. -/
def fnExactDefaultConfigUptoRow : OpenClaim := { program := "ytpcddljnlkbepaa", sum := "35c1a9bd5821785d4177a2cdc9e4f5662250ac10d4aaad6b163f920922c544be", func := "loop.example/g00722/laws.FnExactDefaultConfig", spec := "fnExactDefaultConfig", apart := false, narrowed := true }
def FnExactDefaultConfigUptoSaid : Prop := fnExactDefaultConfigUptoRow.holds Try.pinned (OpenSpec.upto fnExactDefaultConfigSpec)

/-- 'laws.FnExactNewConn', WHERE WHAT IT READS IS OF BULK AT MOST 1048576: true; the input reads as it did. -/
def fnExactNewConnUptoRow : OpenClaim := { program := "ytpcddljnlkbepaa", sum := "35c1a9bd5821785d4177a2cdc9e4f5662250ac10d4aaad6b163f920922c544be", func := "loop.example/g00722/laws.FnExactNewConn", spec := "fnExactNewConn", apart := false, narrowed := true }
def FnExactNewConnUptoSaid : Prop := fnExactNewConnUptoRow.holds Try.pinned (OpenSpec.upto fnExactNewConnSpec)

end Rows
end Go.Proofs.Ytpcddljnlkbepaa
