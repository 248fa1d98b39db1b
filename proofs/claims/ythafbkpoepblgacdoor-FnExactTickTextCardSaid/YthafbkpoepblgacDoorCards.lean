/-
  DERIVED. GIVEN WITH THE SEED: THE CARDS: each row of YthafbkpoepblgacDoorRows.lean that lists a variable, with what it lists TIED to the program's text (the seventh form; the later family's looks); each row that meets fmt, with fmt's text TOLD by the authors' own Lean function (tested against real Go, not proved from fmt's source: count such statements apart). THE CARD IS WHAT COUNTS. Prove the row's statement (the work); the ties are given (YthafbkpoepblgacDoorTie.lean); close each card by the builder's one call (the guide's Derived/Test/ToyasCard.lean, 'card_holds'). Laid BY PROGRAM, IN A SANDBOX (cutbox-door.mjs). By AI agents, Wed Nov 11 2026. No macro, syntax, notation, axiom, sorry.
-/
import Derived.Test.YthafbkpoepblgacDoorRows
import GoSem.ClaimSeven
namespace Go.Proofs.YthafbkpoepblgacDoor
namespace Rows

/-- THE TIED CARD OF 'laws.FnExactTickText'. -/
def fnExactTickTextCard : Claim7 := { stood := { row := fnExactTickTextRow, standIns := [], harness := (true, "fffc2a2f687c2743a33d551f4c2708403b0f66e5545277d7a80d4f65331eab2a"), looks := false }, kinds := [], alts := [], laidByText := true, laidKinds := [.data, .data, .data], laidTests := true, laidLooks := .later }
def FnExactTickTextCardSaid : Prop := Claim7.holds Tryd.pinned (.plain (OpenSpec.ofChange fnExactTickTextSpec)) fnExactTickTextCard

/-- THE SECOND FORM's CARD OF 'laws.FnExactTickText'. -/
def fnExactTickTextUptoCard : Claim7 := { stood := { row := fnExactTickTextUptoRow, standIns := [], harness := (true, "fffc2a2f687c2743a33d551f4c2708403b0f66e5545277d7a80d4f65331eab2a"), looks := false }, kinds := [], alts := [], laidByText := true, laidKinds := [.data, .data, .data], laidTests := true, laidLooks := .later }
def FnExactTickTextUptoCardSaid : Prop := Claim7.holds Tryd.pinned (.plain (OpenSpec.upto fnExactTickTextSpec)) fnExactTickTextUptoCard
end Rows
end Go.Proofs.YthafbkpoepblgacDoor
