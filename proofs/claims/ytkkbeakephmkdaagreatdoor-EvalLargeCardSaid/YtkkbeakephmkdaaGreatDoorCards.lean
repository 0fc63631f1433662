/-
  DERIVED. GIVEN WITH THE SEED: THE CARDS: each row of YtkkbeakephmkdaaGreatDoorRows.lean that lists a variable, with what it lists TIED to the program's text (the seventh form; the later family's looks); each row that meets fmt, with fmt's text TOLD by the authors' own Lean function (tested against real Go, not proved from fmt's source: count such statements apart). THE CARD IS WHAT COUNTS. Prove the row's statement (the work); the ties are given (YtkkbeakephmkdaaGreatDoorTie.lean); close each card by the builder's one call (the guide's Derived/Test/ToyasCard.lean, 'card_holds'). Laid BY PROGRAM, IN A SANDBOX (cutbox-door.mjs). By AI agents, Wed Nov 11 2026. No macro, syntax, notation, axiom, sorry.
-/
import Derived.Test.YtkkbeakephmkdaaGreatDoorRows
import GoSem.ClaimSeven
namespace Go.Proofs.YtkkbeakephmkdaaGreatDoor
namespace Rows

/-- THE TIED CARD OF 'foregonelaw15.EvalLarge'. -/
def evalLargeCard : Claim7 := { stood := { row := evalLargeRow, standIns := [], harness := (true, "39fb01926d05cb558b4a668a3438a5c8885c7a83bded959936ca464e1df9e7e3"), looks := true }, kinds := [], alts := [], laidByText := true, laidKinds := [.data, .data, .data, .sentinel, .sentinel], laidTests := true, laidLooks := .later }
def EvalLargeCardSaid : Prop := Claim7.holds Tryz.pinned (.plain (OpenSpec.ofChange evalLargeSpec)) evalLargeCard

/-- THE SECOND FORM's CARD OF 'foregonelaw15.EvalLarge'. -/
def evalLargeUptoCard : Claim7 := { stood := { row := evalLargeUptoRow, standIns := [], harness := (true, "39fb01926d05cb558b4a668a3438a5c8885c7a83bded959936ca464e1df9e7e3"), looks := true }, kinds := [], alts := [], laidByText := true, laidKinds := [.data, .data, .data, .sentinel, .sentinel], laidTests := true, laidLooks := .later }
def EvalLargeUptoCardSaid : Prop := Claim7.holds Tryz.pinned (.plain (OpenSpec.upto evalLargeSpec)) evalLargeUptoCard
end Rows
end Go.Proofs.YtkkbeakephmkdaaGreatDoor
