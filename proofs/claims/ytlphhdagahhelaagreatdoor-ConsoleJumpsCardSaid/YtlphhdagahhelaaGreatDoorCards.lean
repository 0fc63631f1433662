/-
  DERIVED. GIVEN WITH THE SEED: THE CARDS: each row of YtlphhdagahhelaaGreatDoorRows.lean that lists a variable, with what it lists TIED to the program's text (the seventh form; the later family's looks); each row that meets fmt, with fmt's text TOLD by the authors' own Lean function (tested against real Go, not proved from fmt's source: count such statements apart). THE CARD IS WHAT COUNTS. Prove the row's statement (the work); the ties are given (YtlphhdagahhelaaGreatDoorTie.lean); close each card by the builder's one call (the guide's Derived/Test/ToyasCard.lean, 'card_holds'). Laid BY PROGRAM, IN A SANDBOX (cutbox-door.mjs). By AI agents, Wed Nov 11 2026. No macro, syntax, notation, axiom, sorry.
-/
import Derived.Test.YtlphhdagahhelaaGreatDoorRows
import GoSem.ClaimSeven
namespace Go.Proofs.YtlphhdagahhelaaGreatDoor
namespace Rows

/-- THE TIED CARD OF 'foregonelaw40.ConsoleJumps'. -/
def consoleJumpsCard : Claim7 := { stood := { row := consoleJumpsRow, standIns := [], harness := (true, "91e2520911882a59db034a00d8c3fadecfa94d8924d543b639fc4f90bd4c2bab"), looks := true }, kinds := [], alts := [], laidByText := true, laidKinds := [.data, .data, .data, .data, .sentinel, .sentinel, .listed, .sentinel, .data, .pinned], laidTests := true, laidLooks := .later }
def ConsoleJumpsCardSaid : Prop := Claim7.holds Tryz.pinned (.plain (OpenSpec.ofChange consoleJumpsSpec)) consoleJumpsCard

/-- THE SECOND FORM's CARD OF 'foregonelaw40.ConsoleJumps'. -/
def consoleJumpsUptoCard : Claim7 := { stood := { row := consoleJumpsUptoRow, standIns := [], harness := (true, "91e2520911882a59db034a00d8c3fadecfa94d8924d543b639fc4f90bd4c2bab"), looks := true }, kinds := [], alts := [], laidByText := true, laidKinds := [.data, .data, .data, .data, .sentinel, .sentinel, .listed, .sentinel, .data, .pinned], laidTests := true, laidLooks := .later }
def ConsoleJumpsUptoCardSaid : Prop := Claim7.holds Tryz.pinned (.plain (OpenSpec.upto consoleJumpsSpec)) consoleJumpsUptoCard
end Rows
end Go.Proofs.YtlphhdagahhelaaGreatDoor
