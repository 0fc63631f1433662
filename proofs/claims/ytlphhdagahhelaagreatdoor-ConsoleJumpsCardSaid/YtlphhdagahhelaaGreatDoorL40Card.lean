/- ConsoleJumps: for every list of events and every number, Over and Out of the program are those of the reference: the law returns true, and its arguments read behind the call as before. Conditions: none beyond those of the given row. -/
import Derived.Test.YtlphhdagahhelaaGreatDoorCards
import Derived.Test.YtlphhdagahhelaaGreatDoorL40Said
import Derived.Test.YtlphhdagahhelaaGreatDoorL40T5
set_option linter.all false
/- ConsoleJumps: for every list of events and every number, the law returns true, and its arguments read as before; the row's card. -/
namespace Go.Proofs.YtlphhdagahhelaaGreatDoor
open Go
theorem card_holds : Rows.ConsoleJumpsCardSaid := Go.AM.L40.card_of Go.AM.L40.Sy.said
#print axioms card_holds
end Go.Proofs.YtlphhdagahhelaaGreatDoor
