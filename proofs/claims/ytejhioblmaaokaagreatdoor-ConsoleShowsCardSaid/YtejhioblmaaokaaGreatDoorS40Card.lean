/- For every command, what Show shows of it is read by Read as this very command, and for every line, what Read reads of it is shown as a line that is read as the same command: the law returns true for all commands and lines, and its arguments read as before. -/
import Derived.Test.YtejhioblmaaokaaGreatDoorCards
import Derived.Test.YtejhioblmaaokaaGreatDoorS40Said
import Derived.Test.YtejhioblmaaokaaGreatDoorS40T5
set_option linter.all false
/- ConsoleShows: for every command and every line, what Show shows is read by Read as this command, and what Read reads of a line is shown as a line that is read as the same command: the law returns true, and its arguments read as before; the row's card. -/
namespace Go.Proofs.YtejhioblmaaokaaGreatDoor
open Go
theorem card_holds : Rows.ConsoleShowsCardSaid := Go.AM.S40.card_of Go.AM.S40.Sy.said
#print axioms card_holds
end Go.Proofs.YtejhioblmaaokaaGreatDoor
