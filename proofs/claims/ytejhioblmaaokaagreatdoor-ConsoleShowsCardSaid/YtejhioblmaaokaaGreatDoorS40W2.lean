import Derived.Test.YtejhioblmaaokaaGreatDoorS40Row
set_option linter.all false
/- ConsoleShows: a world that fits. -/
set_option maxRecDepth 100000
namespace Go.AM.S40.Sy
open Go Go.Proofs Go.ChangeShapes Go.RowKit
open Go.Proofs.YtejhioblmaaokaaGreatDoor
noncomputable section
theorem wv (os : Os) : ((laidWorld os).forCall (fun _ _ => 0) ⟨#[], wArgs, []⟩).variablesRefB Tryz.checked.prog = true := by kernel_rfl
end
end Go.AM.S40.Sy
