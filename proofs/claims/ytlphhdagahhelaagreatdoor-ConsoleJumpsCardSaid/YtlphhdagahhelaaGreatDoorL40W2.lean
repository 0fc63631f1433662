import Derived.Test.YtlphhdagahhelaaGreatDoorL40W0
set_option linter.all false
/- ConsoleJumps: a world that fits. -/
set_option maxRecDepth 100000
namespace Go.AM.L40.Sy
open Go Go.Proofs Go.ChangeShapes Go.RowKit
open Go.Proofs.YtlphhdagahhelaaGreatDoor
noncomputable section
theorem wv (os : Os) : ((laidWorld os).forCall (fun _ _ => 0) ⟨#[], wArgs, []⟩).variablesRefB Tryz.checked.prog = true := by kernel_rfl
end
end Go.AM.L40.Sy
