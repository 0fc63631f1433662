import Derived.Test.YtkkbeakephmkdaaGreatDoorE15V0
set_option linter.all false
set_option maxRecDepth 100000
namespace Go.AM.E15
open Go Go.Proofs Go.ChangeShapes Go.RowKit
open Go.Proofs.YtkkbeakephmkdaaGreatDoor
noncomputable section
theorem wvars (os : Os) : ((laidWorld os).forCall (fun _ _ => 0) ⟨#[], wArgs, []⟩).variablesRefB Tryz.checked.prog = true := by kernel_rfl
end
end Go.AM.E15
