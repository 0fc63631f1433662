import Derived.Test.YtlphhdagahhelaaGreatDoorL40T1
set_option linter.all false
/- The tie: the regions. -/
set_option maxRecDepth 100000
namespace Go.AM.L40
open Go Go.Proofs
open Go.Proofs.YtlphhdagahhelaaGreatDoor
theorem fit_t : codeT.regionsFit Tryz.prog [] = true := by kernel_rfl
end Go.AM.L40
