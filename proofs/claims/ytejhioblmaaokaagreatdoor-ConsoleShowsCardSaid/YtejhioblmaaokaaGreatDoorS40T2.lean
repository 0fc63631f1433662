import Derived.Test.YtejhioblmaaokaaGreatDoorS40T1
set_option linter.all false
/- The tie: the regions. -/
set_option maxRecDepth 100000
namespace Go.AM.S40
open Go Go.Proofs
open Go.Proofs.YtejhioblmaaokaaGreatDoor
theorem fit_t : codeT.regionsFit Tryz.prog [] = true := by kernel_rfl
end Go.AM.S40
