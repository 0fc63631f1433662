import Derived.KernelRfl
import Derived.Test.YtejhioblmaaokaaGreatDoorRows
import Derived.Test.YtejhioblmaaokaaGreatDoorAm3
set_option linter.all false
/- Closed facts of the program. -/
set_option maxRecDepth 100000
namespace Go.AM.S40
open Go Go.Proofs
open Go.Proofs.YtejhioblmaaokaaGreatDoor
theorem tsize : Tryz.prog.types.size = 942 := by kernel_rfl
theorem fsize : Tryz.prog.funcs.size = 1037 := by kernel_rfl
theorem types_a : allN (fType Tryz.prog) 471 0 = true := by kernel_rfl
end Go.AM.S40
