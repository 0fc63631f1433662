import Derived.KernelRfl
import Derived.Test.YtejhioblmaaokaaGreatDoorRows
import Derived.Test.YtejhioblmaaokaaGreatDoorAm3
set_option linter.all false
/- Closed facts of the program. -/
set_option maxRecDepth 100000
namespace Go.AM.S40
open Go Go.Proofs
open Go.Proofs.YtejhioblmaaokaaGreatDoor
theorem types_b : allN (fType Tryz.prog) 235 471 = true := by kernel_rfl
theorem types_c : allN (fType Tryz.prog) 236 706 = true := by kernel_rfl
theorem globs_fit : (Tryz.prog.globals.toList.all fun g => decide (g.type < 942)) = true := by kernel_rfl
end Go.AM.S40
