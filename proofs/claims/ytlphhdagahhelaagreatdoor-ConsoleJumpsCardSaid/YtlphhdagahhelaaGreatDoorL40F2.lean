import Derived.KernelRfl
import Derived.Test.YtlphhdagahhelaaGreatDoorRows
import Derived.Test.YtlphhdagahhelaaGreatDoorAm3
set_option linter.all false
/- Closed facts of the program. -/
set_option maxRecDepth 100000
namespace Go.AM.L40
open Go Go.Proofs
open Go.Proofs.YtlphhdagahhelaaGreatDoor
theorem types_b : allN (fType Tryz.prog) 235 470 = true := by kernel_rfl
theorem types_c : allN (fType Tryz.prog) 236 705 = true := by kernel_rfl
theorem globs_fit : (Tryz.prog.globals.toList.all fun g => decide (g.type < 941)) = true := by kernel_rfl
end Go.AM.L40
