import Derived.KernelRfl
import Derived.Test.YtlphhdagahhelaaGreatDoorRows
import Derived.Test.YtlphhdagahhelaaGreatDoorAm3
set_option linter.all false
/- Closed facts of the program. -/
set_option maxRecDepth 100000
namespace Go.AM.L40
open Go Go.Proofs
open Go.Proofs.YtlphhdagahhelaaGreatDoor
theorem tsize : Tryz.prog.types.size = 941 := by kernel_rfl
theorem fsize : Tryz.prog.funcs.size = 1038 := by kernel_rfl
theorem types_a : allN (fType Tryz.prog) 470 0 = true := by kernel_rfl
end Go.AM.L40
