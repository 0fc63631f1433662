import Derived.KernelRfl
import Derived.Test.YtkkbeakephmkdaaGreatDoorE15Ext
set_option linter.all false
set_option maxRecDepth 100000
namespace Go.AM.E15
open Go
noncomputable section
theorem ti_15 (n0 : Nat) : andAll (runG n0 261 tiA tiR) 15 15 := by
  refine cast ?_ (andAll_ok (runB_ok n0 261 tiA) 15 15)
  kernel_rfl
theorem ti_135 (n0 : Nat) : andAll (runG n0 261 tiA tiR) 15 135 := by
  refine cast ?_ (andAll_ok (runB_ok n0 261 tiA) 15 135)
  kernel_rfl
theorem ti_255 (n0 : Nat) : andAll (runG n0 261 tiA tiR) 15 255 := by
  refine cast ?_ (andAll_ok (runB_ok n0 261 tiA) 15 255)
  kernel_rfl
theorem ti_375 (n0 : Nat) : andAll (runG n0 261 tiA tiR) 15 375 := by
  refine cast ?_ (andAll_ok (runB_ok n0 261 tiA) 15 375)
  kernel_rfl
theorem ti_495 (n0 : Nat) : andAll (runG n0 261 tiA tiR) 15 495 := by
  refine cast ?_ (andAll_ok (runB_ok n0 261 tiA) 15 495)
  kernel_rfl
theorem ti_615 (n0 : Nat) : andAll (runG n0 261 tiA tiR) 15 615 := by
  refine cast ?_ (andAll_ok (runB_ok n0 261 tiA) 15 615)
  kernel_rfl
theorem ti_735 (n0 : Nat) : andAll (runG n0 261 tiA tiR) 15 735 := by
  refine cast ?_ (andAll_ok (runB_ok n0 261 tiA) 15 735)
  kernel_rfl
theorem ti_855 (n0 : Nat) : andAll (runG n0 261 tiA tiR) 15 855 := by
  refine cast ?_ (andAll_ok (runB_ok n0 261 tiA) 15 855)
  kernel_rfl
end
end Go.AM.E15
