import Derived.KernelRfl
import Derived.Test.YtkkbeakephmkdaaGreatDoorE15Ext
set_option linter.all false
set_option maxRecDepth 100000
namespace Go.AM.E15
open Go
noncomputable section
theorem ti_30 (n0 : Nat) : andAll (runG n0 261 tiA tiR) 15 30 := by
  refine cast ?_ (andAll_ok (runB_ok n0 261 tiA) 15 30)
  kernel_rfl
theorem ti_150 (n0 : Nat) : andAll (runG n0 261 tiA tiR) 15 150 := by
  refine cast ?_ (andAll_ok (runB_ok n0 261 tiA) 15 150)
  kernel_rfl
theorem ti_270 (n0 : Nat) : andAll (runG n0 261 tiA tiR) 15 270 := by
  refine cast ?_ (andAll_ok (runB_ok n0 261 tiA) 15 270)
  kernel_rfl
theorem ti_390 (n0 : Nat) : andAll (runG n0 261 tiA tiR) 15 390 := by
  refine cast ?_ (andAll_ok (runB_ok n0 261 tiA) 15 390)
  kernel_rfl
theorem ti_510 (n0 : Nat) : andAll (runG n0 261 tiA tiR) 15 510 := by
  refine cast ?_ (andAll_ok (runB_ok n0 261 tiA) 15 510)
  kernel_rfl
theorem ti_630 (n0 : Nat) : andAll (runG n0 261 tiA tiR) 15 630 := by
  refine cast ?_ (andAll_ok (runB_ok n0 261 tiA) 15 630)
  kernel_rfl
theorem ti_750 (n0 : Nat) : andAll (runG n0 261 tiA tiR) 15 750 := by
  refine cast ?_ (andAll_ok (runB_ok n0 261 tiA) 15 750)
  kernel_rfl
theorem ti_870 (n0 : Nat) : andAll (runG n0 261 tiA tiR) 15 870 := by
  refine cast ?_ (andAll_ok (runB_ok n0 261 tiA) 15 870)
  kernel_rfl
end
end Go.AM.E15
