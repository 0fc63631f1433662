import Derived.KernelRfl
import Derived.Test.YtkkbeakephmkdaaGreatDoorE15Ext
set_option linter.all false
set_option maxRecDepth 100000
namespace Go.AM.E15
open Go
noncomputable section
theorem ti_45 (n0 : Nat) : andAll (runG n0 261 tiA tiR) 15 45 := by
  refine cast ?_ (andAll_ok (runB_ok n0 261 tiA) 15 45)
  kernel_rfl
theorem ti_165 (n0 : Nat) : andAll (runG n0 261 tiA tiR) 15 165 := by
  refine cast ?_ (andAll_ok (runB_ok n0 261 tiA) 15 165)
  kernel_rfl
theorem ti_285 (n0 : Nat) : andAll (runG n0 261 tiA tiR) 15 285 := by
  refine cast ?_ (andAll_ok (runB_ok n0 261 tiA) 15 285)
  kernel_rfl
theorem ti_405 (n0 : Nat) : andAll (runG n0 261 tiA tiR) 15 405 := by
  refine cast ?_ (andAll_ok (runB_ok n0 261 tiA) 15 405)
  kernel_rfl
theorem ti_525 (n0 : Nat) : andAll (runG n0 261 tiA tiR) 15 525 := by
  refine cast ?_ (andAll_ok (runB_ok n0 261 tiA) 15 525)
  kernel_rfl
theorem ti_645 (n0 : Nat) : andAll (runG n0 261 tiA tiR) 15 645 := by
  refine cast ?_ (andAll_ok (runB_ok n0 261 tiA) 15 645)
  kernel_rfl
theorem ti_765 (n0 : Nat) : andAll (runG n0 261 tiA tiR) 15 765 := by
  refine cast ?_ (andAll_ok (runB_ok n0 261 tiA) 15 765)
  kernel_rfl
theorem ti_885 (n0 : Nat) : andAll (runG n0 261 tiA tiR) 15 885 := by
  refine cast ?_ (andAll_ok (runB_ok n0 261 tiA) 15 885)
  kernel_rfl
end
end Go.AM.E15
