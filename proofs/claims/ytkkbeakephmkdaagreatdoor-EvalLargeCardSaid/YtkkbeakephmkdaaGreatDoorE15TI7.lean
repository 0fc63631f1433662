import Derived.KernelRfl
import Derived.Test.YtkkbeakephmkdaaGreatDoorE15Ext
set_option linter.all false
set_option maxRecDepth 100000
namespace Go.AM.E15
open Go
noncomputable section
theorem ti_105 (n0 : Nat) : andAll (runG n0 261 tiA tiR) 15 105 := by
  refine cast ?_ (andAll_ok (runB_ok n0 261 tiA) 15 105)
  kernel_rfl
theorem ti_225 (n0 : Nat) : andAll (runG n0 261 tiA tiR) 15 225 := by
  refine cast ?_ (andAll_ok (runB_ok n0 261 tiA) 15 225)
  kernel_rfl
theorem ti_345 (n0 : Nat) : andAll (runG n0 261 tiA tiR) 15 345 := by
  refine cast ?_ (andAll_ok (runB_ok n0 261 tiA) 15 345)
  kernel_rfl
theorem ti_465 (n0 : Nat) : andAll (runG n0 261 tiA tiR) 15 465 := by
  refine cast ?_ (andAll_ok (runB_ok n0 261 tiA) 15 465)
  kernel_rfl
theorem ti_585 (n0 : Nat) : andAll (runG n0 261 tiA tiR) 15 585 := by
  refine cast ?_ (andAll_ok (runB_ok n0 261 tiA) 15 585)
  kernel_rfl
theorem ti_705 (n0 : Nat) : andAll (runG n0 261 tiA tiR) 15 705 := by
  refine cast ?_ (andAll_ok (runB_ok n0 261 tiA) 15 705)
  kernel_rfl
theorem ti_825 (n0 : Nat) : andAll (runG n0 261 tiA tiR) 15 825 := by
  refine cast ?_ (andAll_ok (runB_ok n0 261 tiA) 15 825)
  kernel_rfl
end
end Go.AM.E15
