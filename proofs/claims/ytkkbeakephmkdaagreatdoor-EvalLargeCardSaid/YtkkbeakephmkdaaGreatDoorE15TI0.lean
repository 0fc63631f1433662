import Derived.KernelRfl
import Derived.Test.YtkkbeakephmkdaaGreatDoorE15Ext
set_option linter.all false
set_option maxRecDepth 100000
namespace Go.AM.E15
open Go
noncomputable section
theorem ti_0 (n0 : Nat) : andAll (runG n0 261 tiA tiR) 15 0 := by
  refine cast ?_ (andAll_ok (runB_ok n0 261 tiA) 15 0)
  kernel_rfl
theorem ti_120 (n0 : Nat) : andAll (runG n0 261 tiA tiR) 15 120 := by
  refine cast ?_ (andAll_ok (runB_ok n0 261 tiA) 15 120)
  kernel_rfl
theorem ti_240 (n0 : Nat) : andAll (runG n0 261 tiA tiR) 15 240 := by
  refine cast ?_ (andAll_ok (runB_ok n0 261 tiA) 15 240)
  kernel_rfl
theorem ti_360 (n0 : Nat) : andAll (runG n0 261 tiA tiR) 15 360 := by
  refine cast ?_ (andAll_ok (runB_ok n0 261 tiA) 15 360)
  kernel_rfl
theorem ti_480 (n0 : Nat) : andAll (runG n0 261 tiA tiR) 15 480 := by
  refine cast ?_ (andAll_ok (runB_ok n0 261 tiA) 15 480)
  kernel_rfl
theorem ti_600 (n0 : Nat) : andAll (runG n0 261 tiA tiR) 15 600 := by
  refine cast ?_ (andAll_ok (runB_ok n0 261 tiA) 15 600)
  kernel_rfl
theorem ti_720 (n0 : Nat) : andAll (runG n0 261 tiA tiR) 15 720 := by
  refine cast ?_ (andAll_ok (runB_ok n0 261 tiA) 15 720)
  kernel_rfl
theorem ti_840 (n0 : Nat) : andAll (runG n0 261 tiA tiR) 15 840 := by
  refine cast ?_ (andAll_ok (runB_ok n0 261 tiA) 15 840)
  kernel_rfl
end
end Go.AM.E15
