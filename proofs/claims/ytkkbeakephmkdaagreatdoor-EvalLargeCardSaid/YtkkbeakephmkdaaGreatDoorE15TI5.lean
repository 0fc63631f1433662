import Derived.KernelRfl
import Derived.Test.YtkkbeakephmkdaaGreatDoorE15Ext
set_option linter.all false
set_option maxRecDepth 100000
namespace Go.AM.E15
open Go
noncomputable section
theorem ti_75 (n0 : Nat) : andAll (runG n0 261 tiA tiR) 15 75 := by
  refine cast ?_ (andAll_ok (runB_ok n0 261 tiA) 15 75)
  kernel_rfl
theorem ti_195 (n0 : Nat) : andAll (runG n0 261 tiA tiR) 15 195 := by
  refine cast ?_ (andAll_ok (runB_ok n0 261 tiA) 15 195)
  kernel_rfl
theorem ti_315 (n0 : Nat) : andAll (runG n0 261 tiA tiR) 15 315 := by
  refine cast ?_ (andAll_ok (runB_ok n0 261 tiA) 15 315)
  kernel_rfl
theorem ti_435 (n0 : Nat) : andAll (runG n0 261 tiA tiR) 15 435 := by
  refine cast ?_ (andAll_ok (runB_ok n0 261 tiA) 15 435)
  kernel_rfl
theorem ti_555 (n0 : Nat) : andAll (runG n0 261 tiA tiR) 15 555 := by
  refine cast ?_ (andAll_ok (runB_ok n0 261 tiA) 15 555)
  kernel_rfl
theorem ti_675 (n0 : Nat) : andAll (runG n0 261 tiA tiR) 15 675 := by
  refine cast ?_ (andAll_ok (runB_ok n0 261 tiA) 15 675)
  kernel_rfl
theorem ti_795 (n0 : Nat) : andAll (runG n0 261 tiA tiR) 15 795 := by
  refine cast ?_ (andAll_ok (runB_ok n0 261 tiA) 15 795)
  kernel_rfl
end
end Go.AM.E15
