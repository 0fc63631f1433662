import Derived.KernelRfl
import Derived.Test.YtkkbeakephmkdaaGreatDoorE15Ext
set_option linter.all false
set_option maxRecDepth 100000
namespace Go.AM.E15
open Go
noncomputable section
theorem ti_90 (n0 : Nat) : andAll (runG n0 261 tiA tiR) 15 90 := by
  refine cast ?_ (andAll_ok (runB_ok n0 261 tiA) 15 90)
  kernel_rfl
theorem ti_210 (n0 : Nat) : andAll (runG n0 261 tiA tiR) 15 210 := by
  refine cast ?_ (andAll_ok (runB_ok n0 261 tiA) 15 210)
  kernel_rfl
theorem ti_330 (n0 : Nat) : andAll (runG n0 261 tiA tiR) 15 330 := by
  refine cast ?_ (andAll_ok (runB_ok n0 261 tiA) 15 330)
  kernel_rfl
theorem ti_450 (n0 : Nat) : andAll (runG n0 261 tiA tiR) 15 450 := by
  refine cast ?_ (andAll_ok (runB_ok n0 261 tiA) 15 450)
  kernel_rfl
theorem ti_570 (n0 : Nat) : andAll (runG n0 261 tiA tiR) 15 570 := by
  refine cast ?_ (andAll_ok (runB_ok n0 261 tiA) 15 570)
  kernel_rfl
theorem ti_690 (n0 : Nat) : andAll (runG n0 261 tiA tiR) 15 690 := by
  refine cast ?_ (andAll_ok (runB_ok n0 261 tiA) 15 690)
  kernel_rfl
theorem ti_810 (n0 : Nat) : andAll (runG n0 261 tiA tiR) 15 810 := by
  refine cast ?_ (andAll_ok (runB_ok n0 261 tiA) 15 810)
  kernel_rfl
end
end Go.AM.E15
