import Derived.KernelRfl
import Derived.Test.YtkkbeakephmkdaaGreatDoorE15Ext
set_option linter.all false
set_option maxRecDepth 100000
namespace Go.AM.E15
open Go
noncomputable section
theorem ti_60 (n0 : Nat) : andAll (runG n0 261 tiA tiR) 15 60 := by
  refine cast ?_ (andAll_ok (runB_ok n0 261 tiA) 15 60)
  kernel_rfl
theorem ti_180 (n0 : Nat) : andAll (runG n0 261 tiA tiR) 15 180 := by
  refine cast ?_ (andAll_ok (runB_ok n0 261 tiA) 15 180)
  kernel_rfl
theorem ti_300 (n0 : Nat) : andAll (runG n0 261 tiA tiR) 15 300 := by
  refine cast ?_ (andAll_ok (runB_ok n0 261 tiA) 15 300)
  kernel_rfl
theorem ti_420 (n0 : Nat) : andAll (runG n0 261 tiA tiR) 15 420 := by
  refine cast ?_ (andAll_ok (runB_ok n0 261 tiA) 15 420)
  kernel_rfl
theorem ti_540 (n0 : Nat) : andAll (runG n0 261 tiA tiR) 15 540 := by
  refine cast ?_ (andAll_ok (runB_ok n0 261 tiA) 15 540)
  kernel_rfl
theorem ti_660 (n0 : Nat) : andAll (runG n0 261 tiA tiR) 15 660 := by
  refine cast ?_ (andAll_ok (runB_ok n0 261 tiA) 15 660)
  kernel_rfl
theorem ti_780 (n0 : Nat) : andAll (runG n0 261 tiA tiR) 15 780 := by
  refine cast ?_ (andAll_ok (runB_ok n0 261 tiA) 15 780)
  kernel_rfl
theorem ti_900 (n0 : Nat) : andAll (runG n0 261 tiA tiR) 1 900 := by
  refine cast ?_ (andAll_ok (runB_ok n0 261 tiA) 1 900)
  kernel_rfl
end
end Go.AM.E15
