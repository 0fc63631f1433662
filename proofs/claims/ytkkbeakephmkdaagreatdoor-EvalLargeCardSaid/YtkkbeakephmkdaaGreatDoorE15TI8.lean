import Derived.KernelRfl
import Derived.Test.YtkkbeakephmkdaaGreatDoorE15Ext
set_option linter.all false
set_option maxRecDepth 100000
namespace Go.AM.E15
open Go
noncomputable section
theorem po163_0_0 (n0 : Nat) : andAll (runG n0 163 (poA 0) (poR 0)) 21 0 := by
  refine cast ?_ (andAll_ok (runB_ok n0 163 (poA 0)) 21 0)
  kernel_rfl
theorem po163_0_21 (n0 : Nat) : andAll (runG n0 163 (poA 0) (poR 0)) 20 21 := by
  refine cast ?_ (andAll_ok (runB_ok n0 163 (poA 0)) 20 21)
  kernel_rfl
theorem po163_1_0 (n0 : Nat) : andAll (runG n0 163 (poA 1) (poR 1)) 21 0 := by
  refine cast ?_ (andAll_ok (runB_ok n0 163 (poA 1)) 21 0)
  kernel_rfl
theorem po163_1_21 (n0 : Nat) : andAll (runG n0 163 (poA 1) (poR 1)) 20 21 := by
  refine cast ?_ (andAll_ok (runB_ok n0 163 (poA 1)) 20 21)
  kernel_rfl
theorem po10_0_0 (n0 : Nat) : andAll (runG n0 10 (poA 0) (poR 0)) 21 0 := by
  refine cast ?_ (andAll_ok (runB_ok n0 10 (poA 0)) 21 0)
  kernel_rfl
theorem po10_0_21 (n0 : Nat) : andAll (runG n0 10 (poA 0) (poR 0)) 20 21 := by
  refine cast ?_ (andAll_ok (runB_ok n0 10 (poA 0)) 20 21)
  kernel_rfl
theorem po10_1_0 (n0 : Nat) : andAll (runG n0 10 (poA 1) (poR 1)) 21 0 := by
  refine cast ?_ (andAll_ok (runB_ok n0 10 (poA 1)) 21 0)
  kernel_rfl
theorem po10_1_21 (n0 : Nat) : andAll (runG n0 10 (poA 1) (poR 1)) 20 21 := by
  refine cast ?_ (andAll_ok (runB_ok n0 10 (poA 1)) 20 21)
  kernel_rfl
end
end Go.AM.E15
