import Derived.Test.YtlphhdagahhelaaGreatDoorL40TD
set_option linter.all false
/- Known results: part 5. -/
namespace Go.AM.L40
open Go Go.Proofs
noncomputable section
theorem ktn5_259 : tabOk F4 3000 259 tn5_259 = true := by kernel_rfl
theorem ktn9_141 : tabOk F8 3000 141 tn9_141 = true := by kernel_rfl
theorem ktn10_12 : tabOk F9 3000 12 tn10_12 = true := by kernel_rfl
theorem ktn1_576 : tabOk E3 3000 576 tn1_576 = true := by kernel_rfl
theorem ktn1_259 : tabOk E3 3000 259 tn1_259 = true := by kernel_rfl
theorem ktn3_297 : tabOk F2 3000 297 tn3_297 = true := by kernel_rfl
theorem ktn4_180 : tabOk F3 3000 180 tn4_180 = true := by kernel_rfl
theorem ktn1_580 : tabOk E3 3000 580 tn1_580 = true := by kernel_rfl
theorem ktn3_201 : tabOk F2 3000 201 tn3_201 = true := by kernel_rfl
theorem ktn1_415 : tabOk E3 3000 415 tn1_415 = true := by kernel_rfl
theorem ktn2_372 : tabOk F1 3000 372 tn2_372 = true := by kernel_rfl
theorem ktn9_181 : tabOk F8 3000 181 tn9_181 = true := by kernel_rfl
theorem ktn1_27 : tabOk E3 3000 27 tn1_27 = true := by kernel_rfl
theorem ktn2_266 : tabOk F1 3000 266 tn2_266 = true := by kernel_rfl
theorem ktn5_710 : tabOk F4 3000 710 tn5_710 = true := by kernel_rfl
theorem ktn4_409 : tabOk F3 3000 409 tn4_409 = true := by kernel_rfl
theorem ktn6_197 : tabOk F5 3000 197 tn6_197 = true := by kernel_rfl
theorem ktn3_408 : tabOk F2 3000 408 tn3_408 = true := by kernel_rfl
end
end Go.AM.L40
