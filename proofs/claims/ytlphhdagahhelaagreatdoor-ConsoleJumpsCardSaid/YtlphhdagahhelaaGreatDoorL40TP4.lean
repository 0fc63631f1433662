import Derived.Test.YtlphhdagahhelaaGreatDoorL40TD
set_option linter.all false
/- Known results: part 4. -/
namespace Go.AM.L40
open Go Go.Proofs
noncomputable section
theorem ktn6_193 : tabOk F5 3000 193 tn6_193 = true := by kernel_rfl
theorem ktn2_193 : tabOk F1 3000 193 tn2_193 = true := by kernel_rfl
theorem ktn1_115 : tabOk E3 3000 115 tn1_115 = true := by kernel_rfl
theorem ktn10_113 : tabOk F9 3000 113 tn10_113 = true := by kernel_rfl
theorem ktn3_232 : tabOk F2 3000 232 tn3_232 = true := by kernel_rfl
theorem ktn1_962 : tabOk E3 3000 962 tn1_962 = true := by kernel_rfl
theorem ktn1_201 : tabOk E3 3000 201 tn1_201 = true := by kernel_rfl
theorem ktn1_682 : tabOk E3 3000 682 tn1_682 = true := by kernel_rfl
theorem ktn2_718 : tabOk F1 3000 718 tn2_718 = true := by kernel_rfl
theorem ktn14_9 : tabOk F13 3000 9 tn14_9 = true := by kernel_rfl
theorem ktn7_124 : tabOk F6 3000 124 tn7_124 = true := by kernel_rfl
theorem ktn2_244 : tabOk F1 3000 244 tn2_244 = true := by kernel_rfl
theorem ktn7_406 : tabOk F6 3000 406 tn7_406 = true := by kernel_rfl
theorem ktn5_529 : tabOk F4 3000 529 tn5_529 = true := by kernel_rfl
theorem ktn2_581 : tabOk F1 3000 581 tn2_581 = true := by kernel_rfl
theorem ktn3_140 : tabOk F2 3000 140 tn3_140 = true := by kernel_rfl
theorem ktn4_405 : tabOk F3 3000 405 tn4_405 = true := by kernel_rfl
end
end Go.AM.L40
