import Derived.Test.YtlphhdagahhelaaGreatDoorL40TD
set_option linter.all false
/- Known results: part 1. -/
namespace Go.AM.L40
open Go Go.Proofs
noncomputable section
theorem ktn9_210 : tabOk F8 3000 210 tn9_210 = true := by kernel_rfl
theorem ktn1_812 : tabOk E3 3000 812 tn1_812 = true := by kernel_rfl
theorem ktn3_858 : tabOk F2 3000 858 tn3_858 = true := by kernel_rfl
theorem ktn1_122 : tabOk E3 3000 122 tn1_122 = true := by kernel_rfl
theorem ktn4_232 : tabOk F3 3000 232 tn4_232 = true := by kernel_rfl
theorem ktn9_58 : tabOk F8 3000 58 tn9_58 = true := by kernel_rfl
theorem ktn8_126 : tabOk F7 3000 126 tn8_126 = true := by kernel_rfl
theorem ktn5_135 : tabOk F4 3000 135 tn5_135 = true := by kernel_rfl
theorem ktn4_209 : tabOk F3 3000 209 tn4_209 = true := by kernel_rfl
theorem ktn5_159 : tabOk F4 3000 159 tn5_159 = true := by kernel_rfl
theorem ktn12_9 : tabOk F11 3000 9 tn12_9 = true := by kernel_rfl
theorem ktn3_713 : tabOk F2 3000 713 tn3_713 = true := by kernel_rfl
theorem ktn4_852 : tabOk F3 3000 852 tn4_852 = true := by kernel_rfl
end
end Go.AM.L40
