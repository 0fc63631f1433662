import Derived.Test.YtejhioblmaaokaaGreatDoorS40TD
set_option linter.all false
/- Known results: part 1. -/
namespace Go.AM.S40
open Go Go.Proofs
noncomputable section
theorem ktn9_233 : tabOk F8 3000 233 tn9_233 = true := by kernel_rfl
theorem ktn1_811 : tabOk E3 3000 811 tn1_811 = true := by kernel_rfl
theorem ktn3_857 : tabOk F2 3000 857 tn3_857 = true := by kernel_rfl
theorem ktn1_30 : tabOk E3 3000 30 tn1_30 = true := by kernel_rfl
theorem ktn4_253 : tabOk F3 3000 253 tn4_253 = true := by kernel_rfl
theorem ktn9_79 : tabOk F8 3000 79 tn9_79 = true := by kernel_rfl
theorem ktn8_152 : tabOk F7 3000 152 tn8_152 = true := by kernel_rfl
theorem ktn5_161 : tabOk F4 3000 161 tn5_161 = true := by kernel_rfl
theorem ktn4_232 : tabOk F3 3000 232 tn4_232 = true := by kernel_rfl
theorem ktn5_187 : tabOk F4 3000 187 tn5_187 = true := by kernel_rfl
theorem ktn12_7 : tabOk F11 3000 7 tn12_7 = true := by kernel_rfl
theorem ktn3_713 : tabOk F2 3000 713 tn3_713 = true := by kernel_rfl
theorem ktn4_851 : tabOk F3 3000 851 tn4_851 = true := by kernel_rfl
end
end Go.AM.S40
