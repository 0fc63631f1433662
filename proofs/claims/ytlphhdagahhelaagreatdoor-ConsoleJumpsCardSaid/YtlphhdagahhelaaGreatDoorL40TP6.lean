import Derived.Test.YtlphhdagahhelaaGreatDoorL40TD
set_option linter.all false
/- Known results: part 6. -/
namespace Go.AM.L40
open Go Go.Proofs
noncomputable section
theorem ktn3_30 : tabOk F2 3000 30 tn3_30 = true := by kernel_rfl
theorem ktn11_12 : tabOk F10 3000 12 tn11_12 = true := by kernel_rfl
theorem ktn12_12 : tabOk F11 3000 12 tn12_12 = true := by kernel_rfl
theorem ktn7_125 : tabOk F6 3000 125 tn7_125 = true := by kernel_rfl
theorem ktn1_34 : tabOk E3 3000 34 tn1_34 = true := by kernel_rfl
theorem ktn1_206 : tabOk E3 3000 206 tn1_206 = true := by kernel_rfl
theorem ktn9_12 : tabOk F8 3000 12 tn9_12 = true := by kernel_rfl
theorem ktn5_147 : tabOk F4 3000 147 tn5_147 = true := by kernel_rfl
theorem ktn2_859 : tabOk F1 3000 859 tn2_859 = true := by kernel_rfl
theorem ktn2_17 : tabOk F1 3000 17 tn2_17 = true := by kernel_rfl
theorem ktn8_247 : tabOk F7 3000 247 tn8_247 = true := by kernel_rfl
theorem ktn9_267 : tabOk F8 3000 267 tn9_267 = true := by kernel_rfl
theorem ktn3_246 : tabOk F2 3000 246 tn3_246 = true := by kernel_rfl
theorem ktn2_682 : tabOk F1 3000 682 tn2_682 = true := by kernel_rfl
theorem ktn12_58 : tabOk F11 3000 58 tn12_58 = true := by kernel_rfl
theorem ktn2_628 : tabOk F1 3000 628 tn2_628 = true := by kernel_rfl
theorem ktn8_409 : tabOk F7 3000 409 tn8_409 = true := by kernel_rfl
theorem ktn4_729 : tabOk F3 3000 729 tn4_729 = true := by kernel_rfl
end
end Go.AM.L40
