import Derived.Test.YtlphhdagahhelaaGreatDoorL40TD
set_option linter.all false
/- Known results: part 0. -/
namespace Go.AM.L40
open Go Go.Proofs
noncomputable section
theorem ktn13_12 : tabOk F12 3000 12 tn13_12 = true := by kernel_rfl
theorem ktn1_401 : tabOk E3 3000 401 tn1_401 = true := by kernel_rfl
theorem ktn6_518 : tabOk F5 3000 518 tn6_518 = true := by kernel_rfl
theorem ktn2_270 : tabOk F1 3000 270 tn2_270 = true := by kernel_rfl
theorem ktn1_374 : tabOk E3 3000 374 tn1_374 = true := by kernel_rfl
theorem ktn10_9 : tabOk F9 3000 9 tn10_9 = true := by kernel_rfl
theorem ktn4_138 : tabOk F3 3000 138 tn4_138 = true := by kernel_rfl
theorem ktn4_162 : tabOk F3 3000 162 tn4_162 = true := by kernel_rfl
theorem ktn3_138 : tabOk F2 3000 138 tn3_138 = true := by kernel_rfl
theorem ktn11_108 : tabOk F10 3000 108 tn11_108 = true := by kernel_rfl
theorem ktn2_40 : tabOk F1 3000 40 tn2_40 = true := by kernel_rfl
theorem ktn8_181 : tabOk F7 3000 181 tn8_181 = true := by kernel_rfl
end
end Go.AM.L40
