import Derived.Test.YtlphhdagahhelaaGreatDoorL40TD
set_option linter.all false
/- Known results: part 3. -/
namespace Go.AM.L40
open Go Go.Proofs
noncomputable section
theorem ktn1_609 : tabOk E3 3000 609 tn1_609 = true := by kernel_rfl
theorem ktn4_220 : tabOk F3 3000 220 tn4_220 = true := by kernel_rfl
theorem ktn1_150 : tabOk E3 3000 150 tn1_150 = true := by kernel_rfl
theorem ktn2_212 : tabOk F1 3000 212 tn2_212 = true := by kernel_rfl
theorem ktn1_297 : tabOk E3 3000 297 tn1_297 = true := by kernel_rfl
theorem ktn6_310 : tabOk F5 3000 310 tn6_310 = true := by kernel_rfl
theorem ktn1_263 : tabOk E3 3000 263 tn1_263 = true := by kernel_rfl
theorem ktn2_55 : tabOk F1 3000 55 tn2_55 = true := by kernel_rfl
theorem ktn5_267 : tabOk F4 3000 267 tn5_267 = true := by kernel_rfl
theorem ktn2_51 : tabOk F1 3000 51 tn2_51 = true := by kernel_rfl
theorem ktn1_918 : tabOk E3 3000 918 tn1_918 = true := by kernel_rfl
theorem ktn13_9 : tabOk F12 3000 9 tn13_9 = true := by kernel_rfl
theorem ktn3_374 : tabOk F2 3000 374 tn3_374 = true := by kernel_rfl
theorem ktn6_267 : tabOk F5 3000 267 tn6_267 = true := by kernel_rfl
theorem ktn5_502 : tabOk F4 3000 502 tn5_502 = true := by kernel_rfl
theorem ktn6_142 : tabOk F5 3000 142 tn6_142 = true := by kernel_rfl
theorem ktn10_197 : tabOk F9 3000 197 tn10_197 = true := by kernel_rfl
end
end Go.AM.L40
