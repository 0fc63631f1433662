import Derived.Test.YtejhioblmaaokaaGreatDoorS40TD
set_option linter.all false
/- Known results: part 5. -/
namespace Go.AM.S40
open Go Go.Proofs
noncomputable section
theorem ktn5_272 : tabOk F4 3000 272 tn5_272 = true := by kernel_rfl
theorem ktn9_167 : tabOk F8 3000 167 tn9_167 = true := by kernel_rfl
theorem ktn10_20 : tabOk F9 3000 20 tn10_20 = true := by kernel_rfl
theorem ktn1_579 : tabOk E3 3000 579 tn1_579 = true := by kernel_rfl
theorem ktn1_272 : tabOk E3 3000 272 tn1_272 = true := by kernel_rfl
theorem ktn3_310 : tabOk F2 3000 310 tn3_310 = true := by kernel_rfl
theorem ktn4_208 : tabOk F3 3000 208 tn4_208 = true := by kernel_rfl
theorem ktn1_583 : tabOk E3 3000 583 tn1_583 = true := by kernel_rfl
theorem ktn3_224 : tabOk F2 3000 224 tn3_224 = true := by kernel_rfl
theorem ktn1_418 : tabOk E3 3000 418 tn1_418 = true := by kernel_rfl
theorem ktn2_383 : tabOk F1 3000 383 tn2_383 = true := by kernel_rfl
theorem ktn9_209 : tabOk F8 3000 209 tn9_209 = true := by kernel_rfl
theorem ktn1_47 : tabOk E3 3000 47 tn1_47 = true := by kernel_rfl
theorem ktn2_279 : tabOk F1 3000 279 tn2_279 = true := by kernel_rfl
theorem ktn5_710 : tabOk F4 3000 710 tn5_710 = true := by kernel_rfl
theorem ktn4_412 : tabOk F3 3000 412 tn4_412 = true := by kernel_rfl
theorem ktn6_220 : tabOk F5 3000 220 tn6_220 = true := by kernel_rfl
theorem ktn3_411 : tabOk F2 3000 411 tn3_411 = true := by kernel_rfl
end
end Go.AM.S40
