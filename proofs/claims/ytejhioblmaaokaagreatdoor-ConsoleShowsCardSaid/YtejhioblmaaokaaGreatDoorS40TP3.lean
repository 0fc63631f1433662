import Derived.Test.YtejhioblmaaokaaGreatDoorS40TD
set_option linter.all false
/- Known results: part 3. -/
namespace Go.AM.S40
open Go Go.Proofs
noncomputable section
theorem ktn1_609 : tabOk E3 3000 609 tn1_609 = true := by kernel_rfl
theorem ktn4_243 : tabOk F3 3000 243 tn4_243 = true := by kernel_rfl
theorem ktn1_176 : tabOk E3 3000 176 tn1_176 = true := by kernel_rfl
theorem ktn2_235 : tabOk F1 3000 235 tn2_235 = true := by kernel_rfl
theorem ktn1_310 : tabOk E3 3000 310 tn1_310 = true := by kernel_rfl
theorem ktn6_323 : tabOk F5 3000 323 tn6_323 = true := by kernel_rfl
theorem ktn1_276 : tabOk E3 3000 276 tn1_276 = true := by kernel_rfl
theorem ktn2_19 : tabOk F1 3000 19 tn2_19 = true := by kernel_rfl
theorem ktn5_280 : tabOk F4 3000 280 tn5_280 = true := by kernel_rfl
theorem ktn2_13 : tabOk F1 3000 13 tn2_13 = true := by kernel_rfl
theorem ktn1_917 : tabOk E3 3000 917 tn1_917 = true := by kernel_rfl
theorem ktn13_7 : tabOk F12 3000 7 tn13_7 = true := by kernel_rfl
theorem ktn3_385 : tabOk F2 3000 385 tn3_385 = true := by kernel_rfl
theorem ktn6_280 : tabOk F5 3000 280 tn6_280 = true := by kernel_rfl
theorem ktn5_505 : tabOk F4 3000 505 tn5_505 = true := by kernel_rfl
theorem ktn6_168 : tabOk F5 3000 168 tn6_168 = true := by kernel_rfl
theorem ktn10_220 : tabOk F9 3000 220 tn10_220 = true := by kernel_rfl
end
end Go.AM.S40
