import Derived.Test.YtejhioblmaaokaaGreatDoorS40TD
set_option linter.all false
/- Known results: part 2. -/
namespace Go.AM.S40
open Go Go.Proofs
noncomputable section
theorem ktn7_46 : tabOk F6 3000 46 tn7_46 = true := by kernel_rfl
theorem ktn1_235 : tabOk E3 3000 235 tn1_235 = true := by kernel_rfl
theorem ktn1_228 : tabOk E3 3000 228 tn1_228 = true := by kernel_rfl
theorem ktn8_151 : tabOk F7 3000 151 tn8_151 = true := by kernel_rfl
theorem ktn12_144 : tabOk F11 3000 144 tn12_144 = true := by kernel_rfl
theorem ktn2_385 : tabOk F1 3000 385 tn2_385 = true := by kernel_rfl
theorem ktn1_208 : tabOk E3 3000 208 tn1_208 = true := by kernel_rfl
theorem ktn1_836 : tabOk E3 3000 836 tn1_836 = true := by kernel_rfl
theorem ktn6_125 : tabOk F5 3000 125 tn6_125 = true := by kernel_rfl
theorem ktn11_211 : tabOk F10 3000 211 tn11_211 = true := by kernel_rfl
theorem ktn11_7 : tabOk F10 3000 7 tn11_7 = true := by kernel_rfl
theorem ktn7_220 : tabOk F6 3000 220 tn7_220 = true := by kernel_rfl
theorem ktn15_4 : tabOk F14 3000 4 tn15_4 = true := by kernel_rfl
theorem ktn3_150 : tabOk F2 3000 150 tn3_150 = true := by kernel_rfl
theorem ktn5_549 : tabOk F4 3000 549 tn5_549 = true := by kernel_rfl
theorem ktn3_12 : tabOk F2 3000 12 tn3_12 = true := by kernel_rfl
end
end Go.AM.S40
