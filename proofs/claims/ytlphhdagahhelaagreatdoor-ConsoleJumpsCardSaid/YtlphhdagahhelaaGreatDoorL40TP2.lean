import Derived.Test.YtlphhdagahhelaaGreatDoorL40TD
set_option linter.all false
/- Known results: part 2. -/
namespace Go.AM.L40
open Go Go.Proofs
noncomputable section
theorem ktn7_26 : tabOk F6 3000 26 tn7_26 = true := by kernel_rfl
theorem ktn1_212 : tabOk E3 3000 212 tn1_212 = true := by kernel_rfl
theorem ktn1_205 : tabOk E3 3000 205 tn1_205 = true := by kernel_rfl
theorem ktn8_125 : tabOk F7 3000 125 tn8_125 = true := by kernel_rfl
theorem ktn12_109 : tabOk F11 3000 109 tn12_109 = true := by kernel_rfl
theorem ktn2_374 : tabOk F1 3000 374 tn2_374 = true := by kernel_rfl
theorem ktn1_180 : tabOk E3 3000 180 tn1_180 = true := by kernel_rfl
theorem ktn1_837 : tabOk E3 3000 837 tn1_837 = true := by kernel_rfl
theorem ktn6_90 : tabOk F5 3000 90 tn6_90 = true := by kernel_rfl
theorem ktn11_183 : tabOk F10 3000 183 tn11_183 = true := by kernel_rfl
theorem ktn11_9 : tabOk F10 3000 9 tn11_9 = true := by kernel_rfl
theorem ktn7_197 : tabOk F6 3000 197 tn7_197 = true := by kernel_rfl
theorem ktn15_4 : tabOk F14 3000 4 tn15_4 = true := by kernel_rfl
theorem ktn3_124 : tabOk F2 3000 124 tn3_124 = true := by kernel_rfl
theorem ktn5_546 : tabOk F4 3000 546 tn5_546 = true := by kernel_rfl
theorem ktn3_19 : tabOk F2 3000 19 tn3_19 = true := by kernel_rfl
end
end Go.AM.L40
