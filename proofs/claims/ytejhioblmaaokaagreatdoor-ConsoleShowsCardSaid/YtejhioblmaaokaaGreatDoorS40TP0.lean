import Derived.Test.YtejhioblmaaokaaGreatDoorS40TD
set_option linter.all false
/- Known results: part 0. -/
namespace Go.AM.S40
open Go Go.Proofs
noncomputable section
theorem ktn13_20 : tabOk F12 3000 20 tn13_20 = true := by kernel_rfl
theorem ktn1_404 : tabOk E3 3000 404 tn1_404 = true := by kernel_rfl
theorem ktn6_521 : tabOk F5 3000 521 tn6_521 = true := by kernel_rfl
theorem ktn2_283 : tabOk F1 3000 283 tn2_283 = true := by kernel_rfl
theorem ktn1_385 : tabOk E3 3000 385 tn1_385 = true := by kernel_rfl
theorem ktn10_7 : tabOk F9 3000 7 tn10_7 = true := by kernel_rfl
theorem ktn4_164 : tabOk F3 3000 164 tn4_164 = true := by kernel_rfl
theorem ktn4_190 : tabOk F3 3000 190 tn4_190 = true := by kernel_rfl
theorem ktn3_164 : tabOk F2 3000 164 tn3_164 = true := by kernel_rfl
theorem ktn11_143 : tabOk F10 3000 143 tn11_143 = true := by kernel_rfl
theorem ktn2_22 : tabOk F1 3000 22 tn2_22 = true := by kernel_rfl
theorem ktn8_209 : tabOk F7 3000 209 tn8_209 = true := by kernel_rfl
end
end Go.AM.S40
