import Derived.Test.YtlphhdagahhelaaGreatDoorL40TD
set_option linter.all false
/- Known results: part 7. -/
namespace Go.AM.L40
open Go Go.Proofs
noncomputable section
theorem ktn5_206 : tabOk F4 3000 206 tn5_206 = true := by kernel_rfl
theorem ktn7_379 : tabOk F6 3000 379 tn7_379 = true := by kernel_rfl
theorem ktn2_412 : tabOk F1 3000 412 tn2_412 = true := by kernel_rfl
theorem ktn8_213 : tabOk F7 3000 213 tn8_213 = true := by kernel_rfl
theorem ktn11_125 : tabOk F10 3000 125 tn11_125 = true := by kernel_rfl
theorem ktn1_29 : tabOk E3 3000 29 tn1_29 = true := by kernel_rfl
theorem ktn1_13 : tabOk E3 3000 13 tn1_13 = true := by kernel_rfl
theorem ktn1_306 : tabOk E3 3000 306 tn1_306 = true := by kernel_rfl
theorem ktn1_86 : tabOk E3 3000 86 tn1_86 = true := by kernel_rfl
theorem ktn10_219 : tabOk F9 3000 219 tn10_219 = true := by kernel_rfl
theorem ktn2_267 : tabOk F1 3000 267 tn2_267 = true := by kernel_rfl
theorem ktn3_406 : tabOk F2 3000 406 tn3_406 = true := by kernel_rfl
theorem ktn10_137 : tabOk F9 3000 137 tn10_137 = true := by kernel_rfl
theorem ktn2_646 : tabOk F1 3000 646 tn2_646 = true := by kernel_rfl
theorem ktn2_140 : tabOk F1 3000 140 tn2_140 = true := by kernel_rfl
theorem ktn5_404 : tabOk F4 3000 404 tn5_404 = true := by kernel_rfl
theorem ktn4_727 : tabOk F3 3000 727 tn4_727 = true := by kernel_rfl
theorem ktn10_179 : tabOk F9 3000 179 tn10_179 = true := by kernel_rfl
theorem ktn8_16 : tabOk F7 3000 16 tn8_16 = true := by kernel_rfl
end
end Go.AM.L40
