import Derived.Test.YtejhioblmaaokaaGreatDoorS40TD
set_option linter.all false
/- Known results: part 4. -/
namespace Go.AM.S40
open Go Go.Proofs
noncomputable section
theorem ktn6_216 : tabOk F5 3000 216 tn6_216 = true := by kernel_rfl
theorem ktn2_216 : tabOk F1 3000 216 tn2_216 = true := by kernel_rfl
theorem ktn1_23 : tabOk E3 3000 23 tn1_23 = true := by kernel_rfl
theorem ktn10_147 : tabOk F9 3000 147 tn10_147 = true := by kernel_rfl
theorem ktn3_253 : tabOk F2 3000 253 tn3_253 = true := by kernel_rfl
theorem ktn1_961 : tabOk E3 3000 961 tn1_961 = true := by kernel_rfl
theorem ktn1_224 : tabOk E3 3000 224 tn1_224 = true := by kernel_rfl
theorem ktn1_682 : tabOk E3 3000 682 tn1_682 = true := by kernel_rfl
theorem ktn2_718 : tabOk F1 3000 718 tn2_718 = true := by kernel_rfl
theorem ktn14_7 : tabOk F13 3000 7 tn14_7 = true := by kernel_rfl
theorem ktn7_150 : tabOk F6 3000 150 tn7_150 = true := by kernel_rfl
theorem ktn2_265 : tabOk F1 3000 265 tn2_265 = true := by kernel_rfl
theorem ktn7_409 : tabOk F6 3000 409 tn7_409 = true := by kernel_rfl
theorem ktn5_532 : tabOk F4 3000 532 tn5_532 = true := by kernel_rfl
theorem ktn2_584 : tabOk F1 3000 584 tn2_584 = true := by kernel_rfl
theorem ktn3_166 : tabOk F2 3000 166 tn3_166 = true := by kernel_rfl
theorem ktn4_408 : tabOk F3 3000 408 tn4_408 = true := by kernel_rfl
end
end Go.AM.S40
