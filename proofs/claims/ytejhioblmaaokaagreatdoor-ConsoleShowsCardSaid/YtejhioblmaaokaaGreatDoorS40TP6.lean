import Derived.Test.YtejhioblmaaokaaGreatDoorS40TD
set_option linter.all false
/- Known results: part 6. -/
namespace Go.AM.S40
open Go Go.Proofs
noncomputable section
theorem ktn3_6 : tabOk F2 3000 6 tn3_6 = true := by kernel_rfl
theorem ktn11_20 : tabOk F10 3000 20 tn11_20 = true := by kernel_rfl
theorem ktn12_20 : tabOk F11 3000 20 tn12_20 = true := by kernel_rfl
theorem ktn7_151 : tabOk F6 3000 151 tn7_151 = true := by kernel_rfl
theorem ktn1_16 : tabOk E3 3000 16 tn1_16 = true := by kernel_rfl
theorem ktn1_229 : tabOk E3 3000 229 tn1_229 = true := by kernel_rfl
theorem ktn9_20 : tabOk F8 3000 20 tn9_20 = true := by kernel_rfl
theorem ktn5_173 : tabOk F4 3000 173 tn5_173 = true := by kernel_rfl
theorem ktn2_858 : tabOk F1 3000 858 tn2_858 = true := by kernel_rfl
theorem ktn2_32 : tabOk F1 3000 32 tn2_32 = true := by kernel_rfl
theorem ktn8_268 : tabOk F7 3000 268 tn8_268 = true := by kernel_rfl
theorem ktn9_280 : tabOk F8 3000 280 tn9_280 = true := by kernel_rfl
theorem ktn3_267 : tabOk F2 3000 267 tn3_267 = true := by kernel_rfl
theorem ktn2_682 : tabOk F1 3000 682 tn2_682 = true := by kernel_rfl
theorem ktn12_79 : tabOk F11 3000 79 tn12_79 = true := by kernel_rfl
theorem ktn2_628 : tabOk F1 3000 628 tn2_628 = true := by kernel_rfl
theorem ktn8_412 : tabOk F7 3000 412 tn8_412 = true := by kernel_rfl
theorem ktn4_729 : tabOk F3 3000 729 tn4_729 = true := by kernel_rfl
end
end Go.AM.S40
