import Derived.Test.YtejhioblmaaokaaGreatDoorS40TD
set_option linter.all false
/- Known results: part 7. -/
namespace Go.AM.S40
open Go Go.Proofs
noncomputable section
theorem ktn5_229 : tabOk F4 3000 229 tn5_229 = true := by kernel_rfl
theorem ktn7_390 : tabOk F6 3000 390 tn7_390 = true := by kernel_rfl
theorem ktn2_415 : tabOk F1 3000 415 tn2_415 = true := by kernel_rfl
theorem ktn8_236 : tabOk F7 3000 236 tn8_236 = true := by kernel_rfl
theorem ktn11_151 : tabOk F10 3000 151 tn11_151 = true := by kernel_rfl
theorem ktn1_49 : tabOk E3 3000 49 tn1_49 = true := by kernel_rfl
theorem ktn1_21 : tabOk E3 3000 21 tn1_21 = true := by kernel_rfl
theorem ktn1_319 : tabOk E3 3000 319 tn1_319 = true := by kernel_rfl
theorem ktn1_40 : tabOk E3 3000 40 tn1_40 = true := by kernel_rfl
theorem ktn10_242 : tabOk F9 3000 242 tn10_242 = true := by kernel_rfl
theorem ktn2_280 : tabOk F1 3000 280 tn2_280 = true := by kernel_rfl
theorem ktn3_409 : tabOk F2 3000 409 tn3_409 = true := by kernel_rfl
theorem ktn10_163 : tabOk F9 3000 163 tn10_163 = true := by kernel_rfl
theorem ktn2_646 : tabOk F1 3000 646 tn2_646 = true := by kernel_rfl
theorem ktn2_166 : tabOk F1 3000 166 tn2_166 = true := by kernel_rfl
theorem ktn5_407 : tabOk F4 3000 407 tn5_407 = true := by kernel_rfl
theorem ktn4_727 : tabOk F3 3000 727 tn4_727 = true := by kernel_rfl
theorem ktn10_207 : tabOk F9 3000 207 tn10_207 = true := by kernel_rfl
theorem ktn8_31 : tabOk F7 3000 31 tn8_31 = true := by kernel_rfl
end
end Go.AM.S40
