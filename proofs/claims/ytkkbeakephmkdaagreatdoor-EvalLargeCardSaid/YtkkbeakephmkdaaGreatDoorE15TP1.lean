import Derived.Test.YtkkbeakephmkdaaGreatDoorE15Ext
set_option linter.all false
section
namespace Go.AM.E15
open Go Go.Proofs
noncomputable section
theorem ktn1_376 : tabOk E1 3000 376 tn1_376 = true := by kernel_rfl
theorem ktn2_371 : tabOk F1 3000 371 tn2_371 = true := by kernel_rfl
theorem ktn2_275 : tabOk F1 3000 275 tn2_275 = true := by kernel_rfl
theorem ktn1_50 : tabOk E1 3000 50 tn1_50 = true := by kernel_rfl
theorem ktn2_273 : tabOk F1 3000 273 tn2_273 = true := by kernel_rfl
theorem ktn1_403 : tabOk E1 3000 403 tn1_403 = true := by kernel_rfl
theorem ktn4_261 : tabOk F3 3000 261 tn4_261 = true := by kernel_rfl
theorem ktn4_80 : tabOk F3 3000 80 tn4_80 = true := by kernel_rfl
theorem ktn1_97 : tabOk E1 3000 97 tn1_97 = true := by kernel_rfl
theorem ktn6_163 : tabOk F5 3000 163 tn6_163 = true := by kernel_rfl
theorem ktn5_625 : tabOk F4 3000 625 tn5_625 = true := by kernel_rfl
theorem ktn2_70 : tabOk F1 3000 70 tn2_70 = true := by kernel_rfl
theorem ktn5_261 : tabOk F4 3000 261 tn5_261 = true := by kernel_rfl
theorem ktn7_626 : tabOk F6 3000 626 tn7_626 = true := by kernel_rfl
theorem ktn2_412 : tabOk F1 3000 412 tn2_412 = true := by kernel_rfl
end
end Go.AM.E15
end
section
namespace Go.AM.E15
open Go Go.Proofs
noncomputable section
theorem ktn10_51 : tabOk F9 3000 51 tn10_51 = true := by kernel_rfl
theorem ktn1_371 : tabOk E1 3000 371 tn1_371 = true := by kernel_rfl
theorem ktn7_322 : tabOk F6 3000 322 tn7_322 = true := by kernel_rfl
theorem ktn1_189 : tabOk E1 3000 189 tn1_189 = true := by kernel_rfl
theorem ktn4_255 : tabOk F3 3000 255 tn4_255 = true := by kernel_rfl
theorem ktn3_372 : tabOk F2 3000 372 tn3_372 = true := by kernel_rfl
theorem ktn2_377 : tabOk F1 3000 377 tn2_377 = true := by kernel_rfl
theorem ktn3_50 : tabOk F2 3000 50 tn3_50 = true := by kernel_rfl
theorem ktn6_606 : tabOk F5 3000 606 tn6_606 = true := by kernel_rfl
theorem ktn1_256 : tabOk E1 3000 256 tn1_256 = true := by kernel_rfl
theorem ktn1_275 : tabOk E1 3000 275 tn1_275 = true := by kernel_rfl
theorem ktn5_255 : tabOk F4 3000 255 tn5_255 = true := by kernel_rfl
theorem ktn12_28 : tabOk F11 3000 28 tn12_28 = true := by kernel_rfl
theorem ktn6_101 : tabOk F5 3000 101 tn6_101 = true := by kernel_rfl
theorem ktn5_16 : tabOk F4 3000 16 tn5_16 = true := by kernel_rfl
theorem ktn4_29 : tabOk F3 3000 29 tn4_29 = true := by kernel_rfl
theorem ktn3_243 : tabOk F2 3000 243 tn3_243 = true := by kernel_rfl
end
end Go.AM.E15
end
