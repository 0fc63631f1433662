import Derived.Test.YtkkbeakephmkdaaGreatDoorE15Ext
set_option linter.all false
section
namespace Go.AM.E15
open Go Go.Proofs
noncomputable section
theorem ktn1_33 : tabOk E1 3000 33 tn1_33 = true := by kernel_rfl
theorem ktn2_256 : tabOk F1 3000 256 tn2_256 = true := by kernel_rfl
theorem ktn2_329 : tabOk F1 3000 329 tn2_329 = true := by kernel_rfl
theorem ktn14_4 : tabOk F13 3000 4 tn14_4 = true := by kernel_rfl
theorem ktn3_260 : tabOk F2 3000 260 tn3_260 = true := by kernel_rfl
theorem ktn9_43 : tabOk F8 3000 43 tn9_43 = true := by kernel_rfl
theorem ktn6_621 : tabOk F5 3000 621 tn6_621 = true := by kernel_rfl
theorem ktn4_318 : tabOk F3 3000 318 tn4_318 = true := by kernel_rfl
theorem ktn3_374 : tabOk F2 3000 374 tn3_374 = true := by kernel_rfl
theorem ktn2_188 : tabOk F1 3000 188 tn2_188 = true := by kernel_rfl
theorem ktn1_341 : tabOk E1 3000 341 tn1_341 = true := by kernel_rfl
theorem ktn2_255 : tabOk F1 3000 255 tn2_255 = true := by kernel_rfl
theorem ktn12_22 : tabOk F11 3000 22 tn12_22 = true := by kernel_rfl
theorem ktn2_26 : tabOk F1 3000 26 tn2_26 = true := by kernel_rfl
theorem ktn3_158 : tabOk F2 3000 158 tn3_158 = true := by kernel_rfl
end
end Go.AM.E15
end
section
namespace Go.AM.E15
open Go Go.Proofs
noncomputable section
theorem ktn10_309 : tabOk F9 3000 309 tn10_309 = true := by kernel_rfl
theorem ktn2_15 : tabOk F1 3000 15 tn2_15 = true := by kernel_rfl
theorem ktn3_183 : tabOk F2 3000 183 tn3_183 = true := by kernel_rfl
theorem ktn7_308 : tabOk F6 3000 308 tn7_308 = true := by kernel_rfl
theorem ktn1_157 : tabOk E1 3000 157 tn1_157 = true := by kernel_rfl
theorem ktn6_322 : tabOk F5 3000 322 tn6_322 = true := by kernel_rfl
theorem ktn5_359 : tabOk F4 3000 359 tn5_359 = true := by kernel_rfl
theorem ktn1_184 : tabOk E1 3000 184 tn1_184 = true := by kernel_rfl
theorem ktn2_621 : tabOk F1 3000 621 tn2_621 = true := by kernel_rfl
theorem ktn5_159 : tabOk F4 3000 159 tn5_159 = true := by kernel_rfl
theorem ktn11_28 : tabOk F10 3000 28 tn11_28 = true := by kernel_rfl
theorem ktn1_94 : tabOk E1 3000 94 tn1_94 = true := by kernel_rfl
theorem ktn2_75 : tabOk F1 3000 75 tn2_75 = true := by kernel_rfl
theorem ktn3_83 : tabOk F2 3000 83 tn3_83 = true := by kernel_rfl
theorem ktn5_357 : tabOk F4 3000 357 tn5_357 = true := by kernel_rfl
theorem ktn2_29 : tabOk F1 3000 29 tn2_29 = true := by kernel_rfl
theorem ktn2_243 : tabOk F1 3000 243 tn2_243 = true := by kernel_rfl
end
end Go.AM.E15
end
