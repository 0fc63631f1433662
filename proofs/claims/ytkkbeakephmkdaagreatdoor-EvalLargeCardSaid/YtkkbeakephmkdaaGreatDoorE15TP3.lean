import Derived.Test.YtkkbeakephmkdaaGreatDoorE15Ext
set_option linter.all false
section
namespace Go.AM.E15
open Go Go.Proofs
noncomputable section
theorem ktn11_51 : tabOk F10 3000 51 tn11_51 = true := by kernel_rfl
theorem ktn1_285 : tabOk E1 3000 285 tn1_285 = true := by kernel_rfl
theorem ktn2_310 : tabOk F1 3000 310 tn2_310 = true := by kernel_rfl
theorem ktn2_404 : tabOk F1 3000 404 tn2_404 = true := by kernel_rfl
theorem ktn1_331 : tabOk E1 3000 331 tn1_331 = true := by kernel_rfl
theorem ktn5_184 : tabOk F4 3000 184 tn5_184 = true := by kernel_rfl
theorem ktn3_271 : tabOk F2 3000 271 tn3_271 = true := by kernel_rfl
theorem ktn3_27 : tabOk F2 3000 27 tn3_27 = true := by kernel_rfl
theorem ktn8_58 : tabOk F7 3000 58 tn8_58 = true := by kernel_rfl
theorem ktn4_331 : tabOk F3 3000 331 tn4_331 = true := by kernel_rfl
theorem ktn2_27 : tabOk F1 3000 27 tn2_27 = true := by kernel_rfl
theorem ktn1_229 : tabOk E1 3000 229 tn1_229 = true := by kernel_rfl
theorem ktn13_8 : tabOk F12 3000 8 tn13_8 = true := by kernel_rfl
theorem ktn2_38 : tabOk F1 3000 38 tn2_38 = true := by kernel_rfl
theorem ktn2_68 : tabOk F1 3000 68 tn2_68 = true := by kernel_rfl
theorem ktn5_208 : tabOk F4 3000 208 tn5_208 = true := by kernel_rfl
end
end Go.AM.E15
end
section
namespace Go.AM.E15
open Go Go.Proofs
noncomputable section
theorem ktn1_254 : tabOk E1 3000 254 tn1_254 = true := by kernel_rfl
theorem ktn7_56 : tabOk F6 3000 56 tn7_56 = true := by kernel_rfl
theorem ktn2_184 : tabOk F1 3000 184 tn2_184 = true := by kernel_rfl
theorem ktn1_263 : tabOk E1 3000 263 tn1_263 = true := by kernel_rfl
theorem ktn1_361 : tabOk E1 3000 361 tn1_361 = true := by kernel_rfl
theorem ktn2_157 : tabOk F1 3000 157 tn2_157 = true := by kernel_rfl
theorem ktn7_89 : tabOk F6 3000 89 tn7_89 = true := by kernel_rfl
theorem ktn4_158 : tabOk F3 3000 158 tn4_158 = true := by kernel_rfl
theorem ktn1_49 : tabOk E1 3000 49 tn1_49 = true := by kernel_rfl
theorem ktn3_188 : tabOk F2 3000 188 tn3_188 = true := by kernel_rfl
theorem ktn3_330 : tabOk F2 3000 330 tn3_330 = true := by kernel_rfl
theorem ktn5_191 : tabOk F4 3000 191 tn5_191 = true := by kernel_rfl
theorem ktn12_8 : tabOk F11 3000 8 tn12_8 = true := by kernel_rfl
theorem ktn4_160 : tabOk F3 3000 160 tn4_160 = true := by kernel_rfl
theorem ktn2_72 : tabOk F1 3000 72 tn2_72 = true := by kernel_rfl
theorem ktn4_373 : tabOk F3 3000 373 tn4_373 = true := by kernel_rfl
theorem ktn3_380 : tabOk F2 3000 380 tn3_380 = true := by kernel_rfl
end
end Go.AM.E15
end
