import Derived.Test.YtkkbeakephmkdaaGreatDoorE15Ext
set_option linter.all false
namespace Go.AM.E15
open Go Go.Proofs
noncomputable section
theorem ktn1_35 : tabOk E1 3000 35 tn1_35 = true := by kernel_rfl
theorem ktn9_309 : tabOk F8 3000 309 tn9_309 = true := by kernel_rfl
theorem ktn3_255 : tabOk F2 3000 255 tn3_255 = true := by kernel_rfl
theorem ktn1_406 : tabOk E1 3000 406 tn1_406 = true := by kernel_rfl
theorem ktn10_25 : tabOk F9 3000 25 tn10_25 = true := by kernel_rfl
theorem ktn1_6 : tabOk E1 3000 6 tn1_6 = true := by kernel_rfl
theorem ktn9_621 : tabOk F8 3000 621 tn9_621 = true := by kernel_rfl
theorem ktn1_310 : tabOk E1 3000 310 tn1_310 = true := by kernel_rfl
theorem ktn5_163 : tabOk F4 3000 163 tn5_163 = true := by kernel_rfl
theorem ktn1_492 : tabOk E1 3000 492 tn1_492 = true := by kernel_rfl
theorem ktn8_624 : tabOk F7 3000 624 tn8_624 = true := by kernel_rfl
theorem ktn1_54 : tabOk E1 3000 54 tn1_54 = true := by kernel_rfl
theorem ktn3_53 : tabOk F2 3000 53 tn3_53 = true := by kernel_rfl
theorem ktn5_193 : tabOk F4 3000 193 tn5_193 = true := by kernel_rfl
theorem ktn4_37 : tabOk F3 3000 37 tn4_37 = true := by kernel_rfl
theorem ktn4_359 : tabOk F3 3000 359 tn4_359 = true := by kernel_rfl
theorem ktn2_83 : tabOk F1 3000 83 tn2_83 = true := by kernel_rfl
end
end Go.AM.E15
