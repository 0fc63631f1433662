import Derived.Test.YtkkbeakephmkdaaGreatDoorE15Ext
set_option linter.all false
namespace Go.AM.E15
open Go Go.Proofs
noncomputable section
theorem ktn5_78 : tabOk F4 3000 78 tn5_78 = true := by kernel_rfl
theorem ktn6_161 : tabOk F5 3000 161 tn6_161 = true := by kernel_rfl
end
end Go.AM.E15
