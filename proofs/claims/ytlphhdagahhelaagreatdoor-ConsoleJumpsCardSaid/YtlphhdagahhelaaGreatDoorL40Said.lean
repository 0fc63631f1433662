import Derived.Test.YtlphhdagahhelaaGreatDoorL40W5
import Derived.Test.YtlphhdagahhelaaGreatDoorL40F7
set_option linter.all false
/- ConsoleJumps: the row's statement. -/
set_option maxRecDepth 100000
namespace Go.AM.L40.Sy
open Go Go.Proofs Go.ChangeShapes Go.RowKit
open Go.Proofs.YtlphhdagahhelaaGreatDoor
noncomputable section
theorem no_init : Tryz.checked.prog.inits.idxOf? 3 = none := by kernel_rfl
theorem lifted (os : Os) (started : os.Started) (H : Type) (enc : TypeId × Value → H) (F : Stop.Interp) :
    ReturnsInHanded {} Tryz.checked os 3 .any ((OpenSpec.ofChange Rows.consoleJumpsSpec).preRow enc Tryz.prog Tryz.f3 Rows.consoleJumpsRow.domain false Rows.consoleJumpsRow.laid) (((OpenSpec.ofChange Rows.consoleJumpsSpec).at F).post enc Tryz.prog Tryz.f3 false true false false) := by
  refine returnsInHanded_of_row (C := Tryz.checked) (s := OpenSpec.ofChange Rows.consoleJumpsSpec) own started no_init Tryz.func3 (wit os enc) ?_
  intro W base args ds gs before hval hW _ _ _ hL _ _
  exact contract H enc W base args ds gs before hval hW hL
theorem said : Rows.ConsoleJumpsSaid :=
  OpenClaim.holds_of_cond 3 Tryz.f3 rfl rfl rfl rfl rfl rfl rfl ⟨rfl, rfl, rfl, rfl, rfl⟩ rfl rfl rfl rfl rfl law_named Tryz.func3 closed_ok x1 x2
    (fun os started H enc _ F => by rw [OpenClaim.pre_eq_preRow]; exact lifted os started H enc F)
end
end Go.AM.L40.Sy
