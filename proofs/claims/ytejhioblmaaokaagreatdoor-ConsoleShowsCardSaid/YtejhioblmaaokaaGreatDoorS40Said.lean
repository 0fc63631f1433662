import Derived.Test.YtejhioblmaaokaaGreatDoorS40W5
import Derived.Test.YtejhioblmaaokaaGreatDoorS40F7
import Derived.Test.YtejhioblmaaokaaGreatDoorS40I1
set_option linter.all false
/- ConsoleShows: the row's statement. -/
set_option maxRecDepth 100000
namespace Go.AM.S40.Sy
open Go Go.Proofs Go.ChangeShapes Go.RowKit
open Go.Proofs.YtejhioblmaaokaaGreatDoor
noncomputable section
theorem no_init : Tryz.checked.prog.inits.idxOf? 3 = none := by kernel_rfl
theorem lifted (hI : SumOk (layer E3 E3 0 tZ) Tryz.prog 12 itoaH) (os : Os) (started : os.Started) (H : Type) (enc : TypeId × Value → H) (F : Stop.Interp) :
    ReturnsInHanded {} Tryz.checked os 3 .any ((OpenSpec.ofChange Rows.consoleShowsSpec).preRow enc Tryz.prog Tryz.f3 Rows.consoleShowsRow.domain false Rows.consoleShowsRow.laid) (((OpenSpec.ofChange Rows.consoleShowsSpec).at F).post enc Tryz.prog Tryz.f3 false true false false) := by
  refine returnsInHanded_of_row (C := Tryz.checked) (s := OpenSpec.ofChange Rows.consoleShowsSpec) own started no_init Tryz.func3 (wit os enc) ?_
  intro W base args ds gs before hval hW _ _ hz hL _ _
  exact contract_of hI H enc W base args ds gs before hval hW hz hL
theorem said : Rows.ConsoleShowsSaid :=
  OpenClaim.holds_of_cond 3 Tryz.f3 rfl rfl rfl rfl rfl rfl rfl ⟨rfl, rfl, rfl, rfl, rfl⟩ rfl rfl rfl rfl rfl law_named Tryz.func3 closed_ok x1 x2
    (fun os started H enc _ F => by rw [OpenClaim.pre_eq_preRow]; exact lifted itoa_ok os started H enc F)
end
end Go.AM.S40.Sy
