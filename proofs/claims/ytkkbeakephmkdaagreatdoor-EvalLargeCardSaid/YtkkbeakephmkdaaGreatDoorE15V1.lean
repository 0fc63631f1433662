import Derived.Test.YtkkbeakephmkdaaGreatDoorE15V0
import Derived.Test.YtkkbeakephmkdaaGreatDoorAm3
set_option linter.all false
set_option maxRecDepth 100000
namespace Go.AM.E15
open Go Go.Proofs Go.ChangeShapes Go.RowKit
open Go.Proofs.YtkkbeakephmkdaaGreatDoor
noncomputable section
theorem data_w (os : Os) : (DataW.laidRun Tryz.prog ((laidWorld os).forCall (fun _ _ => 0) ⟨#[], wArgs, []⟩).memory 8 (Rows.evalLargeRow.laid.map (·.1))).map (·.1) = some Rows.evalLargeRow.laid := by kernel_rfl
theorem apart_w (os : Os) : ((DataW.laidRun Tryz.prog ((laidWorld os).forCall (fun _ _ => 0) ⟨#[], wArgs, []⟩).memory 8 (Rows.evalLargeRow.laid.map (·.1))).any fun x => nodupBits 257 x.2 0) = true := by kernel_rfl
theorem rows_w (os : Os) : ((DataW.laidRun Tryz.prog ((laidWorld os).forCall (fun _ _ => 0) ⟨#[], wArgs, []⟩).memory 8 (Rows.evalLargeRow.laid.map (·.1))).any fun x => laidRowsB Tryz.prog ((laidWorld os).forCall (fun _ _ => 0) ⟨#[], wArgs, []⟩).memory x.2) = true := by kernel_rfl
theorem laid_met (os : Os) : laidMet Tryz.prog Rows.evalLargeRow.laid ((laidWorld os).forCall (fun _ _ => 0) ⟨#[], wArgs, []⟩).memory := laid_of_parts 8 257 (data_w os) (apart_w os) (rows_w os)
end
end Go.AM.E15
