import Derived.Test.YtejhioblmaaokaaGreatDoorS40Row
import Derived.Test.YtejhioblmaaokaaGreatDoorAm3
set_option linter.all false
/- ConsoleShows: a world that fits. -/
set_option maxRecDepth 100000
namespace Go.AM.S40.Sy
open Go Go.Proofs Go.ChangeShapes Go.RowKit
open Go.Proofs.YtejhioblmaaokaaGreatDoor
noncomputable section
theorem data_w (os : Os) : (DataW.laidRun Tryz.prog ((laidWorld os).forCall (fun _ _ => 0) ⟨#[], wArgs, []⟩).memory 8 (Rows.consoleShowsRow.laid.map (·.1))).map (·.1) = some Rows.consoleShowsRow.laid := by kernel_rfl
theorem apart_w (os : Os) : ((DataW.laidRun Tryz.prog ((laidWorld os).forCall (fun _ _ => 0) ⟨#[], wArgs, []⟩).memory 8 (Rows.consoleShowsRow.laid.map (·.1))).any fun x => nodupBits 257 x.2 0) = true := by kernel_rfl
theorem rows_wa (os : Os) : ((DataW.laidRun Tryz.prog ((laidWorld os).forCall (fun _ _ => 0) ⟨#[], wArgs, []⟩).memory 8 ["math/bits.deBruijn32tab", "math/bits.deBruijn64tab", "internal/strconv.uint64pow10", "unicode/utf8.acceptRanges", "strconv.ErrRange", "strconv.ErrSyntax", "unicode.White_Space", "bytes.ErrTooLarge"]).any fun x => laidRowsB Tryz.prog ((laidWorld os).forCall (fun _ _ => 0) ⟨#[], wArgs, []⟩).memory x.2) = true := by kernel_rfl
theorem rows_wb (os : Os) : ((DataW.laidRun Tryz.prog ((laidWorld os).forCall (fun _ _ => 0) ⟨#[], wArgs, []⟩).memory 8 ["strings.asciiSpace"]).any fun x => laidRowsB Tryz.prog ((laidWorld os).forCall (fun _ _ => 0) ⟨#[], wArgs, []⟩).memory x.2) = true := by kernel_rfl
theorem rows_wc (os : Os) : ((DataW.laidRun Tryz.prog ((laidWorld os).forCall (fun _ _ => 0) ⟨#[], wArgs, []⟩).memory 8 ["unicode/utf8.first"]).any fun x => laidRowsB Tryz.prog ((laidWorld os).forCall (fun _ _ => 0) ⟨#[], wArgs, []⟩).memory x.2) = true := by kernel_rfl
theorem rows_w (os : Os) : ((DataW.laidRun Tryz.prog ((laidWorld os).forCall (fun _ _ => 0) ⟨#[], wArgs, []⟩).memory 8 (Rows.consoleShowsRow.laid.map (·.1))).any fun x => laidRowsB Tryz.prog ((laidWorld os).forCall (fun _ _ => 0) ⟨#[], wArgs, []⟩).memory x.2) = true := rows_app (rows_app (rows_wc os) ["strings.asciiSpace"] (rows_wb os)) ["math/bits.deBruijn32tab", "math/bits.deBruijn64tab", "internal/strconv.uint64pow10", "unicode/utf8.acceptRanges", "strconv.ErrRange", "strconv.ErrSyntax", "unicode.White_Space", "bytes.ErrTooLarge"] (rows_wa os)
theorem laid_met (os : Os) : laidMet Tryz.prog Rows.consoleShowsRow.laid ((laidWorld os).forCall (fun _ _ => 0) ⟨#[], wArgs, []⟩).memory := laid_of_parts 8 257 (data_w os) (apart_w os) (rows_w os)
end
end Go.AM.S40.Sy
