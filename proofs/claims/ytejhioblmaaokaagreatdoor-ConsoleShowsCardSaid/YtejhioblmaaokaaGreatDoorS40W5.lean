import Derived.Test.YtejhioblmaaokaaGreatDoorS40W1
import Derived.Test.YtejhioblmaaokaaGreatDoorS40W2
import Derived.Test.YtejhioblmaaokaaGreatDoorS40W3
import Derived.Test.YtejhioblmaaokaaGreatDoorS40W4
set_option linter.all false
/- ConsoleShows: a world that fits. -/
set_option maxRecDepth 100000
namespace Go.AM.S40.Sy
open Go Go.Proofs Go.ChangeShapes Go.RowKit
open Go.Proofs.YtejhioblmaaokaaGreatDoor
noncomputable section
theorem laid_metH (os : Os) : laidMetH Tryz.prog Rows.consoleShowsRow.laid ((laidWorld os).forCall (fun _ _ => 0) ⟨#[], wArgs, []⟩).memory := by
  unfold laidMetH
  rw [noHandles]
  exact laid_met os
theorem wit (os : Os) {H : Type} (enc : TypeId × Value → H) : ∃ (w : World) (tape : Tape) (i : Input), w.os = os ∧ (w.forCall tape i).Shaped Tryz.checked.prog ∧ i.vars = [] ∧ Input.okWide Tryz.checked.prog (w.forCall tape i) .any w.heap.size 3 i ∧
      (OpenSpec.ofChange Rows.consoleShowsSpec).preRow enc Tryz.checked.prog Tryz.f3 Rows.consoleShowsRow.domain false Rows.consoleShowsRow.laid (w.forCall tape i).memory i.args ∧ ({ modest := false } : Assume).holds Tryz.checked.prog (lone (Frame.enter Tryz.checked.prog 3 i.args .normal) [] (w.forCall tape i)) := by
  obtain ⟨places, hx⟩ := reads os enc
  exact witness_row_atRef (enc := enc) (C := Tryz.checked) false (laidWorld os) wArgs rfl (wv os) (wr os) (wo os)
      (OpenSpec.preRow_of_cond 8 hx (by kernel_rfl) (fun k hk => by cases hk) (by kernel_rfl) (laid_metH os))
end
end Go.AM.S40.Sy
