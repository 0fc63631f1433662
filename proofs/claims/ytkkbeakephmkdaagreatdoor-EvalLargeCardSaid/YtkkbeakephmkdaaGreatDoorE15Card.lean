/- EvalLarge: the cardinality of the set of all subsets of an interval is the power of two; of all functions, tuples and records the power or the product, for every input within the bounds. -/
import Derived.Test.YtkkbeakephmkdaaGreatDoorCards
import Derived.Test.YtkkbeakephmkdaaGreatDoorE15V1
import Derived.Test.YtkkbeakephmkdaaGreatDoorE15V2
import Derived.Test.YtkkbeakephmkdaaGreatDoorE15V0
import Derived.Test.YtkkbeakephmkdaaGreatDoorE15F5
import Derived.Test.YtkkbeakephmkdaaGreatDoorE15T3
set_option linter.all false
section
set_option maxRecDepth 100000
namespace Go.AM.E15
open Go Go.Proofs Go.ChangeShapes Go.RowKit
open Go.Proofs.YtkkbeakephmkdaaGreatDoor
noncomputable section
theorem laid_metH (os : Os) : laidMetH Tryz.prog Rows.evalLargeRow.laid ((laidWorld os).forCall (fun _ _ => 0) ⟨#[], wArgs, []⟩).memory := by
  unfold laidMetH
  rw [noHandles]
  exact laid_met os
theorem wit (os : Os) {H : Type} (enc : TypeId × Value → H) : ∃ (w : World) (tape : Tape) (i : Input), w.os = os ∧ (w.forCall tape i).Shaped Tryz.checked.prog ∧ i.vars = [] ∧ Input.okWide Tryz.checked.prog (w.forCall tape i) .any w.heap.size 3 i ∧
      (OpenSpec.ofChange Rows.evalLargeSpec).preRow enc Tryz.checked.prog Tryz.f3 Rows.evalLargeRow.domain false Rows.evalLargeRow.laid (w.forCall tape i).memory i.args ∧ ({ modest := false } : Assume).holds Tryz.checked.prog (lone (Frame.enter Tryz.checked.prog 3 i.args .normal) [] (w.forCall tape i)) := by
  obtain ⟨places, hx⟩ := reads os enc
  exact witness_row_atRef (enc := enc) (C := Tryz.checked) false (laidWorld os) wArgs rfl (wvars os) (wr os) (wo os)
      (OpenSpec.preRow_of_cond 8 hx (by kernel_rfl) (fun k hk => by cases hk) (by kernel_rfl) (laid_metH os))
end
end Go.AM.E15
end
section
set_option maxRecDepth 100000
namespace Go.AM.E15
open Go Go.Proofs Go.ChangeShapes Go.RowKit
open Go.Proofs.YtkkbeakephmkdaaGreatDoor
noncomputable section
theorem no_init : Tryz.checked.prog.inits.idxOf? 3 = none := by kernel_rfl
theorem lifted (os : Os) (started : os.Started) (H : Type) (enc : TypeId × Value → H) (F : Stop.Interp) :
    ReturnsInHanded {} Tryz.checked os 3 .any ((OpenSpec.ofChange Rows.evalLargeSpec).preRow enc Tryz.prog Tryz.f3 Rows.evalLargeRow.domain false Rows.evalLargeRow.laid) (((OpenSpec.ofChange Rows.evalLargeSpec).at F).post enc Tryz.prog Tryz.f3 false true false false) := by
  refine returnsInHanded_of_row (C := Tryz.checked) (s := OpenSpec.ofChange Rows.evalLargeSpec) own started no_init Tryz.func3 (wit os enc) ?_
  intro W base args ds gs before hval hW _ _ hz hL _ _
  exact contract_of H enc W base args ds gs before hval hW hL
theorem said : Rows.EvalLargeSaid :=
  OpenClaim.holds_of_cond 3 Tryz.f3 rfl rfl rfl rfl rfl rfl rfl ⟨rfl, rfl, rfl, rfl, rfl⟩ rfl rfl rfl rfl rfl law_named Tryz.func3 closed_ok x1 x2
    (fun os started H enc _ F => by rw [OpenClaim.pre_eq_preRow]; exact lifted os started H enc F)
end
end Go.AM.E15
end
section
namespace Go.Proofs.YtkkbeakephmkdaaGreatDoor
open Go
theorem card_holds : Rows.EvalLargeCardSaid := Go.AM.E15.card_of Go.AM.E15.said
#print axioms card_holds
end Go.Proofs.YtkkbeakephmkdaaGreatDoor
end
