import Derived.KernelRfl
import Derived.Test.YtejhioblmaaokaaGreatDoorRows
import Derived.JoinedOf
import Derived.Test.YtejhioblmaaokaaGreatDoorAm3
set_option linter.all false
/- Closed facts of the program. -/
set_option maxRecDepth 100000
namespace Go.AM.S40
open Go Go.Proofs
open Go.Proofs.YtejhioblmaaokaaGreatDoor
theorem j00 : (Rows.consoleShowsRow.wf (OpenSpec.ofChange (OpenSpec.ofChange Rows.consoleShowsSpec).bare)) = true := by kernel_rfl
theorem j03 : (Tryz.f3.params.all (Tryz.prog.readableRec ·)) = true := by kernel_rfl
theorem j04 : (namedTie Tryz.prog Rows.consoleShowsRow.named (OpenSpec.ofChange Rows.consoleShowsSpec).bare.vars) = true := by kernel_rfl
theorem j05 : ((Rows.consoleShowsRow.stops == [])) = true := by kernel_rfl
theorem j06 : ((Tryz.prog.stops == [])) = true := by kernel_rfl
theorem j07 : ((Rows.consoleShowsRow.knobs == [])) = true := by kernel_rfl
theorem j08 : ((Tryz.prog.stopKnobs == [])) = true := by kernel_rfl
theorem j13 : ((Rows.consoleShowsRow.maps == (Tryz.f3.params.toList ++ (OpenSpec.ofChange Rows.consoleShowsSpec).bare.plain.varTypes Tryz.prog).any (Tryz.prog.mapsRec ·))) = true := by kernel_rfl
theorem j14 : ((Rows.consoleShowsRow.ifaces == (Tryz.f3.params.toList ++ (OpenSpec.ofChange Rows.consoleShowsSpec).bare.plain.varTypes Tryz.prog).any (Tryz.prog.ifacesRec ·))) = true := by kernel_rfl
theorem j15 : ((Rows.consoleShowsRow.mapsOut == Tryz.prog.mapsAmong Tryz.f3.resultTypes.toList)) = true := by kernel_rfl
theorem j16 : ((Rows.consoleShowsRow.loops == (Tryz.f3.params.toList ++ (OpenSpec.ofChange Rows.consoleShowsSpec).bare.plain.varTypes Tryz.prog).any (Tryz.prog.loopsFrom ·))) = true := by kernel_rfl
theorem j17 : ((Rows.consoleShowsRow.wideKeys == (Tryz.f3.params.toList ++ (OpenSpec.ofChange Rows.consoleShowsSpec).bare.plain.varTypes Tryz.prog ++ Tryz.f3.resultTypes.toList).any (Tryz.prog.wideKeysFrom ·))) = true := by kernel_rfl
theorem j18 : ((OpenSpec.ofChange Rows.consoleShowsSpec).bare.vars.all (Tryz.prog.varReadable ·)) = true := by kernel_rfl
theorem j19 : (Tryz.f3.resultTypes.all (fun t => Tryz.prog.readableRec t && decide (t < Tryz.prog.types.size))) = true := by kernel_rfl
theorem j20 : ((Rows.consoleShowsRow.ifacesOut == Tryz.f3.resultTypes.toList.any (Tryz.prog.ifacesRec ·))) = true := by kernel_rfl
theorem j21 : ((Rows.consoleShowsRow.loopsOut == Tryz.f3.resultTypes.toList.any (Tryz.prog.loopsFrom ·))) = true := by kernel_rfl
theorem j23 : (Rows.consoleShowsRow.shortTexts.isNone) = true := by kernel_rfl
theorem j26 : ((Rows.consoleShowsRow.lifted == Tryz.prog.liftsFinal)) = true := by kernel_rfl
theorem j27 : ((Tryz.prog.make == some Rows.consoleShowsRow.make)) = true := by kernel_rfl
theorem j28 : ((Rows.consoleShowsRow.kinds == (if Rows.consoleShowsRow.domain.isEmpty then [] else Tryz.f3.params.toList.map fun t => match Tryz.prog.underlying t with | some (.int k) => some k | _ => none))) = true := by kernel_rfl
theorem j29 : ((Rows.consoleShowsRow.pinned == Rows.consoleShowsRow.pinnedBy)) = true := by kernel_rfl
theorem j30 : ((Rows.consoleShowsRow.veiled == (Tryz.f3.params.toList ++ (OpenSpec.ofChange Rows.consoleShowsSpec).bare.plain.varTypes Tryz.prog ++ Tryz.f3.resultTypes.toList).any (Tryz.prog.veiledRec ·))) = true := by kernel_rfl
theorem j31 : (Rows.consoleShowsRow.veiledFits Tryz.prog Tryz.f3.params.toList (Tryz.f3.params.toList ++ (OpenSpec.ofChange Rows.consoleShowsSpec).bare.plain.varTypes Tryz.prog ++ Tryz.f3.resultTypes.toList)) = true := by kernel_rfl
theorem x1 : Tryz.f3.isInstance Tryz.prog Rows.consoleShowsRow.origin Rows.consoleShowsRow.targs := of_decide_eq_true (by kernel_rfl)
theorem x2 : Tryz.f3.isWrapper Tryz.prog Rows.consoleShowsRow.wrapper Rows.consoleShowsRow.mainSum := by unfold Func.isWrapper; first | (rw [if_pos (by decide +kernel)]; kernel_rfl) | (rw [if_neg (by decide +kernel)]; exact ⟨rfl, rfl⟩)
end Go.AM.S40
