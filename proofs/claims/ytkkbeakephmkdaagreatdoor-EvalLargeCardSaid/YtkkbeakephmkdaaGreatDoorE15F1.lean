import Derived.KernelRfl
import Derived.Test.YtkkbeakephmkdaaGreatDoorRows
import Derived.Test.YtkkbeakephmkdaaGreatDoorAm3
set_option linter.all false
section
set_option maxRecDepth 100000
namespace Go.AM.E15
open Go Go.Proofs
open Go.Proofs.YtkkbeakephmkdaaGreatDoor
theorem tsize : Tryz.prog.types.size = 562 := by kernel_rfl
theorem fsize : Tryz.prog.funcs.size = 679 := by kernel_rfl
theorem types_a : allN (fType Tryz.prog) 281 0 = true := by kernel_rfl
end Go.AM.E15
end
section
set_option maxRecDepth 100000
namespace Go.AM.E15
open Go Go.Proofs
open Go.Proofs.YtkkbeakephmkdaaGreatDoor
theorem types_b : allN (fType Tryz.prog) 140 281 = true := by kernel_rfl
theorem types_c : allN (fType Tryz.prog) 141 421 = true := by kernel_rfl
theorem globs_fit : (Tryz.prog.globals.toList.all fun g => decide (g.type < 562)) = true := by kernel_rfl
end Go.AM.E15
end
section
set_option maxRecDepth 100000
namespace Go.AM.E15
open Go Go.Proofs
open Go.Proofs.YtkkbeakephmkdaaGreatDoor
theorem no_list : Tryz.prog.funcs.toList.all gNone = true := by kernel_rfl
theorem stops_list : Tryz.prog.funcs.toList.all gStop = true := by kernel_rfl
theorem pars_list : (Tryz.prog.funcs.toList.all fun f => f.params.toList.all fun t => decide (t < 562)) = true := by kernel_rfl
noncomputable def nbs : List String := ["main.main", "gosem.cut", "internal/bytealg.abigen_runtime_cmpstring", "internal/abi.NoEscape", "internal/bytealg.MakeNoZero", "(runtime.boundsError).Error", "(runtime.boundsError).RuntimeError", "(runtime.errorString).Error", "(runtime.errorString).RuntimeError", "(runtime.plainError).Error", "(runtime.plainError).RuntimeError", "(runtime.errorAddressString).Error", "(runtime.errorAddressString).RuntimeError", "(*runtime.TypeAssertionError).Error", "(*runtime.TypeAssertionError).RuntimeError", "(*runtime.PanicNilError).Error", "(*runtime.PanicNilError).RuntimeError", "(*internal/abi.Type).Align", "(*internal/abi.Type).Len", "(internal/runtime/maps.unhashableTypeError).Error", "(internal/runtime/maps.unhashableTypeError).RuntimeError", "(*foregone/eval.Run).Forget", "slices.overlaps[foregone/api.Int]", "(*strings.Builder).Reset", "(internal/strconv.Error).Error", "(*strconv.NumError).Error", "(*errors.errorString).Error", "(internal/abi.Kind).String", "var's door: gosem.cut.vars holds initialisers alone; see the manifest's row cutvarsword (look 11, test files too)", "var's door: internal/strconv.uint64pow10 is laid by its own initialiser, plain data (look 11)", "var's door: math/bits.deBruijn32tab is laid by its own initialiser, plain data (look 11)", "var's door: math/bits.deBruijn64tab is laid by its own initialiser, plain data (look 11)", "var's door: strconv.ErrRange is laid by its own call of errors.New on one literal (look 11)", "var's door: strconv.ErrSyntax is laid by its own call of errors.New on one literal (look 11)", "var's door: the look of gosem.cut.vars went over the folder that the caller named as the repository's root (look 11)"]
theorem nbs_is : Tryz.prog.funcs.toList.filterMap noBody = nbs := by kernel_rfl
theorem law_at : onlyAt (fun fn => fn.name == "foregone/foregonelaw15.EvalLarge") 3 Tryz.prog.funcs.toList 0 = true := by kernel_rfl
theorem cutvars_at : onlyAt (fun fn => fn.name == "gosem.cut.vars") 678 Tryz.prog.funcs.toList 0 = true := by kernel_rfl
end Go.AM.E15
end
