import Derived.KernelRfl
import Derived.Test.YtkkbeakephmkdaaGreatDoorRows
import Derived.LaidByTextLater
import Derived.SevenTiedAt
import Derived.LaidSub
import Derived.LaidOnce
import Derived.Test.YtkkbeakephmkdaaGreatDoorE15F1
import Derived.Test.YtkkbeakephmkdaaGreatDoorAm3
set_option linter.all false
section
set_option maxRecDepth 100000
namespace Go.AM.E15
open Go Go.Proofs
open Go.Proofs.YtkkbeakephmkdaaGreatDoor
theorem t1 : Tryz.prog.worded (varsWordLater true) = true := by rw [worded_gen nbs_is]; kernel_rfl
theorem t2 : Tryz.prog.worded (varsWordLater !true) = false := by rw [worded_gen nbs_is]; kernel_rfl
theorem t3 : Tryz.prog.worded rootWordLater = true := by rw [worded_gen nbs_is]; kernel_rfl
noncomputable def doorB : List (List UInt8) := [[103, 111, 115, 101, 109, 46, 99, 117, 116, 46, 118, 97, 114, 115, 32, 104, 111, 108, 100, 115, 32, 105, 110, 105, 116, 105, 97, 108, 105, 115, 101, 114, 115, 32, 97, 108, 111, 110, 101, 59, 32, 115, 101, 101, 32, 116, 104, 101, 32, 109, 97, 110, 105, 102, 101, 115, 116, 39, 115, 32, 114, 111, 119, 32, 99, 117, 116, 118, 97, 114, 115, 119, 111, 114, 100, 32, 40, 108, 111, 111, 107, 32, 49, 49, 44, 32, 116, 101, 115, 116, 32, 102, 105, 108, 101, 115, 32, 116, 111, 111, 41], [105, 110, 116, 101, 114, 110, 97, 108, 47, 115, 116, 114, 99, 111, 110, 118, 46, 117, 105, 110, 116, 54, 52, 112, 111, 119, 49, 48, 32, 105, 115, 32, 108, 97, 105, 100, 32, 98, 121, 32, 105, 116, 115, 32, 111, 119, 110, 32, 105, 110, 105, 116, 105, 97, 108, 105, 115, 101, 114, 44, 32, 112, 108, 97, 105, 110, 32, 100, 97, 116, 97, 32, 40, 108, 111, 111, 107, 32, 49, 49, 41], [109, 97, 116, 104, 47, 98, 105, 116, 115, 46, 100, 101, 66, 114, 117, 105, 106, 110, 51, 50, 116, 97, 98, 32, 105, 115, 32, 108, 97, 105, 100, 32, 98, 121, 32, 105, 116, 115, 32, 111, 119, 110, 32, 105, 110, 105, 116, 105, 97, 108, 105, 115, 101, 114, 44, 32, 112, 108, 97, 105, 110, 32, 100, 97, 116, 97, 32, 40, 108, 111, 111, 107, 32, 49, 49, 41], [109, 97, 116, 104, 47, 98, 105, 116, 115, 46, 100, 101, 66, 114, 117, 105, 106, 110, 54, 52, 116, 97, 98, 32, 105, 115, 32, 108, 97, 105, 100, 32, 98, 121, 32, 105, 116, 115, 32, 111, 119, 110, 32, 105, 110, 105, 116, 105, 97, 108, 105, 115, 101, 114, 44, 32, 112, 108, 97, 105, 110, 32, 100, 97, 116, 97, 32, 40, 108, 111, 111, 107, 32, 49, 49, 41], [115, 116, 114, 99, 111, 110, 118, 46, 69, 114, 114, 82, 97, 110, 103, 101, 32, 105, 115, 32, 108, 97, 105, 100, 32, 98, 121, 32, 105, 116, 115, 32, 111, 119, 110, 32, 99, 97, 108, 108, 32, 111, 102, 32, 101, 114, 114, 111, 114, 115, 46, 78, 101, 119, 32, 111, 110, 32, 111, 110, 101, 32, 108, 105, 116, 101, 114, 97, 108, 32, 40, 108, 111, 111, 107, 32, 49, 49, 41], [115, 116, 114, 99, 111, 110, 118, 46, 69, 114, 114, 83, 121, 110, 116, 97, 120, 32, 105, 115, 32, 108, 97, 105, 100, 32, 98, 121, 32, 105, 116, 115, 32, 111, 119, 110, 32, 99, 97, 108, 108, 32, 111, 102, 32, 101, 114, 114, 111, 114, 115, 46, 78, 101, 119, 32, 111, 110, 32, 111, 110, 101, 32, 108, 105, 116, 101, 114, 97, 108, 32, 40, 108, 111, 111, 107, 32, 49, 49, 41], [116, 104, 101, 32, 108, 111, 111, 107, 32, 111, 102, 32, 103, 111, 115, 101, 109, 46, 99, 117, 116, 46, 118, 97, 114, 115, 32, 119, 101, 110, 116, 32, 111, 118, 101, 114, 32, 116, 104, 101, 32, 102, 111, 108, 100, 101, 114, 32, 116, 104, 97, 116, 32, 116, 104, 101, 32, 99, 97, 108, 108, 101, 114, 32, 110, 97, 109, 101, 100, 32, 97, 115, 32, 116, 104, 101, 32, 114, 101, 112, 111, 115, 105, 116, 111, 114, 121, 39, 115, 32, 114, 111, 111, 116, 32, 40, 108, 111, 111, 107, 32, 49, 49, 41]]
theorem doorB_is : Tryz.prog.doorBytes = doorB := by rw [door_bytes_gen nbs_is]; kernel_rfl
theorem kb0 : Tryz.prog.kindBase "math/bits.deBruijn32tab" = some .data := by
  unfold Program.kindBase
  simp only [tails_gen doorB_is]
  kernel_rfl
theorem kb1 : Tryz.prog.kindBase "math/bits.deBruijn64tab" = some .data := by
  unfold Program.kindBase
  simp only [tails_gen doorB_is]
  kernel_rfl
theorem kb2 : Tryz.prog.kindBase "internal/strconv.uint64pow10" = some .data := by
  unfold Program.kindBase
  simp only [tails_gen doorB_is]
  kernel_rfl
theorem kb3 : Tryz.prog.kindBase "strconv.ErrRange" = some .sentinel := by
  unfold Program.kindBase
  simp only [tails_gen doorB_is]
  kernel_rfl
theorem kb4 : Tryz.prog.kindBase "strconv.ErrSyntax" = some .sentinel := by
  unfold Program.kindBase
  simp only [tails_gen doorB_is]
  kernel_rfl
theorem t4 : ([("math/bits.deBruijn32tab", Rows.laid_math_bits_deBruijn32tab), ("math/bits.deBruijn64tab", Rows.laid_math_bits_deBruijn64tab), ("internal/strconv.uint64pow10", Rows.laid_internal_strconv_uint64pow10), ("strconv.ErrRange", Rows.laid_strconv_ErrRange), ("strconv.ErrSyntax", Rows.laid_strconv_ErrSyntax)] : List (String × DataW Unit)).map (fun x => Tryz.prog.kindOfLater x.1) = ([.data, .data, .data, .sentinel, .sentinel] : List LaidKind).map some := by
  simp only [List.map_cons, List.map_nil, later_gen kb0 rfl, later_gen kb1 rfl, later_gen kb2 rfl, later_gen kb3 rfl, later_gen kb4 rfl]
theorem t9 : Tryz.prog.headLifts.contains "ownunsafe" = false := by kernel_rfl
theorem ta : Tryz.prog.mainIs = some (true, "39fb01926d05cb558b4a668a3438a5c8885c7a83bded959936ca464e1df9e7e3".toList) := by kernel_rfl
theorem tb : Rows.evalLargeRow.wfByText (OpenSpec.ofChange Rows.evalLargeSpec) = true := by kernel_rfl
noncomputable def codeT : Code := match Tryz.f678.body with | some c => c | none => .skip
noncomputable def storedT : List Nat := (codeT.laysInOrder []).getD []
theorem body_t : (Tryz.prog.funcs[678]?).bind (·.body) = some codeT := by kernel_rfl
theorem lays_t : codeT.laysInOrder [] = some storedT := by kernel_rfl
theorem dups_t : (storedT.eraseDups.length == storedT.length) = true := by kernel_rfl
theorem followed_t : codeT.unfollowedBeside Tryz.prog = false := by kernel_rfl
theorem temps_t : (codeT.tempsApart 0).isSome = true := by kernel_rfl
theorem handle_t : codeT.storedByHandle Tryz.prog = [] := by kernel_rfl
theorem list_t : (([("math/bits.deBruijn32tab", Rows.laid_math_bits_deBruijn32tab), ("math/bits.deBruijn64tab", Rows.laid_math_bits_deBruijn64tab), ("internal/strconv.uint64pow10", Rows.laid_internal_strconv_uint64pow10), ("strconv.ErrRange", Rows.laid_strconv_ErrRange), ("strconv.ErrSyntax", Rows.laid_strconv_ErrSyntax)] : List (String × DataW Unit)).all fun x => (Tryz.prog.globalNamed x.1).any fun v => (storedT.contains v == (Tryz.prog.kindBase x.1 != some .zero)) && callsFit codeT v (Tryz.prog.kindBase x.1) &&
      ((codeT.storedByHandle Tryz.prog).contains v == (Tryz.prog.kindBase x.1 == some .handle)) && (x.2.handleName?.isSome == (Tryz.prog.kindBase x.1 == some .handle || Tryz.prog.kindBase x.1 == some .funcs)) &&
      (Tryz.prog.kindBase x.1 != some .handle || handlePair x) && (x.2.funcsIn?.isSome == (Tryz.prog.kindBase x.1 == some .funcs)) && mapsFit codeT v x.2 (Tryz.prog.kindBase x.1)) = true := by
  simp only [List.all_cons, List.all_nil, kb0, kb1, kb2, kb3, kb4, handle_t]
  kernel_rfl
theorem funcs_fit : Tryz.prog.funcsFit Rows.evalLargeRow.laid = true := by kernel_rfl
theorem wants_no : ∀ (j : Nat) t, Tryz.f3.params[j]? = some t → Tryz.prog.wantsStandIn t = false := by
  intro j t ht
  have hall : (Tryz.f3.params.toList.all fun u => !Tryz.prog.wantsStandIn u) = true := by kernel_rfl
  have hm : t ∈ Tryz.f3.params.toList := Array.mem_toList_iff.2 (Array.mem_of_getElem? ht)
  simpa using List.all_eq_true.1 hall t hm
end Go.AM.E15
end
section
set_option maxRecDepth 100000
namespace Go.AM.E15
open Go Go.Proofs
open Go.Proofs.YtkkbeakephmkdaaGreatDoor
theorem fit_t : codeT.regionsFit Tryz.prog [] = true := by kernel_rfl
end Go.AM.E15
end
