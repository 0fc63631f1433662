import Derived.KernelRfl
import Derived.Test.YtejhioblmaaokaaGreatDoorRows
import Derived.LaidByTextLater
import Derived.SevenTiedAt
import Derived.LaidSub
import Derived.LaidOnce
import Derived.Test.YtejhioblmaaokaaGreatDoorS40F1
import Derived.Test.YtejhioblmaaokaaGreatDoorS40F3
import Derived.Test.YtejhioblmaaokaaGreatDoorAm3
set_option linter.all false
/- The tie: facts. -/
set_option maxRecDepth 100000
namespace Go.AM.S40
open Go Go.Proofs
open Go.Proofs.YtejhioblmaaokaaGreatDoor
theorem t1 : Tryz.prog.worded (varsWordLater true) = true := by rw [worded_gen nbs_is]; kernel_rfl
theorem t2 : Tryz.prog.worded (varsWordLater !true) = false := by rw [worded_gen nbs_is]; kernel_rfl
theorem t3 : Tryz.prog.worded rootWordLater = true := by rw [worded_gen nbs_is]; kernel_rfl
noncomputable def doorB : List (List UInt8) := [[117, 110, 105, 99, 111, 100, 101, 46, 87, 104, 105, 116, 101, 95, 83, 112, 97, 99, 101, 32, 104, 111, 108, 100, 115, 32, 119, 104, 97, 116, 32, 105, 116, 115, 32, 105, 110, 105, 116, 105, 97, 108, 105, 115, 101, 114, 32, 108, 97, 121, 115, 44, 32, 97, 110, 100, 32, 110, 111, 116, 104, 105, 110, 103, 32, 105, 110, 32, 116, 104, 101, 32, 108, 111, 97, 100, 101, 100, 32, 116, 101, 120, 116, 32, 119, 114, 105, 116, 101, 115, 32, 105, 116, 32, 111, 114, 32, 119, 104, 97, 116, 32, 105, 116, 32, 108, 101, 97, 100, 115, 32, 116, 111, 32, 40, 108, 111, 111, 107, 32, 49, 49, 45, 101, 108, 100, 101, 114, 41], [117, 110, 105, 99, 111, 100, 101, 46, 95, 87, 104, 105, 116, 101, 95, 83, 112, 97, 99, 101, 32, 104, 111, 108, 100, 115, 32, 119, 104, 97, 116, 32, 105, 116, 115, 32, 105, 110, 105, 116, 105, 97, 108, 105, 115, 101, 114, 32, 108, 97, 121, 115, 44, 32, 97, 110, 100, 32, 110, 111, 116, 104, 105, 110, 103, 32, 105, 110, 32, 116, 104, 101, 32, 108, 111, 97, 100, 101, 100, 32, 116, 101, 120, 116, 32, 119, 114, 105, 116, 101, 115, 32, 105, 116, 32, 111, 114, 32, 119, 104, 97, 116, 32, 105, 116, 32, 108, 101, 97, 100, 115, 32, 116, 111, 32, 40, 108, 111, 111, 107, 32, 49, 49, 45, 101, 108, 100, 101, 114, 41], [98, 121, 116, 101, 115, 46, 69, 114, 114, 84, 111, 111, 76, 97, 114, 103, 101, 32, 105, 115, 32, 108, 97, 105, 100, 32, 98, 121, 32, 105, 116, 115, 32, 111, 119, 110, 32, 99, 97, 108, 108, 32, 111, 102, 32, 101, 114, 114, 111, 114, 115, 46, 78, 101, 119, 32, 111, 110, 32, 111, 110, 101, 32, 108, 105, 116, 101, 114, 97, 108, 32, 40, 108, 111, 111, 107, 32, 49, 49, 41], [103, 111, 115, 101, 109, 46, 99, 117, 116, 46, 118, 97, 114, 115, 32, 104, 111, 108, 100, 115, 32, 105, 110, 105, 116, 105, 97, 108, 105, 115, 101, 114, 115, 32, 97, 108, 111, 110, 101, 59, 32, 115, 101, 101, 32, 116, 104, 101, 32, 109, 97, 110, 105, 102, 101, 115, 116, 39, 115, 32, 114, 111, 119, 32, 99, 117, 116, 118, 97, 114, 115, 119, 111, 114, 100, 32, 40, 108, 111, 111, 107, 32, 49, 49, 44, 32, 116, 101, 115, 116, 32, 102, 105, 108, 101, 115, 32, 116, 111, 111, 41], [105, 110, 116, 101, 114, 110, 97, 108, 47, 115, 116, 114, 99, 111, 110, 118, 46, 117, 105, 110, 116, 54, 52, 112, 111, 119, 49, 48, 32, 105, 115, 32, 108, 97, 105, 100, 32, 98, 121, 32, 105, 116, 115, 32, 111, 119, 110, 32, 105, 110, 105, 116, 105, 97, 108, 105, 115, 101, 114, 44, 32, 112, 108, 97, 105, 110, 32, 100, 97, 116, 97, 32, 40, 108, 111, 111, 107, 32, 49, 49, 41], [109, 97, 116, 104, 47, 98, 105, 116, 115, 46, 100, 101, 66, 114, 117, 105, 106, 110, 51, 50, 116, 97, 98, 32, 105, 115, 32, 108, 97, 105, 100, 32, 98, 121, 32, 105, 116, 115, 32, 111, 119, 110, 32, 105, 110, 105, 116, 105, 97, 108, 105, 115, 101, 114, 44, 32, 112, 108, 97, 105, 110, 32, 100, 97, 116, 97, 32, 40, 108, 111, 111, 107, 32, 49, 49, 41], [109, 97, 116, 104, 47, 98, 105, 116, 115, 46, 100, 101, 66, 114, 117, 105, 106, 110, 54, 52, 116, 97, 98, 32, 105, 115, 32, 108, 97, 105, 100, 32, 98, 121, 32, 105, 116, 115, 32, 111, 119, 110, 32, 105, 110, 105, 116, 105, 97, 108, 105, 115, 101, 114, 44, 32, 112, 108, 97, 105, 110, 32, 100, 97, 116, 97, 32, 40, 108, 111, 111, 107, 32, 49, 49, 41], [115, 116, 114, 99, 111, 110, 118, 46, 69, 114, 114, 82, 97, 110, 103, 101, 32, 105, 115, 32, 108, 97, 105, 100, 32, 98, 121, 32, 105, 116, 115, 32, 111, 119, 110, 32, 99, 97, 108, 108, 32, 111, 102, 32, 101, 114, 114, 111, 114, 115, 46, 78, 101, 119, 32, 111, 110, 32, 111, 110, 101, 32, 108, 105, 116, 101, 114, 97, 108, 32, 40, 108, 111, 111, 107, 32, 49, 49, 41], [115, 116, 114, 99, 111, 110, 118, 46, 69, 114, 114, 83, 121, 110, 116, 97, 120, 32, 105, 115, 32, 108, 97, 105, 100, 32, 98, 121, 32, 105, 116, 115, 32, 111, 119, 110, 32, 99, 97, 108, 108, 32, 111, 102, 32, 101, 114, 114, 111, 114, 115, 46, 78, 101, 119, 32, 111, 110, 32, 111, 110, 101, 32, 108, 105, 116, 101, 114, 97, 108, 32, 40, 108, 111, 111, 107, 32, 49, 49, 41], [115, 116, 114, 105, 110, 103, 115, 46, 97, 115, 99, 105, 105, 83, 112, 97, 99, 101, 32, 105, 115, 32, 108, 97, 105, 100, 32, 98, 121, 32, 105, 116, 115, 32, 111, 119, 110, 32, 105, 110, 105, 116, 105, 97, 108, 105, 115, 101, 114, 44, 32, 112, 108, 97, 105, 110, 32, 100, 97, 116, 97, 32, 40, 108, 111, 111, 107, 32, 49, 49, 41], [116, 104, 101, 32, 108, 111, 111, 107, 32, 111, 102, 32, 103, 111, 115, 101, 109, 46, 99, 117, 116, 46, 118, 97, 114, 115, 32, 119, 101, 110, 116, 32, 111, 118, 101, 114, 32, 116, 104, 101, 32, 102, 111, 108, 100, 101, 114, 32, 116, 104, 97, 116, 32, 116, 104, 101, 32, 99, 97, 108, 108, 101, 114, 32, 110, 97, 109, 101, 100, 32, 97, 115, 32, 116, 104, 101, 32, 114, 101, 112, 111, 115, 105, 116, 111, 114, 121, 39, 115, 32, 114, 111, 111, 116, 32, 40, 108, 111, 111, 107, 32, 49, 49, 41], [117, 110, 105, 99, 111, 100, 101, 46, 87, 104, 105, 116, 101, 95, 83, 112, 97, 99, 101, 32, 105, 115, 32, 108, 97, 105, 100, 32, 98, 121, 32, 105, 116, 115, 32, 111, 119, 110, 32, 105, 110, 105, 116, 105, 97, 108, 105, 115, 101, 114, 44, 32, 111, 110, 32, 116, 104, 101, 32, 108, 105, 115, 116, 32, 111, 102, 32, 71, 111, 39, 115, 32, 111, 119, 110, 32, 116, 97, 98, 108, 101, 115, 32, 40, 108, 105, 115, 116, 32, 49, 48, 41], [117, 110, 105, 99, 111, 100, 101, 46, 95, 87, 104, 105, 116, 101, 95, 83, 112, 97, 99, 101, 32, 105, 115, 32, 108, 97, 105, 100, 32, 98, 121, 32, 105, 116, 115, 32, 111, 119, 110, 32, 105, 110, 105, 116, 105, 97, 108, 105, 115, 101, 114, 44, 32, 111, 110, 32, 116, 104, 101, 32, 108, 105, 115, 116, 32, 111, 102, 32, 71, 111, 39, 115, 32, 111, 119, 110, 32, 116, 97, 98, 108, 101, 115, 32, 40, 108, 105, 115, 116, 32, 49, 48, 41], [117, 110, 105, 99, 111, 100, 101, 47, 117, 116, 102, 56, 46, 97, 99, 99, 101, 112, 116, 82, 97, 110, 103, 101, 115, 32, 105, 115, 32, 108, 97, 105, 100, 32, 98, 121, 32, 105, 116, 115, 32, 111, 119, 110, 32, 105, 110, 105, 116, 105, 97, 108, 105, 115, 101, 114, 44, 32, 112, 108, 97, 105, 110, 32, 100, 97, 116, 97, 32, 40, 108, 111, 111, 107, 32, 49, 49, 41], [117, 110, 105, 99, 111, 100, 101, 47, 117, 116, 102, 56, 46, 102, 105, 114, 115, 116, 32, 105, 115, 32, 108, 97, 105, 100, 32, 98, 121, 32, 105, 116, 115, 32, 116, 101, 120, 116, 32, 97, 108, 111, 110, 101, 32, 40, 112, 105, 110, 110, 101, 100, 32, 49, 41]]
theorem doorB_is : Tryz.prog.doorBytes = doorB := by rw [door_bytes_gen nbs_is]; kernel_rfl
theorem kb0 : Tryz.prog.kindBase "math/bits.deBruijn32tab" = some .data := by
  unfold Program.kindBase
  simp only [tails_gen doorB_is]
  kernel_rfl
theorem kb1 : Tryz.prog.kindBase "math/bits.deBruijn64tab" = some .data := by
  unfold Program.kindBase
  simp only [tails_gen doorB_is]
  kernel_rfl
theorem kb2 : Tryz.prog.kindBase "internal/strconv.uint64pow10" = some .data := by
  unfold Program.kindBase
  simp only [tails_gen doorB_is]
  kernel_rfl
theorem kb3 : Tryz.prog.kindBase "unicode/utf8.acceptRanges" = some .data := by
  unfold Program.kindBase
  simp only [tails_gen doorB_is]
  kernel_rfl
theorem kb4 : Tryz.prog.kindBase "strconv.ErrRange" = some .sentinel := by
  unfold Program.kindBase
  simp only [tails_gen doorB_is]
  kernel_rfl
theorem kb5 : Tryz.prog.kindBase "strconv.ErrSyntax" = some .sentinel := by
  unfold Program.kindBase
  simp only [tails_gen doorB_is]
  kernel_rfl
theorem kb6 : Tryz.prog.kindBase "unicode.White_Space" = some .listed := by
  unfold Program.kindBase
  simp only [tails_gen doorB_is]
  kernel_rfl
theorem kb7 : Tryz.prog.kindBase "bytes.ErrTooLarge" = some .sentinel := by
  unfold Program.kindBase
  simp only [tails_gen doorB_is]
  kernel_rfl
theorem kb8 : Tryz.prog.kindBase "strings.asciiSpace" = some .data := by
  unfold Program.kindBase
  simp only [tails_gen doorB_is]
  kernel_rfl
theorem kp0 : Tryz.prog.kindBase "unicode/utf8.first" = none := by
  unfold Program.kindBase
  simp only [tails_gen doorB_is]
  kernel_rfl
theorem pw0 : Tryz.prog.wordedOn "unicode/utf8.first" (kindTail .pinned) = true := by
  rw [tails_gen doorB_is]
  kernel_rfl
theorem t4 : ([("math/bits.deBruijn32tab", Rows.laid_math_bits_deBruijn32tab), ("math/bits.deBruijn64tab", Rows.laid_math_bits_deBruijn64tab), ("internal/strconv.uint64pow10", Rows.laid_internal_strconv_uint64pow10), ("unicode/utf8.acceptRanges", Rows.laid_unicode_utf8_acceptRanges), ("strconv.ErrRange", Rows.laid_strconv_ErrRange), ("strconv.ErrSyntax", Rows.laid_strconv_ErrSyntax), ("unicode.White_Space", Rows.laid_unicode_White_Space), ("bytes.ErrTooLarge", Rows.laid_bytes_ErrTooLarge), ("strings.asciiSpace", Rows.laid_strings_asciiSpace)] : List (String × DataW Unit)).map (fun x => Tryz.prog.kindOfLater x.1) = ([.data, .data, .data, .data, .sentinel, .sentinel, .listed, .sentinel, .data] : List LaidKind).map some := by
  simp only [List.map_cons, List.map_nil, later_gen kb0 rfl, later_gen kb1 rfl, later_gen kb2 rfl, later_gen kb3 rfl, later_gen kb4 rfl, later_gen kb5 rfl, later_gen kb6 rfl, later_gen kb7 rfl, later_gen kb8 rfl]
theorem ps0 : ((Tryz.prog.globalNamed "unicode/utf8.first").any fun n => ((some 1036).bind fun g => ((Tryz.prog.funcs[g]?).bind (·.body)).bind (·.laysInOrder [])).any fun stored => !stored.contains n) = true := by kernel_rfl
theorem pin0 : Tryz.prog.pinnedFits "unicode/utf8.first" = true := pinned_gen pw0 kp0 (named_at (k := 1036) fsize (by omega) cutvars_at) ps0
theorem t9 : Tryz.prog.headLifts.contains "ownunsafe" = false := by kernel_rfl
theorem ta : Tryz.prog.mainIs = some (true, "cf34a99ef375b50513975cdcb2a601f1be43bfc643cc61aa1a34fcb20c156584".toList) := by kernel_rfl
theorem tb : Rows.consoleShowsRow.wfByText (OpenSpec.ofChange Rows.consoleShowsSpec) = true := by kernel_rfl
noncomputable def codeT : Code := match Tryz.f1036.body with | some c => c | none => .skip
noncomputable def storedT : List Nat := (codeT.laysInOrder []).getD []
theorem body_t : (Tryz.prog.funcs[1036]?).bind (·.body) = some codeT := by kernel_rfl
theorem lays_t : codeT.laysInOrder [] = some storedT := by kernel_rfl
theorem dups_t : (storedT.eraseDups.length == storedT.length) = true := by kernel_rfl
theorem followed_t : codeT.unfollowedBeside Tryz.prog = false := by kernel_rfl
theorem temps_t : (codeT.tempsApart 0).isSome = true := by kernel_rfl
theorem handle_t : codeT.storedByHandle Tryz.prog = [] := by kernel_rfl
theorem list_t : (([("math/bits.deBruijn32tab", Rows.laid_math_bits_deBruijn32tab), ("math/bits.deBruijn64tab", Rows.laid_math_bits_deBruijn64tab), ("internal/strconv.uint64pow10", Rows.laid_internal_strconv_uint64pow10), ("unicode/utf8.acceptRanges", Rows.laid_unicode_utf8_acceptRanges), ("strconv.ErrRange", Rows.laid_strconv_ErrRange), ("strconv.ErrSyntax", Rows.laid_strconv_ErrSyntax), ("unicode.White_Space", Rows.laid_unicode_White_Space), ("bytes.ErrTooLarge", Rows.laid_bytes_ErrTooLarge), ("strings.asciiSpace", Rows.laid_strings_asciiSpace)] : List (String × DataW Unit)).all fun x => (Tryz.prog.globalNamed x.1).any fun v => (storedT.contains v == (Tryz.prog.kindBase x.1 != some .zero)) && callsFit codeT v (Tryz.prog.kindBase x.1) &&
      ((codeT.storedByHandle Tryz.prog).contains v == (Tryz.prog.kindBase x.1 == some .handle)) && (x.2.handleName?.isSome == (Tryz.prog.kindBase x.1 == some .handle || Tryz.prog.kindBase x.1 == some .funcs)) &&
      (Tryz.prog.kindBase x.1 != some .handle || handlePair x) && (x.2.funcsIn?.isSome == (Tryz.prog.kindBase x.1 == some .funcs)) && mapsFit codeT v x.2 (Tryz.prog.kindBase x.1)) = true := by
  simp only [List.all_cons, List.all_nil, kb0, kb1, kb2, kb3, kb4, kb5, kb6, kb7, kb8, handle_t]
  kernel_rfl
theorem funcs_fit : Tryz.prog.funcsFit Rows.consoleShowsRow.laid = true := by kernel_rfl
theorem wants_no : ∀ (j : Nat) t, Tryz.f3.params[j]? = some t → Tryz.prog.wantsStandIn t = false := by
  intro j t ht
  have hall : (Tryz.f3.params.toList.all fun u => !Tryz.prog.wantsStandIn u) = true := by kernel_rfl
  have hm : t ∈ Tryz.f3.params.toList := Array.mem_toList_iff.2 (Array.mem_of_getElem? ht)
  simpa using List.all_eq_true.1 hall t hm
end Go.AM.S40
