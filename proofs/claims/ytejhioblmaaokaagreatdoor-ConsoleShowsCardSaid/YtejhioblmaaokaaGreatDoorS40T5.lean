import Derived.Test.YtejhioblmaaokaaGreatDoorS40T2
import Derived.Test.YtejhioblmaaokaaGreatDoorS40T4
import Derived.Test.YtejhioblmaaokaaGreatDoorS40F7
set_option linter.all false
/- The tie and the card. -/
set_option maxRecDepth 100000
namespace Go.AM.S40
open Go Go.Proofs
open Go.Proofs.YtejhioblmaaokaaGreatDoor
theorem tie_t : Tryz.prog.laidByTextLater [("math/bits.deBruijn32tab", Rows.laid_math_bits_deBruijn32tab), ("math/bits.deBruijn64tab", Rows.laid_math_bits_deBruijn64tab), ("internal/strconv.uint64pow10", Rows.laid_internal_strconv_uint64pow10), ("unicode/utf8.acceptRanges", Rows.laid_unicode_utf8_acceptRanges), ("strconv.ErrRange", Rows.laid_strconv_ErrRange), ("strconv.ErrSyntax", Rows.laid_strconv_ErrSyntax), ("unicode.White_Space", Rows.laid_unicode_White_Space), ("bytes.ErrTooLarge", Rows.laid_bytes_ErrTooLarge), ("strings.asciiSpace", Rows.laid_strings_asciiSpace)] [.data, .data, .data, .data, .sentinel, .sentinel, .listed, .sentinel, .data] true :=
  ⟨⟨t1, t2, t3, t4⟩, 1036, codeT, storedT, vars_named, body_t, ⟨lays_t, dups_t, alone_gen followed_t temps_t fit_t handle_t⟩, list_t, fun os tape _ => run_t os tape⟩
theorem row_tie : Rows.consoleShowsRow.laidByTextAt .later Tryz.pinned [.data, .data, .data, .data, .sentinel, .sentinel, .listed, .sentinel, .data, .pinned] true :=
  OpenClaim.laidByTextAt_pinned rfl rfl tie_t rfl rfl rfl rfl (fun y hy _e => by
    simp only [Rows.consoleShowsRow, List.zip_cons_cons, List.zip_nil_right, List.mem_cons, List.mem_nil_iff, or_false] at hy
    rcases hy with rfl | rfl | rfl | rfl | rfl | rfl | rfl | rfl | rfl | rfl
    · cases _e
    · cases _e
    · cases _e
    · cases _e
    · cases _e
    · cases _e
    · cases _e
    · cases _e
    · cases _e
    · exact ⟨pin0, by kernel_rfl⟩) (fits_gen t9 funcs_fit)
theorem row_goes : false = Rows.consoleShowsRow.goesBy Tryz.prog := (goes_by_gen (func := Rows.consoleShowsRow.func) no_all).symm
theorem fn_at {f : FuncId} {fn : Func} (hf : Tryz.prog.funcNamed Rows.consoleShowsRow.func = some f) (hfn : Tryz.prog.funcs[f]? = some fn) : true = Tryz.prog.looks [] ∧ ∀ (j : Nat) t, fn.params[j]? = some t → Tryz.prog.wantsStandIn t = false := by
  have h3 : some 3 = some f := (show Tryz.prog.funcNamed Rows.consoleShowsRow.func = some 3 from law_named).symm.trans hf
  obtain rfl := Option.some.inj h3
  obtain rfl := Option.some.inj (Tryz.func3.symm.trans hfn)
  exact ⟨looks_ok.symm, wants_no⟩
/-- From the row's statement to its card. -/
theorem card_of (said : Rows.ConsoleShowsSaid) : Claim7.holds Tryz.pinned (.plain (OpenSpec.ofChange Rows.consoleShowsSpec)) { stood := { row := Rows.consoleShowsRow, standIns := [], harness := (true, "cf34a99ef375b50513975cdcb2a601f1be43bfc643cc61aa1a34fcb20c156584"), looks := true }, kinds := [], alts := [], laidByText := true, laidKinds := [.data, .data, .data, .data, .sentinel, .sentinel, .listed, .sentinel, .data, .pinned], laidTests := true, laidLooks := .later } :=
  Claim7.holds_tied_plain_at .later [] [.data, .data, .data, .data, .sentinel, .sentinel, .listed, .sentinel, .data, .pinned] true (true, "cf34a99ef375b50513975cdcb2a601f1be43bfc643cc61aa1a34fcb20c156584") true said (fun _ h => by cases h) tb (fun _ h => by cases h) row_tie rfl ⟨rfl, rfl⟩ ta rfl
    (fun f fn hf hfn => fn_at hf hfn) row_goes
end Go.AM.S40
