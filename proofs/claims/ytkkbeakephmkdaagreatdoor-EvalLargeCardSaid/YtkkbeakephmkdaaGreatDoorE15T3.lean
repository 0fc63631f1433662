import Derived.KernelRfl
import Derived.Test.YtkkbeakephmkdaaGreatDoorRows
import Derived.LaidByTextLater
import Derived.SevenTiedAt
import Derived.LaidSub
import Derived.LaidOnce
import Derived.Test.YtkkbeakephmkdaaGreatDoorAm3
import Derived.Test.YtkkbeakephmkdaaGreatDoorE15T1
import Derived.Test.YtkkbeakephmkdaaGreatDoorE15F5
set_option linter.all false
section
set_option maxRecDepth 100000
namespace Go.AM.E15
open Go Go.Proofs
open Go.Proofs.YtkkbeakephmkdaaGreatDoor
noncomputable def runT (os : Os) (tape : Tape) : Stepped := runN Tryz.prog 62 (Machine.entering Tryz.prog (World.unlaid Tryz.prog os) tape 678 ⟨#[], #[], []⟩)
noncomputable def wT (os : Os) (tape : Tape) : World := match runT os tape with | .ended (.done _) w => w | _ => default
theorem done_t (os : Os) (tape : Tape) : (match runT os tape with | .ended (.done _) w => true | _ => false) = true := by kernel_rfl
theorem data_t (os : Os) (tape : Tape) : (DataW.laidRun Tryz.prog (wT os tape).memory 8 (([("math/bits.deBruijn32tab", Rows.laid_math_bits_deBruijn32tab), ("math/bits.deBruijn64tab", Rows.laid_math_bits_deBruijn64tab), ("internal/strconv.uint64pow10", Rows.laid_internal_strconv_uint64pow10), ("strconv.ErrRange", Rows.laid_strconv_ErrRange), ("strconv.ErrSyntax", Rows.laid_strconv_ErrSyntax)] : List (String × DataW Unit)).map (·.1))).map (·.1) = some [("math/bits.deBruijn32tab", Rows.laid_math_bits_deBruijn32tab), ("math/bits.deBruijn64tab", Rows.laid_math_bits_deBruijn64tab), ("internal/strconv.uint64pow10", Rows.laid_internal_strconv_uint64pow10), ("strconv.ErrRange", Rows.laid_strconv_ErrRange), ("strconv.ErrSyntax", Rows.laid_strconv_ErrSyntax)] := by kernel_rfl
theorem apart_t (os : Os) (tape : Tape) : ((DataW.laidRun Tryz.prog (wT os tape).memory 8 (([("math/bits.deBruijn32tab", Rows.laid_math_bits_deBruijn32tab), ("math/bits.deBruijn64tab", Rows.laid_math_bits_deBruijn64tab), ("internal/strconv.uint64pow10", Rows.laid_internal_strconv_uint64pow10), ("strconv.ErrRange", Rows.laid_strconv_ErrRange), ("strconv.ErrSyntax", Rows.laid_strconv_ErrSyntax)] : List (String × DataW Unit)).map (·.1))).any fun x => nodupBits 65 x.2 0) = true := by kernel_rfl
end Go.AM.E15
end
section
set_option maxRecDepth 100000
namespace Go.AM.E15
open Go Go.Proofs
open Go.Proofs.YtkkbeakephmkdaaGreatDoor
theorem rows_t0 (os : Os) (tape : Tape) : ((DataW.laidRun Tryz.prog (wT os tape).memory 8 ["math/bits.deBruijn32tab", "math/bits.deBruijn64tab", "internal/strconv.uint64pow10", "strconv.ErrRange", "strconv.ErrSyntax"]).any fun x => laidRowsB Tryz.prog (wT os tape).memory x.2) = true := by kernel_rfl
theorem rows_t (os : Os) (tape : Tape) : ((DataW.laidRun Tryz.prog (wT os tape).memory 8 (([("math/bits.deBruijn32tab", Rows.laid_math_bits_deBruijn32tab), ("math/bits.deBruijn64tab", Rows.laid_math_bits_deBruijn64tab), ("internal/strconv.uint64pow10", Rows.laid_internal_strconv_uint64pow10), ("strconv.ErrRange", Rows.laid_strconv_ErrRange), ("strconv.ErrSyntax", Rows.laid_strconv_ErrSyntax)] : List (String × DataW Unit)).map (·.1))).any fun x => laidRowsB Tryz.prog (wT os tape).memory x.2) = true := (rows_t0 os tape)
theorem laid_t (os : Os) (tape : Tape) : laidMet Tryz.prog [("math/bits.deBruijn32tab", Rows.laid_math_bits_deBruijn32tab), ("math/bits.deBruijn64tab", Rows.laid_math_bits_deBruijn64tab), ("internal/strconv.uint64pow10", Rows.laid_internal_strconv_uint64pow10), ("strconv.ErrRange", Rows.laid_strconv_ErrRange), ("strconv.ErrSyntax", Rows.laid_strconv_ErrSyntax)] (wT os tape).memory := laid_of_parts 8 65 (data_t os tape) (apart_t os tape) (rows_t os tape)
theorem no_handles : (([("math/bits.deBruijn32tab", Rows.laid_math_bits_deBruijn32tab), ("math/bits.deBruijn64tab", Rows.laid_math_bits_deBruijn64tab), ("internal/strconv.uint64pow10", Rows.laid_internal_strconv_uint64pow10), ("strconv.ErrRange", Rows.laid_strconv_ErrRange), ("strconv.ErrSyntax", Rows.laid_strconv_ErrSyntax)] : List (String × DataW Unit)).filter fun x => x.2.handleName?.isSome) = [] := by kernel_rfl
theorem laidH_t (os : Os) (tape : Tape) : laidMetH Tryz.prog [("math/bits.deBruijn32tab", Rows.laid_math_bits_deBruijn32tab), ("math/bits.deBruijn64tab", Rows.laid_math_bits_deBruijn64tab), ("internal/strconv.uint64pow10", Rows.laid_internal_strconv_uint64pow10), ("strconv.ErrRange", Rows.laid_strconv_ErrRange), ("strconv.ErrSyntax", Rows.laid_strconv_ErrSyntax)] (wT os tape).memory := by
  unfold laidMetH
  rw [no_handles]
  exact laid_t os tape
theorem run_t (os : Os) (tape : Tape) : ∃ n v w', runN Tryz.prog n (Machine.entering Tryz.prog (World.unlaid Tryz.prog os) tape 678 ⟨#[], #[], []⟩) = .ended (.done v) w' ∧ laidMetH Tryz.prog [("math/bits.deBruijn32tab", Rows.laid_math_bits_deBruijn32tab), ("math/bits.deBruijn64tab", Rows.laid_math_bits_deBruijn64tab), ("internal/strconv.uint64pow10", Rows.laid_internal_strconv_uint64pow10), ("strconv.ErrRange", Rows.laid_strconv_ErrRange), ("strconv.ErrSyntax", Rows.laid_strconv_ErrSyntax)] w'.memory := by
  have hd := done_t os tape
  have hl := laidH_t os tape
  unfold wT at hl
  cases hr : runT os tape with
  | next m => rw [hr] at hd; cases hd
  | ended o w =>
    cases o with
    | done v => rw [hr] at hl; exact ⟨62, v, w, hr, hl⟩
    | _ => rw [hr] at hd; cases hd
end Go.AM.E15
end
section
set_option maxRecDepth 100000
namespace Go.AM.E15
open Go Go.Proofs
open Go.Proofs.YtkkbeakephmkdaaGreatDoor
theorem tie_t : Tryz.prog.laidByTextLater [("math/bits.deBruijn32tab", Rows.laid_math_bits_deBruijn32tab), ("math/bits.deBruijn64tab", Rows.laid_math_bits_deBruijn64tab), ("internal/strconv.uint64pow10", Rows.laid_internal_strconv_uint64pow10), ("strconv.ErrRange", Rows.laid_strconv_ErrRange), ("strconv.ErrSyntax", Rows.laid_strconv_ErrSyntax)] [.data, .data, .data, .sentinel, .sentinel] true :=
  ⟨⟨t1, t2, t3, t4⟩, 678, codeT, storedT, vars_named, body_t, ⟨lays_t, dups_t, alone_gen followed_t temps_t fit_t handle_t⟩, list_t, fun os tape _ => run_t os tape⟩
theorem row_tie : Rows.evalLargeRow.laidByTextAt .later Tryz.pinned [.data, .data, .data, .sentinel, .sentinel] true :=
  ⟨rfl, rfl, tie_t, fits_gen t9 funcs_fit⟩
theorem row_goes : false = Rows.evalLargeRow.goesBy Tryz.prog := (goes_by_gen (func := Rows.evalLargeRow.func) no_all).symm
theorem fn_at {f : FuncId} {fn : Func} (hf : Tryz.prog.funcNamed Rows.evalLargeRow.func = some f) (hfn : Tryz.prog.funcs[f]? = some fn) : true = Tryz.prog.looks [] ∧ ∀ (j : Nat) t, fn.params[j]? = some t → Tryz.prog.wantsStandIn t = false := by
  have h3 : some 3 = some f := (show Tryz.prog.funcNamed Rows.evalLargeRow.func = some 3 from law_named).symm.trans hf
  obtain rfl := Option.some.inj h3
  obtain rfl := Option.some.inj (Tryz.func3.symm.trans hfn)
  exact ⟨looks_ok.symm, wants_no⟩
theorem card_of (said : Rows.EvalLargeSaid) : Claim7.holds Tryz.pinned (.plain (OpenSpec.ofChange Rows.evalLargeSpec)) { stood := { row := Rows.evalLargeRow, standIns := [], harness := (true, "39fb01926d05cb558b4a668a3438a5c8885c7a83bded959936ca464e1df9e7e3"), looks := true }, kinds := [], alts := [], laidByText := true, laidKinds := [.data, .data, .data, .sentinel, .sentinel], laidTests := true, laidLooks := .later } :=
  Claim7.holds_tied_plain_at .later [] [.data, .data, .data, .sentinel, .sentinel] true (true, "39fb01926d05cb558b4a668a3438a5c8885c7a83bded959936ca464e1df9e7e3") true said (fun _ h => by cases h) tb (fun _ h => by cases h) row_tie rfl ⟨rfl, rfl⟩ ta rfl
    (fun f fn hf hfn => fn_at hf hfn) row_goes
end Go.AM.E15
end
