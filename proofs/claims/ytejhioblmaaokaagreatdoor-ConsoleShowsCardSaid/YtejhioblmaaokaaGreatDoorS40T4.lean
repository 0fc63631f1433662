import Derived.Test.YtejhioblmaaokaaGreatDoorS40T3
set_option linter.all false
/- The tie: the rows. -/
set_option maxRecDepth 100000
namespace Go.AM.S40
open Go Go.Proofs
open Go.Proofs.YtejhioblmaaokaaGreatDoor
theorem rows_t0 (os : Os) (tape : Tape) : ((DataW.laidRun Tryz.prog (wT os tape).memory 8 ["math/bits.deBruijn32tab", "math/bits.deBruijn64tab", "internal/strconv.uint64pow10", "unicode/utf8.acceptRanges", "strconv.ErrRange", "strconv.ErrSyntax", "unicode.White_Space", "bytes.ErrTooLarge"]).any fun x => laidRowsB Tryz.prog (wT os tape).memory x.2) = true := by kernel_rfl
theorem rows_t1 (os : Os) (tape : Tape) : ((DataW.laidRun Tryz.prog (wT os tape).memory 8 ["strings.asciiSpace"]).any fun x => laidRowsB Tryz.prog (wT os tape).memory x.2) = true := by kernel_rfl
theorem rows_t (os : Os) (tape : Tape) : ((DataW.laidRun Tryz.prog (wT os tape).memory 8 (([("math/bits.deBruijn32tab", Rows.laid_math_bits_deBruijn32tab), ("math/bits.deBruijn64tab", Rows.laid_math_bits_deBruijn64tab), ("internal/strconv.uint64pow10", Rows.laid_internal_strconv_uint64pow10), ("unicode/utf8.acceptRanges", Rows.laid_unicode_utf8_acceptRanges), ("strconv.ErrRange", Rows.laid_strconv_ErrRange), ("strconv.ErrSyntax", Rows.laid_strconv_ErrSyntax), ("unicode.White_Space", Rows.laid_unicode_White_Space), ("bytes.ErrTooLarge", Rows.laid_bytes_ErrTooLarge), ("strings.asciiSpace", Rows.laid_strings_asciiSpace)] : List (String × DataW Unit)).map (·.1))).any fun x => laidRowsB Tryz.prog (wT os tape).memory x.2) = true := (rows_app (rows_t1 os tape) ["math/bits.deBruijn32tab", "math/bits.deBruijn64tab", "internal/strconv.uint64pow10", "unicode/utf8.acceptRanges", "strconv.ErrRange", "strconv.ErrSyntax", "unicode.White_Space", "bytes.ErrTooLarge"] (rows_t0 os tape))
theorem laid_t (os : Os) (tape : Tape) : laidMet Tryz.prog [("math/bits.deBruijn32tab", Rows.laid_math_bits_deBruijn32tab), ("math/bits.deBruijn64tab", Rows.laid_math_bits_deBruijn64tab), ("internal/strconv.uint64pow10", Rows.laid_internal_strconv_uint64pow10), ("unicode/utf8.acceptRanges", Rows.laid_unicode_utf8_acceptRanges), ("strconv.ErrRange", Rows.laid_strconv_ErrRange), ("strconv.ErrSyntax", Rows.laid_strconv_ErrSyntax), ("unicode.White_Space", Rows.laid_unicode_White_Space), ("bytes.ErrTooLarge", Rows.laid_bytes_ErrTooLarge), ("strings.asciiSpace", Rows.laid_strings_asciiSpace)] (wT os tape).memory := laid_of_parts 8 257 (data_t os tape) (apart_t os tape) (rows_t os tape)
theorem no_handles : (([("math/bits.deBruijn32tab", Rows.laid_math_bits_deBruijn32tab), ("math/bits.deBruijn64tab", Rows.laid_math_bits_deBruijn64tab), ("internal/strconv.uint64pow10", Rows.laid_internal_strconv_uint64pow10), ("unicode/utf8.acceptRanges", Rows.laid_unicode_utf8_acceptRanges), ("strconv.ErrRange", Rows.laid_strconv_ErrRange), ("strconv.ErrSyntax", Rows.laid_strconv_ErrSyntax), ("unicode.White_Space", Rows.laid_unicode_White_Space), ("bytes.ErrTooLarge", Rows.laid_bytes_ErrTooLarge), ("strings.asciiSpace", Rows.laid_strings_asciiSpace)] : List (String × DataW Unit)).filter fun x => x.2.handleName?.isSome) = [] := by kernel_rfl
theorem laidH_t (os : Os) (tape : Tape) : laidMetH Tryz.prog [("math/bits.deBruijn32tab", Rows.laid_math_bits_deBruijn32tab), ("math/bits.deBruijn64tab", Rows.laid_math_bits_deBruijn64tab), ("internal/strconv.uint64pow10", Rows.laid_internal_strconv_uint64pow10), ("unicode/utf8.acceptRanges", Rows.laid_unicode_utf8_acceptRanges), ("strconv.ErrRange", Rows.laid_strconv_ErrRange), ("strconv.ErrSyntax", Rows.laid_strconv_ErrSyntax), ("unicode.White_Space", Rows.laid_unicode_White_Space), ("bytes.ErrTooLarge", Rows.laid_bytes_ErrTooLarge), ("strings.asciiSpace", Rows.laid_strings_asciiSpace)] (wT os tape).memory := by
  unfold laidMetH
  rw [no_handles]
  exact laid_t os tape
theorem run_t (os : Os) (tape : Tape) : ∃ n v w', runN Tryz.prog n (Machine.entering Tryz.prog (World.unlaid Tryz.prog os) tape 1036 ⟨#[], #[], []⟩) = .ended (.done v) w' ∧ laidMetH Tryz.prog [("math/bits.deBruijn32tab", Rows.laid_math_bits_deBruijn32tab), ("math/bits.deBruijn64tab", Rows.laid_math_bits_deBruijn64tab), ("internal/strconv.uint64pow10", Rows.laid_internal_strconv_uint64pow10), ("unicode/utf8.acceptRanges", Rows.laid_unicode_utf8_acceptRanges), ("strconv.ErrRange", Rows.laid_strconv_ErrRange), ("strconv.ErrSyntax", Rows.laid_strconv_ErrSyntax), ("unicode.White_Space", Rows.laid_unicode_White_Space), ("bytes.ErrTooLarge", Rows.laid_bytes_ErrTooLarge), ("strings.asciiSpace", Rows.laid_strings_asciiSpace)] w'.memory := by
  have hd := done_t os tape
  have hl := laidH_t os tape
  unfold wT at hl
  cases hr : runT os tape with
  | next m => rw [hr] at hd; cases hd
  | ended o w =>
    cases o with
    | done v => rw [hr] at hl; exact ⟨115, v, w, hr, hl⟩
    | _ => rw [hr] at hd; cases hd
end Go.AM.S40
