import Derived.KernelRfl
import Derived.Test.YtejhioblmaaokaaGreatDoorRows
import Derived.LaidByTextLater
import Derived.SevenTiedAt
import Derived.LaidSub
import Derived.LaidOnce
import Derived.Test.YtejhioblmaaokaaGreatDoorAm3
set_option linter.all false
/- The tie: the run. -/
set_option maxRecDepth 100000
namespace Go.AM.S40
open Go Go.Proofs
open Go.Proofs.YtejhioblmaaokaaGreatDoor
noncomputable def runT (os : Os) (tape : Tape) : Stepped := runN Tryz.prog 115 (Machine.entering Tryz.prog (World.unlaid Tryz.prog os) tape 1036 ⟨#[], #[], []⟩)
noncomputable def wT (os : Os) (tape : Tape) : World := match runT os tape with | .ended (.done _) w => w | _ => default
theorem done_t (os : Os) (tape : Tape) : (match runT os tape with | .ended (.done _) w => true | _ => false) = true := by kernel_rfl
theorem data_t (os : Os) (tape : Tape) : (DataW.laidRun Tryz.prog (wT os tape).memory 8 (([("math/bits.deBruijn32tab", Rows.laid_math_bits_deBruijn32tab), ("math/bits.deBruijn64tab", Rows.laid_math_bits_deBruijn64tab), ("internal/strconv.uint64pow10", Rows.laid_internal_strconv_uint64pow10), ("unicode/utf8.acceptRanges", Rows.laid_unicode_utf8_acceptRanges), ("strconv.ErrRange", Rows.laid_strconv_ErrRange), ("strconv.ErrSyntax", Rows.laid_strconv_ErrSyntax), ("unicode.White_Space", Rows.laid_unicode_White_Space), ("bytes.ErrTooLarge", Rows.laid_bytes_ErrTooLarge), ("strings.asciiSpace", Rows.laid_strings_asciiSpace)] : List (String × DataW Unit)).map (·.1))).map (·.1) = some [("math/bits.deBruijn32tab", Rows.laid_math_bits_deBruijn32tab), ("math/bits.deBruijn64tab", Rows.laid_math_bits_deBruijn64tab), ("internal/strconv.uint64pow10", Rows.laid_internal_strconv_uint64pow10), ("unicode/utf8.acceptRanges", Rows.laid_unicode_utf8_acceptRanges), ("strconv.ErrRange", Rows.laid_strconv_ErrRange), ("strconv.ErrSyntax", Rows.laid_strconv_ErrSyntax), ("unicode.White_Space", Rows.laid_unicode_White_Space), ("bytes.ErrTooLarge", Rows.laid_bytes_ErrTooLarge), ("strings.asciiSpace", Rows.laid_strings_asciiSpace)] := by kernel_rfl
theorem apart_t (os : Os) (tape : Tape) : ((DataW.laidRun Tryz.prog (wT os tape).memory 8 (([("math/bits.deBruijn32tab", Rows.laid_math_bits_deBruijn32tab), ("math/bits.deBruijn64tab", Rows.laid_math_bits_deBruijn64tab), ("internal/strconv.uint64pow10", Rows.laid_internal_strconv_uint64pow10), ("unicode/utf8.acceptRanges", Rows.laid_unicode_utf8_acceptRanges), ("strconv.ErrRange", Rows.laid_strconv_ErrRange), ("strconv.ErrSyntax", Rows.laid_strconv_ErrSyntax), ("unicode.White_Space", Rows.laid_unicode_White_Space), ("bytes.ErrTooLarge", Rows.laid_bytes_ErrTooLarge), ("strings.asciiSpace", Rows.laid_strings_asciiSpace)] : List (String × DataW Unit)).map (·.1))).any fun x => nodupBits 257 x.2 0) = true := by kernel_rfl
end Go.AM.S40
