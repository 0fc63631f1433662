import Derived.Deep.DeepWitnessRowRef
import Derived.Test.YtlphhdagahhelaaGreatDoorL40Row2
set_option linter.all false
/- ConsoleJumps: a world that fits. -/
set_option maxRecDepth 100000
namespace Go.AM.L40.Sy
open Go Go.Proofs Go.ChangeShapes Go.RowKit
open Go.Proofs.YtlphhdagahhelaaGreatDoor
noncomputable section
theorem own : ownKnob Tryz.prog.godebug = none := by kernel_rfl
noncomputable def litV (d : DataW Unit) : Value := match d with | .lit (.int k n) => .int k n | .lit (.bool b) => .bool b | _ => .nilIface
noncomputable def partsOf (d : DataW Unit) : List (DataW Unit) := match d with | .agg ps => ps | .slice ps _ => ps | .ptr (.agg (.slice ps _ :: _)) => ps | _ => []
noncomputable def lv1 (d : DataW Unit) : Array Value := ((partsOf d).map litV).toArray
noncomputable def lv2 (d : DataW Unit) : Array Value := ((partsOf d).flatMap fun p => (partsOf p).map litV).toArray
noncomputable def textOf (d : DataW Unit) : ByteArray := match d with | .iface _ (.ptr (.agg [.lit (.string bs)])) => { data := bs.toArray } | _ => ByteArray.empty
noncomputable def low : Nat := (World.holding Tryz.prog default ⟨#[], #[], []⟩).heap.size
noncomputable def setB (h : Array Obj) (g : Nat) (c : Array Value) : Array Obj := h.modify g fun
  | .cells _ t frozen => .cells c t frozen
  | o => o
noncomputable def laidWorld (os : Os) : World :=
  let w0 := World.holding Tryz.prog os ⟨#[.cells #[.string (textOf Rows.laid_strconv_ErrSyntax)] 669, .cells #[.string (textOf Rows.laid_strconv_ErrRange)] 669, .cells #[.string (textOf Rows.laid_bytes_ErrTooLarge)] 669,
    .cells #[.slice (some ⟨low + 4, 0, none⟩) 7 7, .slice none 0 0, .int .i64 2] 880, .cells (lv2 Rows.laid_unicode_White_Space) 883], #[], []⟩
  { w0 with heap := setB (setB (setB (setB (setB (setB (setB (setB (setB (setB w0.heap 0 (lv1 Rows.laid_internal_strconv_uint64pow10)) 1 #[.iface 667 (.pointer (some ⟨low, 0, none⟩))]) 2 #[.iface 667 (.pointer (some ⟨low + 1, 0, none⟩))])
      3 (lv1 Rows.laid_math_bits_deBruijn32tab)) 4 (lv1 Rows.laid_math_bits_deBruijn64tab)) 5 (lv1 Rows.laid_unicode_utf8_first)) 6 (lv2 Rows.laid_unicode_utf8_acceptRanges)) 8 (lv1 Rows.laid_strings_asciiSpace)) 9 #[.iface 667 (.pointer (some ⟨low + 2, 0, none⟩))]) 10 #[.pointer (some ⟨low + 3, 0, none⟩)] }
noncomputable def wArgs : Array Value := #[.slice none 0 0, .int .i64 0]
end
end Go.AM.L40.Sy
