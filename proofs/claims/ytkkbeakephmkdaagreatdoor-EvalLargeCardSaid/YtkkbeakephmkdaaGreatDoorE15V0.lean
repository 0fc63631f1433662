import Derived.Deep.DeepWitnessRowRef
import Derived.Test.YtkkbeakephmkdaaGreatDoorE15TJ
set_option linter.all false
section
set_option maxRecDepth 100000
namespace Go.AM.E15
open Go Go.Proofs Go.ChangeShapes Go.RowKit
open Go.Proofs.YtkkbeakephmkdaaGreatDoor
noncomputable section
theorem own : ownKnob Tryz.prog.godebug = none := by kernel_rfl
noncomputable def litV (d : DataW Unit) : Value := match d with | .lit (.int k n) => .int k n | .lit (.bool b) => .bool b | _ => .nilIface
noncomputable def partsOf (d : DataW Unit) : List (DataW Unit) := match d with | .agg ps => ps | .slice ps _ => ps | .ptr (.agg (.slice ps _ :: _)) => ps | _ => []
noncomputable def lv1 (d : DataW Unit) : Array Value := ((partsOf d).map litV).toArray
noncomputable def textOf (d : DataW Unit) : ByteArray := match d with | .iface _ (.ptr (.agg [.lit (.string bs)])) => { data := bs.toArray } | _ => ByteArray.empty
noncomputable def low : Nat := (World.holding Tryz.prog default ⟨#[], #[], []⟩).heap.size
noncomputable def setB (h : Array Obj) (g : Nat) (c : Array Value) : Array Obj := h.modify g fun
  | .cells _ t frozen => .cells c t frozen
  | o => o
noncomputable def laidWorld (os : Os) : World :=
  let w0 := World.holding Tryz.prog os ⟨#[.cells #[.string (textOf Rows.laid_strconv_ErrSyntax)] 510, .cells #[.string (textOf Rows.laid_strconv_ErrRange)] 510], #[], []⟩
  { w0 with heap := setB (setB (setB (setB (setB w0.heap 3 (lv1 Rows.laid_internal_strconv_uint64pow10)) 1 #[.iface 508 (.pointer (some ⟨low, 0, none⟩))]) 2 #[.iface 508 (.pointer (some ⟨low + 1, 0, none⟩))])
      4 (lv1 Rows.laid_math_bits_deBruijn32tab)) 5 (lv1 Rows.laid_math_bits_deBruijn64tab) }
noncomputable def wArgs : Array Value := #[.int .i64 0, .int .i64 0, .int .i64 0, .int .i64 0]
end
end Go.AM.E15
end
section
set_option maxRecDepth 100000
namespace Go.AM.E15
open Go Go.Proofs Go.ChangeShapes Go.RowKit
open Go.Proofs.YtkkbeakephmkdaaGreatDoor
noncomputable section
theorem wr (os : Os) : (((laidWorld os).forCall (fun _ _ => 0) ⟨#[], wArgs, []⟩).heap.toList.drop Tryz.checked.prog.globals.size).take ((begin Tryz.checked.prog (fun _ _ => 0) default).world.heap.size - Tryz.checked.prog.globals.size) =
      (begin Tryz.checked.prog (fun _ _ => 0) default).world.heap.toList.drop Tryz.checked.prog.globals.size := by kernel_rfl
end
end Go.AM.E15
end
section
set_option maxRecDepth 100000
namespace Go.AM.E15
open Go Go.Proofs Go.ChangeShapes Go.RowKit
open Go.Proofs.YtkkbeakephmkdaaGreatDoor
noncomputable section
theorem wo (os : Os) : Input.okWideB Tryz.checked.prog ((laidWorld os).forCall (fun _ _ => 0) ⟨#[], wArgs, []⟩) 3 ⟨#[], wArgs, []⟩ = true := by kernel_rfl
theorem reads (os : Os) {H : Type} (enc : TypeId × Value → H) : ∃ places, DataW.whole enc Tryz.prog ((laidWorld os).forCall (fun _ _ => 0) ⟨#[], wArgs, []⟩).memory Tryz.f3.params.toList Rows.evalLargeSpec.vars false wArgs.toList 8 = some ([.lit (.int .i64 0), .lit (.int .i64 0), .lit (.int .i64 0), .lit (.int .i64 0)], [], places) :=
  ⟨[], by kernel_rfl⟩
end
end Go.AM.E15
end
