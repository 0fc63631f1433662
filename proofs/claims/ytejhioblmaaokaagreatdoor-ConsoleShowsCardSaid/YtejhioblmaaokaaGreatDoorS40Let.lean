import Derived.Test.YtejhioblmaaokaaGreatDoorS40Ext
import Derived.Test.YtejhioblmaaokaaGreatDoorAm3
set_option linter.all false
/- lettered at the spellings. -/
namespace Go.AM.S40
open Go Go.Proofs
noncomputable section
def tLet0 : List (List V × V) := [([.str [40]], .bool false), ([.str [41]], .bool false), ([.str [91]], .bool false), ([.str [93]], .bool false), ([.str [123]], .bool false), ([.str [125]], .bool false), ([.str [60, 60]], .bool false), ([.str [62, 62]], .bool false), ([.str [93, 95]], .bool false), ([.str [62, 62, 95]], .bool false), ([.str [44]], .bool false), ([.str [58]], .bool false), ([.str [59]], .bool false), ([.str [46]], .bool false), ([.str [95]], .bool false), ([.str [33]], .bool false), ([.str [64]], .bool false), ([.str [39]], .bool false), ([.str [61, 61]], .bool false), ([.str [124, 45, 62]], .bool false), ([.str [45, 62]], .bool false), ([.str [60, 45]], .bool false), ([.str [58, 61]], .bool false), ([.str [46, 46]], .bool false), ([.str [46, 46, 46]], .bool false), ([.str [124]], .bool false), ([.str [124, 45]], .bool false), ([.str [45, 124]], .bool false), ([.str [61, 62]], .bool false), ([.str [61]], .bool false), ([.str [35]], .bool false), ([.str [60]], .bool false), ([.str [62]], .bool false), ([.str [43]], .bool false), ([.str [45]], .bool false)]
theorem let_0 : tabOk E1 200 610 tLet0 = true := by kernel_rfl
def tLet35 : List (List V × V) := [([.str [42]], .bool false), ([.str [47]], .bool false), ([.str [37]], .bool false), ([.str [94]], .bool false), ([.str [92, 100, 105, 118]], .bool true), ([.str [64, 64]], .bool false), ([.str [58, 62]], .bool false), ([.str [92]], .bool false), ([.str [92, 105, 110]], .bool true), ([.str [92, 110, 111, 116, 105, 110]], .bool true), ([.str [92, 115, 117, 98, 115, 101, 116, 101, 113]], .bool true), ([.str [92, 115, 117, 112, 115, 101, 116, 101, 113]], .bool true), ([.str [92, 65]], .bool true), ([.str [92, 69]], .bool true), ([.str [92, 65, 65]], .bool true), ([.str [92, 69, 69]], .bool true), ([.str [91, 93]], .bool false), ([.str [60, 62]], .bool false), ([.str [126, 62]], .bool false), ([.str [92, 99, 100, 111, 116]], .bool true), ([.str [92, 115, 113, 115, 117, 98, 115, 101, 116, 101, 113]], .bool true), ([.str [92, 115, 113, 99, 117, 112]], .bool true), ([.str [92, 115, 113, 99, 97, 112]], .bool true), ([.str [92, 112, 114, 101, 99]], .bool true), ([.str [92, 115, 117, 99, 99]], .bool true), ([.str [92, 115, 105, 109]], .bool true), ([.str [92, 115, 116, 97, 114]], .bool true), ([.str [92, 98, 117, 108, 108, 101, 116]], .bool true), ([.str [43, 43]], .bool false), ([.str [45, 45]], .bool false), ([.str [42, 42]], .bool false), ([.str [47, 47]], .bool false), ([.str [124, 124]], .bool false), ([.str [38]], .bool false), ([.str [38, 38]], .bool false)]
theorem let_35 : tabOk E1 200 610 tLet35 = true := by kernel_rfl
def tLet70 : List (List V × V) := [([.str [36]], .bool false), ([.str [36, 36]], .bool false), ([.str [63, 63]], .bool false), ([.str [37, 37]], .bool false), ([.str [35, 35]], .bool false), ([.str [94, 94]], .bool false), ([.str [47, 92]], .bool false), ([.str [92, 108, 97, 110, 100]], .bool true), ([.str [92, 47]], .bool false), ([.str [92, 108, 111, 114]], .bool true), ([.str [126]], .bool false), ([.str [92, 108, 110, 111, 116]], .bool true), ([.str [92, 110, 101, 103]], .bool true), ([.str [60, 61, 62]], .bool false), ([.str [92, 101, 113, 117, 105, 118]], .bool true), ([.str [47, 61]], .bool false), ([.str [60, 61]], .bool false), ([.str [61, 60]], .bool false), ([.str [92, 108, 101, 113]], .bool true), ([.str [62, 61]], .bool false), ([.str [92, 103, 101, 113]], .bool true), ([.str [92, 99, 117, 112]], .bool true), ([.str [92, 117, 110, 105, 111, 110]], .bool true), ([.str [92, 99, 97, 112]], .bool true), ([.str [92, 105, 110, 116, 101, 114, 115, 101, 99, 116]], .bool true), ([.str [92, 88]], .bool true), ([.str [92, 116, 105, 109, 101, 115]], .bool true), ([.str [92, 111]], .bool true), ([.str [92, 99, 105, 114, 99]], .bool true), ([.str [40, 43, 41]], .bool false), ([.str [92, 111, 112, 108, 117, 115]], .bool true), ([.str [40, 45, 41]], .bool false), ([.str [92, 111, 109, 105, 110, 117, 115]], .bool true), ([.str [40, 46, 41]], .bool false), ([.str [92, 111, 100, 111, 116]], .bool true)]
theorem let_70 : tabOk E1 200 610 tLet70 = true := by kernel_rfl
def tLet : List (List V × V) := app tLet0 (app tLet35 tLet70)
def hLet : List V → S → CR := memoH tLet (elsH E1 3000 610)
def eLet : List V → S → CR := elsH E1 3000 610
set_option maxRecDepth 100000 in
theorem eLet_ok : SumOk E1 Tryz.prog 610 eLet := elsH_ok (E := E1) (E' := E1) env1_ok ov1_ok rfl 3000 610
set_option maxRecDepth 100000 in
theorem let_ok : SumOk E1 Tryz.prog 610 hLet := memo_ok env1_ok ov1_ok (els := eLet) (l := tLet) (by
  show ∀ p ∈ app tLet0 (app tLet35 tLet70), _
  rw [app_eq, app_eq]
  exact tab_app (tabOk_at let_0) (tab_app (tabOk_at let_35) (tabOk_at let_70))) eLet_ok
def ov2 (f : Nat) : Option (List V → S → CR) := boolC (Nat.beq f 610) none (some hLet)
def E2 : Env := E1.over ov2
theorem env2_ok : EnvOk E2 Tryz.prog := env1_ok.over ov2
theorem ov2_ok : OvOk E2 Tryz.prog := ov1_ok.over fun f k h => by
  unfold ov2 at h
  rw [boolC_eq] at h
  split at h
  · rename_i he
    have he := Nat.eq_of_beq_eq_true he
    subst he
    injection h with h
    subst h
    exact let_ok
  · cases h
end
end Go.AM.S40
