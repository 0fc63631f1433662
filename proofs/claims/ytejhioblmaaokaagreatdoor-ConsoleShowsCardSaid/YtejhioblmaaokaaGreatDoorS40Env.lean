import Derived.Test.YtejhioblmaaokaaGreatDoorProg
import Derived.KernelRfl
import Derived.Test.YtejhioblmaaokaaGreatDoorAm3
set_option linter.all false
/- The tables of the program. -/
namespace Go.AM.S40
open Go Go.Proofs
noncomputable section
/-- The functions that are run. -/
def okMask : Nat := 736345992509840794094207413021980559308128434241257009235963695443818175152543928382175937972840412380625382109058762950928858989374073659437197638736242589842264861123898389906601962934120374378554811720467798790644434047851495994258203413208768380418210986213960015504026324791204586555968841192714929981882364
def bad (f : Nat) : Bool := boolC (bit okMask f) true false
def gAscii : List V := [.int .u8 0, .int .u8 0, .int .u8 0, .int .u8 0, .int .u8 0, .int .u8 0, .int .u8 0, .int .u8 0, .int .u8 0, .int .u8 1, .int .u8 1, .int .u8 1, .int .u8 1, .int .u8 1, .int .u8 0, .int .u8 0, .int .u8 0, .int .u8 0, .int .u8 0, .int .u8 0, .int .u8 0, .int .u8 0, .int .u8 0, .int .u8 0, .int .u8 0, .int .u8 0, .int .u8 0, .int .u8 0, .int .u8 0, .int .u8 0, .int .u8 0, .int .u8 0, .int .u8 1, .int .u8 0, .int .u8 0, .int .u8 0, .int .u8 0, .int .u8 0, .int .u8 0, .int .u8 0, .int .u8 0, .int .u8 0, .int .u8 0, .int .u8 0, .int .u8 0, .int .u8 0, .int .u8 0, .int .u8 0, .int .u8 0, .int .u8 0, .int .u8 0, .int .u8 0, .int .u8 0, .int .u8 0, .int .u8 0, .int .u8 0, .int .u8 0, .int .u8 0, .int .u8 0, .int .u8 0, .int .u8 0, .int .u8 0, .int .u8 0, .int .u8 0, .int .u8 0, .int .u8 0, .int .u8 0, .int .u8 0, .int .u8 0, .int .u8 0, .int .u8 0, .int .u8 0, .int .u8 0, .int .u8 0, .int .u8 0, .int .u8 0, .int .u8 0, .int .u8 0, .int .u8 0, .int .u8 0, .int .u8 0, .int .u8 0, .int .u8 0, .int .u8 0, .int .u8 0, .int .u8 0, .int .u8 0, .int .u8 0, .int .u8 0, .int .u8 0, .int .u8 0, .int .u8 0, .int .u8 0, .int .u8 0, .int .u8 0, .int .u8 0, .int .u8 0, .int .u8 0, .int .u8 0, .int .u8 0, .int .u8 0, .int .u8 0, .int .u8 0, .int .u8 0, .int .u8 0, .int .u8 0, .int .u8 0, .int .u8 0, .int .u8 0, .int .u8 0, .int .u8 0, .int .u8 0, .int .u8 0, .int .u8 0, .int .u8 0, .int .u8 0, .int .u8 0, .int .u8 0, .int .u8 0, .int .u8 0, .int .u8 0, .int .u8 0, .int .u8 0, .int .u8 0, .int .u8 0, .int .u8 0, .int .u8 0, .int .u8 0, .int .u8 0, .int .u8 0, .int .u8 0, .int .u8 0, .int .u8 0, .int .u8 0, .int .u8 0, .int .u8 0, .int .u8 0, .int .u8 0, .int .u8 0, .int .u8 0, .int .u8 0, .int .u8 0, .int .u8 0, .int .u8 0, .int .u8 0, .int .u8 0, .int .u8 0, .int .u8 0, .int .u8 0, .int .u8 0, .int .u8 0, .int .u8 0, .int .u8 0, .int .u8 0, .int .u8 0, .int .u8 0, .int .u8 0, .int .u8 0, .int .u8 0, .int .u8 0, .int .u8 0, .int .u8 0, .int .u8 0, .int .u8 0, .int .u8 0, .int .u8 0, .int .u8 0, .int .u8 0, .int .u8 0, .int .u8 0, .int .u8 0, .int .u8 0, .int .u8 0, .int .u8 0, .int .u8 0, .int .u8 0, .int .u8 0, .int .u8 0, .int .u8 0, .int .u8 0, .int .u8 0, .int .u8 0, .int .u8 0, .int .u8 0, .int .u8 0, .int .u8 0, .int .u8 0, .int .u8 0, .int .u8 0, .int .u8 0, .int .u8 0, .int .u8 0, .int .u8 0, .int .u8 0, .int .u8 0, .int .u8 0, .int .u8 0, .int .u8 0, .int .u8 0, .int .u8 0, .int .u8 0, .int .u8 0, .int .u8 0, .int .u8 0, .int .u8 0, .int .u8 0, .int .u8 0, .int .u8 0, .int .u8 0, .int .u8 0, .int .u8 0, .int .u8 0, .int .u8 0, .int .u8 0, .int .u8 0, .int .u8 0, .int .u8 0, .int .u8 0, .int .u8 0, .int .u8 0, .int .u8 0, .int .u8 0, .int .u8 0, .int .u8 0, .int .u8 0, .int .u8 0, .int .u8 0, .int .u8 0, .int .u8 0, .int .u8 0, .int .u8 0, .int .u8 0, .int .u8 0, .int .u8 0, .int .u8 0, .int .u8 0, .int .u8 0, .int .u8 0, .int .u8 0, .int .u8 0, .int .u8 0, .int .u8 0, .int .u8 0, .int .u8 0, .int .u8 0, .int .u8 0, .int .u8 0, .int .u8 0, .int .u8 0, .int .u8 0, .int .u8 0, .int .u8 0, .int .u8 0, .int .u8 0, .int .u8 0, .int .u8 0]
def gPow : List V := [.int .u64 1, .int .u64 10, .int .u64 100, .int .u64 1000, .int .u64 10000, .int .u64 100000, .int .u64 1000000, .int .u64 10000000, .int .u64 100000000, .int .u64 1000000000, .int .u64 10000000000, .int .u64 100000000000, .int .u64 1000000000000, .int .u64 10000000000000, .int .u64 100000000000000, .int .u64 1000000000000000, .int .u64 10000000000000000, .int .u64 100000000000000000, .int .u64 1000000000000000000, .int .u64 10000000000000000000]
def gT (g : Nat) : Option (List V) := boolC (Nat.beq g 0) (boolC (Nat.beq g 8) none (some gAscii)) (some gPow)
def lies (e off u : Nat) : Bool := boolC (Nat.beq off 0 && Nat.beq u 114) false (orB (Nat.beq e 114) (Nat.beq e 116))
def mode0 (_ : Nat) : Mode := .N
def E0 : Env := envOf Tryz.prog bad gT mode0 lies
theorem size_ok : Tryz.prog.funcs.size = 1037 := by kernel_rfl
theorem ok_0 : allOk Tryz.prog bad 65 0 = true := by kernel_rfl
theorem ok_65 : allOk Tryz.prog bad 65 65 = true := by kernel_rfl
theorem ok_130 : allOk Tryz.prog bad 65 130 = true := by kernel_rfl
theorem ok_195 : allOk Tryz.prog bad 65 195 = true := by kernel_rfl
theorem ok_260 : allOk Tryz.prog bad 65 260 = true := by kernel_rfl
theorem ok_325 : allOk Tryz.prog bad 65 325 = true := by kernel_rfl
theorem ok_390 : allOk Tryz.prog bad 65 390 = true := by kernel_rfl
theorem ok_455 : allOk Tryz.prog bad 65 455 = true := by kernel_rfl
theorem ok_520 : allOk Tryz.prog bad 65 520 = true := by kernel_rfl
theorem ok_585 : allOk Tryz.prog bad 65 585 = true := by kernel_rfl
theorem ok_650 : allOk Tryz.prog bad 65 650 = true := by kernel_rfl
theorem ok_715 : allOk Tryz.prog bad 65 715 = true := by kernel_rfl
theorem ok_780 : allOk Tryz.prog bad 65 780 = true := by kernel_rfl
theorem ok_845 : allOk Tryz.prog bad 65 845 = true := by kernel_rfl
theorem ok_910 : allOk Tryz.prog bad 65 910 = true := by kernel_rfl
theorem ok_975 : allOk Tryz.prog bad 62 975 = true := by kernel_rfl
theorem lies_a : liesAt Tryz.prog Tryz.prog.depth 114 1 0 114 1 = true := by kernel_rfl
theorem lies_b : liesAt Tryz.prog Tryz.prog.depth 116 1 0 114 1 = true := by kernel_rfl
theorem lies_ok (e off u : Nat) (h : lies e off u = true) : liesAt Tryz.prog Tryz.prog.depth e 1 off u 1 = true := by
  unfold lies at h
  rw [boolC_eq] at h
  split at h
  case isFalse => cases h
  rename_i h1
  rw [Bool.and_eq_true] at h1
  have e1 := Nat.eq_of_beq_eq_true h1.1
  have e2 := Nat.eq_of_beq_eq_true h1.2
  subst e1; subst e2
  unfold orB at h
  rw [boolC_eq] at h
  split at h
  · rename_i h2
    have e3 := Nat.eq_of_beq_eq_true h2
    subst e3; exact lies_a
  · have e3 := Nat.eq_of_beq_eq_true h
    subst e3; exact lies_b
theorem env_ok : EnvOk E0 Tryz.prog := envOf_ok lies_ok fun f hf => by
  rw [size_ok] at hf
  by_cases h0 : f < 65
  · exact allOk_at ok_0 f (by omega) (by omega)
  by_cases h65 : f < 130
  · exact allOk_at ok_65 f (by omega) (by omega)
  by_cases h130 : f < 195
  · exact allOk_at ok_130 f (by omega) (by omega)
  by_cases h195 : f < 260
  · exact allOk_at ok_195 f (by omega) (by omega)
  by_cases h260 : f < 325
  · exact allOk_at ok_260 f (by omega) (by omega)
  by_cases h325 : f < 390
  · exact allOk_at ok_325 f (by omega) (by omega)
  by_cases h390 : f < 455
  · exact allOk_at ok_390 f (by omega) (by omega)
  by_cases h455 : f < 520
  · exact allOk_at ok_455 f (by omega) (by omega)
  by_cases h520 : f < 585
  · exact allOk_at ok_520 f (by omega) (by omega)
  by_cases h585 : f < 650
  · exact allOk_at ok_585 f (by omega) (by omega)
  by_cases h650 : f < 715
  · exact allOk_at ok_650 f (by omega) (by omega)
  by_cases h715 : f < 780
  · exact allOk_at ok_715 f (by omega) (by omega)
  by_cases h780 : f < 845
  · exact allOk_at ok_780 f (by omega) (by omega)
  by_cases h845 : f < 910
  · exact allOk_at ok_845 f (by omega) (by omega)
  by_cases h910 : f < 975
  · exact allOk_at ok_910 f (by omega) (by omega)
  exact allOk_at ok_975 f (by omega) (by omega)
end
end Go.AM.S40
