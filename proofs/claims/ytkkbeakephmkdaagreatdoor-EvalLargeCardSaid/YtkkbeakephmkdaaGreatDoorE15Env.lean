import Derived.Laws.IdiomRangeMap
import Derived.Test.YtkkbeakephmkdaaGreatDoorProg
import Derived.KernelRfl
import Derived.Test.YtkkbeakephmkdaaGreatDoorAm2
set_option linter.all false
namespace Go.AM.E15
open Go Go.Proofs
noncomputable section
def okMask : Nat := 1254420307151203348705317947318376612832900418069647324154655857365013621541649581383195825076755342418082216692031809933230678396051344271414471495855383180262828067025863215809343843074309358728580694012
def bad (f : Nat) : Bool := boolC (bit okMask f) true false
def gPow : List V := [.int .u64 1, .int .u64 10, .int .u64 100, .int .u64 1000, .int .u64 10000, .int .u64 100000, .int .u64 1000000, .int .u64 10000000, .int .u64 100000000, .int .u64 1000000000, .int .u64 10000000000, .int .u64 100000000000, .int .u64 1000000000000, .int .u64 10000000000000, .int .u64 100000000000000, .int .u64 1000000000000000, .int .u64 10000000000000000, .int .u64 100000000000000000, .int .u64 1000000000000000000, .int .u64 10000000000000000000]
def gT (g : Nat) : Option (List V) := boolC (Nat.beq g 3) none (some gPow)
def lies (e off u : Nat) : Bool := boolC (Nat.beq off 0 && Nat.beq u 395) false (Nat.beq e 395)
def mode0 (_ : Nat) : Mode := .N
def E00 : Env := envOf Tryz.prog bad gT mode0 lies
def E0 : Env := E00.withMeth Tryz.prog
theorem size_ok : Tryz.prog.funcs.size = 679 := by kernel_rfl
theorem ok_0 : allOk Tryz.prog bad 60 0 = true := by kernel_rfl
theorem ok_60 : allOk Tryz.prog bad 60 60 = true := by kernel_rfl
theorem ok_120 : allOk Tryz.prog bad 60 120 = true := by kernel_rfl
theorem ok_180 : allOk Tryz.prog bad 60 180 = true := by kernel_rfl
theorem ok_240 : allOk Tryz.prog bad 60 240 = true := by kernel_rfl
theorem ok_300 : allOk Tryz.prog bad 60 300 = true := by kernel_rfl
theorem ok_360 : allOk Tryz.prog bad 60 360 = true := by kernel_rfl
theorem ok_420 : allOk Tryz.prog bad 60 420 = true := by kernel_rfl
theorem ok_480 : allOk Tryz.prog bad 60 480 = true := by kernel_rfl
theorem ok_540 : allOk Tryz.prog bad 60 540 = true := by kernel_rfl
theorem ok_600 : allOk Tryz.prog bad 60 600 = true := by kernel_rfl
theorem ok_660 : allOk Tryz.prog bad 19 660 = true := by kernel_rfl
theorem lies_a : liesAt Tryz.prog Tryz.prog.depth 395 1 0 395 1 = true := by kernel_rfl
theorem lies_ok (e off u : Nat) (h : lies e off u = true) : liesAt Tryz.prog Tryz.prog.depth e 1 off u 1 = true := by
  unfold lies at h
  rw [boolC_eq] at h
  split at h
  case isFalse => cases h
  rename_i h1
  rw [Bool.and_eq_true] at h1
  have e1 := Nat.eq_of_beq_eq_true h1.1
  have e2 := Nat.eq_of_beq_eq_true h1.2
  have e3 := Nat.eq_of_beq_eq_true h
  subst e1; subst e2; subst e3; exact lies_a
theorem env00_ok : EnvOk E00 Tryz.prog := envOf_ok lies_ok fun f hf => by
  rw [size_ok] at hf
  by_cases h0 : f < 60
  · exact allOk_at ok_0 f (by omega) (by omega)
  by_cases h60 : f < 120
  · exact allOk_at ok_60 f (by omega) (by omega)
  by_cases h120 : f < 180
  · exact allOk_at ok_120 f (by omega) (by omega)
  by_cases h180 : f < 240
  · exact allOk_at ok_180 f (by omega) (by omega)
  by_cases h240 : f < 300
  · exact allOk_at ok_240 f (by omega) (by omega)
  by_cases h300 : f < 360
  · exact allOk_at ok_300 f (by omega) (by omega)
  by_cases h360 : f < 420
  · exact allOk_at ok_360 f (by omega) (by omega)
  by_cases h420 : f < 480
  · exact allOk_at ok_420 f (by omega) (by omega)
  by_cases h480 : f < 540
  · exact allOk_at ok_480 f (by omega) (by omega)
  by_cases h540 : f < 600
  · exact allOk_at ok_540 f (by omega) (by omega)
  by_cases h600 : f < 660
  · exact allOk_at ok_600 f (by omega) (by omega)
  exact allOk_at ok_660 f (by omega) (by omega)
theorem env_ok : EnvOk E0 Tryz.prog := env00_ok.withMeth
end
end Go.AM.E15
