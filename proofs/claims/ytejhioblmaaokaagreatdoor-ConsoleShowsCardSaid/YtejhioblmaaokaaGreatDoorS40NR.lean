import Derived.Test.YtejhioblmaaokaaGreatDoorS40NT
set_option linter.all false
/- newTable: the rounds over the spellings. -/
namespace Go.AM.S40
open Go Go.Proofs
noncomputable section
def lits : List (Option V) := [(some (.nilp)), (some (.ptr 3 0)), (some (.tup [])), (some (.tup [])), (some (.tup [])), (some (.tup [])), (some (.tup [])), (some (.tup [])), none, (some (.map 0)), (some (.map 1)), (some (.agg [.map 0, .map 1, .int .i64 0])), (some (.ptr 2 0)), (some (.fn (.func 777) [] [.ptr 4 0])), (some (.tup [])), (some (.tup [])), (some (.tup [])), (some (.tup [])), (some (.tup [])), (some (.tup [])), (some (.fn (.func 777) [] [.ptr 7 0])), (some (.tup [])), (some (.tup [])), (some (.tup [])), (some (.tup [])), (some (.tup [])), (some (.tup [])), (some (.tup [])), (some (.fn (.func 882) [] [.ptr 11 0, .ptr 10 0, .ptr 12 0])), (some (.tup [])), (some (.tup [])), (some (.tup [])), (some (.tup [])), (some (.tup [])), (some (.tup [])), (some (.tup [])), (some (.tup [])), (some (.tup [])), (some (.tup [])), (some (.tup [])), (some (.tup [])), (some (.tup [])), (some (.tup [])), (some (.tup [])), (some (.tup [])), (some (.tup [])), (some (.tup [])), (some (.ptr 2 0)), (some (.ptr 2 0)), (some (.ptr 2 0)), (some (.map 0)), (some (.ptr 29 0)), none, none, none, none, none, none, none, none, none, none, none, none, none, none, none, none, none, none]
def kvs : List (V × V) := match bk0_4 with | .amap es => es | _ => []
def wts : List Nat := [1, 1, 1, 1, 1, 1, 2, 2, 2, 3, 1, 1, 1, 1, 1, 1, 1, 1, 2, 3, 2, 2, 2, 2, 3, 1, 2, 2, 2, 1, 1, 1, 1, 1, 1, 1, 1, 1, 1, 0, 2, 2, 1, 0, 0, 0, 0, 0, 0, 0, 0, 2, 2, 2, 0, 0, 0, 0, 0, 0, 0, 0, 0, 2, 2, 2, 2, 2, 1, 2, 1, 2, 2, 2, 2, 2, 2, 0, 2, 0, 1, 0, 0, 3, 0, 2, 2, 2, 0, 2, 0, 0, 0, 0, 0, 0, 0, 0, 0, 3, 0, 3, 0, 3, 0]
def wt (i : Nat) : Nat := optC (nth wts i) 0 fun w => w
def mx (a b : Nat) : Nat := boolC (Nat.blt a b) a b
def stL (most : Nat) (seen : List Nat) : List (Nat × B) := [(0, bk0_4), (1, bk1_2), (2, .cells true 677 [.map 0, .map 1, .int .i64 (Int.ofNat most)]), (3, .cells true 493 [.ptr 2 0]), (5, .mark), (8, .mark), (13, .mark), (29, .miter 0 105 seen)]
def loopC : Code := sr (sl q5)
def bodyC : Code := unL (unB loopC)
def nops : List Oper := opsL (sl bodyC)
def nos : List Oper := listC nops [] fun _ l => l
def runN (T : List V) (m : M) (s : S) : R := runOps nos nops E2 rc2 T m s
def keyOf (i : Nat) : V := optC (nth kvs i) .nilp fun p => p.1
def valOf (i : Nat) : V := optC (nth kvs i) .nilp fun p => p.2
def nextT (f : Nat → V) (i : Nat) : List V := setD (fillT lits f 0) (some 52) (.tup [.bool true, keyOf i, valOf i])
def nextS (most : Nat) (seen : List Nat) (i : Nat) : S := (mkS 30 (stL most seen)).put 29 (.miter 0 105 (i :: seen))
def doneT (f : Nat → V) : List V := setD (fillT lits f 0) (some 52) (.tup [.bool false])
def rdP (most : Nat) (seen : List Nat) (f : Nat → V) (i : Nat) : Option (Option Nat × Bool × M × Nat × Nat × List (Option B)) :=
  projA lits (stL (mx most (wt i)) (i :: seen)) (thenR (runN (nextT f i) nM5 (nextS most seen i)) (exec (sr bodyC) E2 rc2))
def rdL (most : Nat) (seen : List Nat) (i : Nat) : Option (Option Nat × Bool × M × Nat × Nat × List (Option B)) :=
  some (none, true, nM5, 30, 0, havB (stL (mx most (wt i)) (i :: seen)))
def isNo (r : R) : Bool := match r with | .norm _ _ _ => true | _ => false
def upTo : Nat → Nat → List Nat := fun n => Nat.rec (motive := fun _ => Nat → List Nat) (fun _ => []) (fun _ ih i => i :: ih (i + 1)) n
theorem done_no : ∀ most seen f, isNo (runN (doneT f) nM5 (mkS 30 (stL most seen))) = true := by intro most seen f; kernel_rfl
theorem done_ex : ∀ most seen f, projA lits (stL most seen) (thenR (runN (doneT f) nM5 (mkS 30 (stL most seen))) (exec (sr bodyC) E2 rc2)) = some (some 8, true, nM5, 30, 0, havB (stL most seen)) := by intro most seen f; kernel_rfl
theorem rd_0_0 : ∀ seen f, mapL (rdP 0 seen f) (upTo 53 0) = mapL (rdL 0 seen) (upTo 53 0) := by intro seen f; kernel_rfl
theorem rd_0_53 : ∀ seen f, mapL (rdP 0 seen f) (upTo 52 53) = mapL (rdL 0 seen) (upTo 52 53) := by intro seen f; kernel_rfl
theorem rd_1_0 : ∀ seen f, mapL (rdP 1 seen f) (upTo 53 0) = mapL (rdL 1 seen) (upTo 53 0) := by intro seen f; kernel_rfl
theorem rd_1_53 : ∀ seen f, mapL (rdP 1 seen f) (upTo 52 53) = mapL (rdL 1 seen) (upTo 52 53) := by intro seen f; kernel_rfl
theorem rd_2_0 : ∀ seen f, mapL (rdP 2 seen f) (upTo 53 0) = mapL (rdL 2 seen) (upTo 53 0) := by intro seen f; kernel_rfl
theorem rd_2_53 : ∀ seen f, mapL (rdP 2 seen f) (upTo 52 53) = mapL (rdL 2 seen) (upTo 52 53) := by intro seen f; kernel_rfl
theorem rd_3_0 : ∀ seen f, mapL (rdP 3 seen f) (upTo 53 0) = mapL (rdL 3 seen) (upTo 53 0) := by intro seen f; kernel_rfl
theorem rd_3_53 : ∀ seen f, mapL (rdP 3 seen f) (upTo 52 53) = mapL (rdL 3 seen) (upTo 52 53) := by intro seen f; kernel_rfl
end
end Go.AM.S40
