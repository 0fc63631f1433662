import Derived.Lib.ItoaNum
import Derived.Test.YtejhioblmaaokaaGreatDoorS40TJ
import Derived.Test.YtejhioblmaaokaaGreatDoorAm3
set_option linter.all false
section
/- A machine's run as a stack of what is left. -/
set_option maxRecDepth 100000
namespace Go.AM.S40.Sy
open Go Go.Proofs
noncomputable section
structure W where
  word : List Nat
  kind : Nat
  behind : Nat
/-- The words of the commands. -/
noncomputable def wT : List W := [⟨[105, 110, 105, 116, 115], 1, 0⟩, ⟨[105, 110, 105, 116], 2, 1⟩, ⟨[108, 105, 115, 116], 3, 0⟩, ⟨[115, 116, 101, 112], 4, 1⟩, ⟨[98, 97, 99, 107], 5, 1⟩, ⟨[102, 111, 114, 116, 104], 6, 1⟩, ⟨[103, 111, 116, 111], 7, 1⟩, ⟨[115, 116, 97, 116, 101], 8, 0⟩, ⟨[114, 117, 110], 9, 0⟩, ⟨[119, 104, 121], 10, 0⟩, ⟨[101, 118, 97, 108], 11, 2⟩, ⟨[98, 114, 101, 97, 107], 12, 2⟩, ⟨[99, 108, 101, 97, 114], 13, 1⟩, ⟨[98, 114, 101, 97, 107, 115], 14, 0⟩, ⟨[103, 111], 15, 1⟩, ⟨[102, 105, 110, 100], 16, 2⟩, ⟨[99, 104, 101, 99, 107], 17, 1⟩, ⟨[116, 114, 97, 99, 101], 18, 2⟩, ⟨[100, 101, 98, 117, 103], 19, 2⟩, ⟨[105, 110, 116, 111], 20, 0⟩, ⟨[111, 118, 101, 114], 21, 0⟩, ⟨[111, 117, 116], 22, 0⟩, ⟨[119, 104, 101, 114, 101], 23, 0⟩, ⟨[118, 97, 114, 115], 24, 0⟩, ⟨[115, 116, 111, 112], 25, 0⟩]
noncomputable def cellsW (w : W) : List V := [.str w.word, .int .i64 (Int.ofNat w.kind), .int .i64 (Int.ofNat w.behind)]
noncomputable def flatW (l : List W) : List V := List.rec (motive := fun _ => List V) [] (fun w _ ih => app (cellsW w) ih) l
noncomputable def LW (l : List W) : V := .lsl (flatW l) (len l) false
noncomputable def withMode (E : Env) (md : Nat → Mode) : Env := { E with mode := md }
section
variable {E : Env} {P : Program} {md : Nat → Mode}
theorem envOk_wm (ok : EnvOk E P) : EnvOk (withMode E md) P := ⟨ok.ti, ok.fn, ok.name, ok.draws, ok.meth, ok.lies, ok.eqs⟩
theorem ovOk_wm (hov : OvOk E P) : OvOk (withMode E md) P := fun f k hk A args xs s μ W R ha => CallOut.env (E := E) (E' := withMode E md) rfl (hov f k hk A args xs s μ W (Rel.env (E := withMode E md) (E' := E) rfl R) ha)
end
noncomputable def inL (l : List Nat) (f : Nat) : Bool := List.rec (motive := fun _ => Bool) false (fun x _ ih => boolC (Nat.beq x f) ih true) l
/-- How calls are run: data functions from an empty memory, closures with their memory given back. -/
noncomputable def mdZ (f : Nat) : Mode := boolC (inL [5, 6, 11, 13, 14, 15, 16, 18, 19, 30] f) (boolC (inL [9, 10, 17] f) .N .R) .E
noncomputable def eqsZ (t : Nat) : Bool := Nat.beq t 23
noncomputable def tZ : Tabs := [(4, [([], .bool true)]), (8, [([], LW wT)])]
/-- A number's decimal digits. -/
noncomputable def decN (n : Nat) : List Nat := mapL UInt8.toNat (Lib.decDigits n)
/-- strconv.Itoa at numbers of up to nine digits. -/
noncomputable def itoaH (args : List V) (s : S) : CR := match args with
  | [.int .i64 (Int.ofNat n)] => boolC (Nat.ble n 999999999) .fail (.ret (.str (decN n)) s false)
  | _ => .fail
noncomputable def ovI (f : Nat) : Option (List V → S → CR) := boolC (Nat.beq f 12) none (some itoaH)
noncomputable def EA : Env := withMode (((layer E3 E3 0 tZ).over ovI).withEqs eqsZ) mdZ
theorem callE_at {E : Env} {rc : Rec} {f : Nat} {args : List V} {s s1 : S} {v : V} (ha : rsvL (rsvN s.heap noBlk deep false) args = some args) (hd : doBody E rc f args false none s0 = .ret v s1 false) (hv : rsvN s1.heap noBlk deep false v = some v) (hl : hasLit v = false) : callE E rc f args s = .ret v s false := by
  unfold callE
  rw [ha, optC_some, hd]
  have : backR noBlk s (.ret v s1 false) = .ret v s false := by
    show retV (rsvN s1.heap noBlk deep false v) s = _
    rw [hv]; rfl
  rw [this]
  show boolC (hasLit v) _ _ = _
  rw [hl]; rfl
theorem backR_at {keep : Nat → Bool} {s s1 : S} {v : V} {rd : Bool} (hv : rsvN s1.heap keep deep false v = some v) : backR keep s (.ret v s1 rd) = .ret v s false := by
  show retV (rsvN s1.heap keep deep false v) s = _
  rw [hv]; rfl
inductive It where
  | c (x : Code)
  | b (id : Nat)
noncomputable def goI (E : Env) (rc : Rec) (i : It) (r : R) : R := match i with
  | .c x => thenK r (exec x E rc)
  | .b id => blockK id r
noncomputable def goK (E : Env) (rc : Rec) (k : List It) (r : R) : R := List.rec (motive := fun _ => R → R) (fun r => r) (fun i _ ih r => ih (goI E rc i r)) k r
noncomputable def cT (c : Code) : Code := match c with | .cond _ a _ => a | c => c
noncomputable def cF (c : Code) : Code := match c with | .cond _ _ b => b | c => c
noncomputable def up (T : List V) (l : List (Nat × V)) : List V := List.rec (motive := fun _ => List V → List V) (fun T => T) (fun p _ ih T => ih (setAt T p.1 p.2)) l T
noncomputable def m0 : M := bodyM false none
noncomputable def getV (T : List V) (j : Nat) : V := optC (nth T j) undef fun v => v
noncomputable def nones (n : Nat) : List (Option V) := Nat.rec (motive := fun _ => List (Option V)) [] (fun _ ih => none :: ih) n
noncomputable def und (n : Nat) : List V := repeatL [undef] n
end
end Go.AM.S40.Sy
end
section
/- Lists, numbers. -/
set_option maxRecDepth 100000
namespace Go.AM.S40.Sy
open Go Go.Proofs
noncomputable section
/-- How many elements at the head are so. -/
def lead (p : Nat → Bool) : List Nat → Nat
  | [] => 0
  | b :: r => if p b = true then lead p r + 1 else 0
theorem lead_le (p : Nat → Bool) : ∀ l : List Nat, lead p l ≤ l.length
  | [] => Nat.le_refl _
  | b :: r => by
    have := lead_le p r
    unfold lead
    split
    · simp; omega
    · simp
theorem drop_lt {α : Type} {l : List α} {j : Nat} {e : α} {r : List α} (hd : l.drop j = e :: r) : j < l.length := by
  rcases Nat.lt_or_ge j l.length with h | h
  · exact h
  · rw [List.drop_eq_nil_of_le h] at hd; cases hd
theorem drop_nil {α : Type} {l : List α} {j : Nat} (hd : l.drop j = []) : l.length ≤ j := by
  rcases Nat.lt_or_ge j l.length with h | h
  · rw [List.drop_eq_getElem_cons h] at hd; cases hd
  · exact h
theorem drop_next {α : Type} {l : List α} {j : Nat} {e : α} {r : List α} (hd : l.drop j = e :: r) : l.drop (j + 1) = r := by
  rw [List.drop_eq_getElem_cons (drop_lt hd)] at hd
  injection hd
theorem nth_drop {α : Type} {l : List α} {j : Nat} {e : α} {r : List α} (hd : l.drop j = e :: r) : nth l j = some e := by
  rw [nth_eq]
  have hj := drop_lt hd
  rw [List.drop_eq_getElem_cons hj] at hd
  injection hd with h1 h2
  rw [List.getElem?_eq_getElem hj, h1]
theorem lt_true {i n : Nat} (h : i < n) : (!leI (Int.ofNat n) (Int.ofNat i)) = true := by
  have : ¬ (Int.ofNat n ≤ Int.ofNat i) := by
    show ¬ ((n : Int) ≤ (i : Int)); omega
  rw [leI_eq, decide_eq_false this]; rfl
theorem lt_false {i n : Nat} (h : n ≤ i) : (!leI (Int.ofNat n) (Int.ofNat i)) = false := by
  have : Int.ofNat n ≤ Int.ofNat i := by
    show (n : Int) ≤ (i : Int); omega
  rw [leI_eq, decide_eq_true this]; rfl
theorem not_lt_self (n : Nat) : (!leI (Int.ofNat n) (Int.ofNat n)) = false := lt_false (Nat.le_refl n)
theorem eqI_nat (a b : Nat) : eqI (Int.ofNat a) (Int.ofNat b) = Nat.beq a b := rfl
theorem wrap_next {i : Nat} (h : i < 140737488355328) : wrap .i64 (Int.ofNat i + 1) = Int.ofNat (i + 1) := by
  rw [wrap_eq]
  have h1 : (Int.ofNat i : Int) = (i : Int) := rfl
  have h2 : (Int.ofNat (i + 1) : Int) = (i : Int) + 1 := rfl
  rw [h1, h2]
  simp [IntKind.wrap, IntKind.signed, IntKind.bits]
  omega
section
variable {E : Env} {B : Code} {N : Nat} {T T' : List V} {m m' : M} {s s' : S} {id : Nat}
theorem loop_exit (h : exec B E (recN E (N + 1)) T m s = .exit id T' m' s') : exec (.loop B) E (recN E (N + 1)) T m s = .exit id T' m' s' := by
  show thenK (exec B E (recN E (N + 1)) T m s) _ = _
  rw [h]; rfl
theorem loop_ret (h : exec B E (recN E (N + 1)) T m s = .ret T' m' s') : exec (.loop B) E (recN E (N + 1)) T m s = .ret T' m' s' := by
  show thenK (exec B E (recN E (N + 1)) T m s) _ = _
  rw [h]; rfl
theorem loop_norm (h : exec B E (recN E (N + 1)) T m s = .norm T' m' s') : exec (.loop B) E (recN E (N + 1)) T m s = exec (.loop B) E (recN E N) T' m' s' := by
  show thenK (exec B E (recN E (N + 1)) T m s) _ = _
  rw [h]; rfl
end
end
end Go.AM.S40.Sy
end
section
/- console.find over bytes; its tests. -/
set_option maxRecDepth 100000
namespace Go.AM.S40.Sy
open Go Go.Proofs
noncomputable section
theorem w24_r0 (b : Nat) (rc : Rec) (s : S) : ((!leI 32 (Int.ofNat b)) = true) → doBody EA rc 24 [.int .u8 (Int.ofNat b)] false none s = .ret (.bool true) s false := by
  refine cast ?_ (doQ_ok EA rc 24 [.int .u8 (Int.ofNat b)] s [(2, .bl true)]); kernel_rfl
theorem w24_r1 (b : Nat) (rc : Rec) (s : S) : ((!leI 32 (Int.ofNat b)) = false) → ((!leI (Int.ofNat b) 126) = true) → doBody EA rc 24 [.int .u8 (Int.ofNat b)] false none s = .ret (.bool true) s false := by
  refine cast ?_ (doQ_ok EA rc 24 [.int .u8 (Int.ofNat b)] s [(2, .bl false), (2, .bl true)]); kernel_rfl
theorem w24_r2 (b : Nat) (rc : Rec) (s : S) : ((!leI 32 (Int.ofNat b)) = false) → ((!leI (Int.ofNat b) 126) = false) → doBody EA rc 24 [.int .u8 (Int.ofNat b)] false none s = .ret (.bool false) s false := by
  refine cast ?_ (doQ_ok EA rc 24 [.int .u8 (Int.ofNat b)] s [(2, .bl false), (2, .bl false)]); kernel_rfl
def oddB (b : Nat) : Bool := if Nat.ble 32 b = true then !Nat.ble b 126 else true
theorem do24 (b : Nat) (rc : Rec) (s : S) : doBody EA rc 24 [.int .u8 (Int.ofNat b)] false none s = .ret (.bool (oddB b)) s false := by
  unfold oddB
  cases h1 : Nat.ble 32 b with
  | false =>
    rw [if_neg (by decide)]
    exact w24_r0 b rc s (by show (!Nat.ble 32 b) = true; rw [h1]; rfl)
  | true =>
    rw [if_pos rfl]
    cases h2 : Nat.ble b 126 with
    | false => exact w24_r1 b rc s (by show (!Nat.ble 32 b) = false; rw [h1]; rfl) (by show (!Nat.ble b 126) = true; rw [h2]; rfl)
    | true => exact w24_r2 b rc s (by show (!Nat.ble 32 b) = false; rw [h1]; rfl) (by show (!Nat.ble b 126) = false; rw [h2]; rfl)
theorem call24 (b N : Nat) (s : S) : (recN EA (N + 1)).call 24 [.int .u8 (Int.ofNat b)] s = .ret (.bool (oddB b)) s false := (show _ = doBody EA (recN EA N) 24 [.int .u8 (Int.ofNat b)] false none s by kernel_rfl).trans (do24 b _ s)
theorem w29_r0 (b : Nat) (rc : Rec) (s : S) : ((!leI 48 (Int.ofNat b)) = true) → doBody EA rc 29 [.int .u8 (Int.ofNat b)] false none s = .ret (.bool true) s false := by
  refine cast ?_ (doQ_ok EA rc 29 [.int .u8 (Int.ofNat b)] s [(2, .bl true)]); kernel_rfl
theorem w29_r1 (b : Nat) (rc : Rec) (s : S) : ((!leI 48 (Int.ofNat b)) = false) → ((!leI (Int.ofNat b) 57) = true) → doBody EA rc 29 [.int .u8 (Int.ofNat b)] false none s = .ret (.bool true) s false := by
  refine cast ?_ (doQ_ok EA rc 29 [.int .u8 (Int.ofNat b)] s [(2, .bl false), (2, .bl true)]); kernel_rfl
theorem w29_r2 (b : Nat) (rc : Rec) (s : S) : ((!leI 48 (Int.ofNat b)) = false) → ((!leI (Int.ofNat b) 57) = false) → doBody EA rc 29 [.int .u8 (Int.ofNat b)] false none s = .ret (.bool false) s false := by
  refine cast ?_ (doQ_ok EA rc 29 [.int .u8 (Int.ofNat b)] s [(2, .bl false), (2, .bl false)]); kernel_rfl
def offB (b : Nat) : Bool := if Nat.ble 48 b = true then !Nat.ble b 57 else true
theorem do29 (b : Nat) (rc : Rec) (s : S) : doBody EA rc 29 [.int .u8 (Int.ofNat b)] false none s = .ret (.bool (offB b)) s false := by
  unfold offB
  cases h1 : Nat.ble 48 b with
  | false =>
    rw [if_neg (by decide)]
    exact w29_r0 b rc s (by show (!Nat.ble 48 b) = true; rw [h1]; rfl)
  | true =>
    rw [if_pos rfl]
    cases h2 : Nat.ble b 57 with
    | false => exact w29_r1 b rc s (by show (!Nat.ble 48 b) = false; rw [h1]; rfl) (by show (!Nat.ble b 57) = true; rw [h2]; rfl)
    | true => exact w29_r2 b rc s (by show (!Nat.ble 48 b) = false; rw [h1]; rfl) (by show (!Nat.ble b 57) = false; rw [h2]; rfl)
theorem call29 (b N : Nat) (s : S) : (recN EA (N + 1)).call 29 [.int .u8 (Int.ofNat b)] s = .ret (.bool (offB b)) s false := (show _ = doBody EA (recN EA N) 29 [.int .u8 (Int.ofNat b)] false none s by kernel_rfl).trans (do29 b _ s)
noncomputable def b23 : Code := match Tryz.f23.body with | some c => c | none => .skip
noncomputable def B23 : Code := unL (unB (sr (sl (sr b23))))
noncomputable def T23 (k n g : Nat) (v : V) (f : Nat → V) : List V := fillT (some (.sl k 0 n 1 none) :: some (.fn (.func g) [] []) :: none :: none :: some (.int .i64 0) :: some (.bool false) :: none :: none :: some (.sl k 0 n 1 none) :: some (.int .i64 (Int.ofNat n)) :: some v :: nones (Tryz.f23.ntmps - 11)) f 0
noncomputable def RT23 (k n g i b : Nat) (f : Nat → V) : List V := up (T23 k n g (.int .i64 (Int.ofNat i)) f) [(4, .int .i64 (Int.ofNat i)), (5, .bool true), (6, .int .i64 (Int.ofNat i)), (7, .int .u8 (Int.ofNat b)), (11, .bool true), (12, .int .i64 (Int.ofNat i)), (13, .ptr k (0 + i * 1)), (14, .int .u8 (Int.ofNat b)), (15, .fn (.func g) [] []), (16, .int .u8 (Int.ofNat b)), (17, .bool true), (18, .int .i64 (Int.ofNat i))]
theorem r23_p0 (k n g i b : Nat) (f : Nat → V) (rc : Rec) (s : S) : ((!leI (Int.ofNat n) (Int.ofNat i)) = true) → ((Nat.blt i n) = true) → ((ldB (s.heap.get k) (0 + i * 1) 1 false) = some (.int .u8 (Int.ofNat b))) → (rc.call g [.int .u8 (Int.ofNat b)] s = .ret (.bool true) s false) → exec B23 EA rc (T23 k n g (.int .i64 (Int.ofNat i)) f) m0 s = .ret (RT23 k n g i b f) m0 s := by
  refine cast ?_ (codeQ_ok EA rc B23 (T23 k n g (.int .i64 (Int.ofNat i)) f) s [(0, .bl true), (1, .ia), (0, .ld (.int .u8 (Int.ofNat b))), (4, .cl (.bool true))]); kernel_rfl
theorem r23_p1 (k n g i b : Nat) (f : Nat → V) (rc : Rec) (s : S) : ((!leI (Int.ofNat n) (Int.ofNat i)) = true) → ((Nat.blt i n) = true) → ((ldB (s.heap.get k) (0 + i * 1) 1 false) = some (.int .u8 (Int.ofNat b))) → (rc.call g [.int .u8 (Int.ofNat b)] s = .ret (.bool false) s false) → exec B23 EA rc (T23 k n g (.int .i64 (Int.ofNat i)) f) m0 s = .norm (T23 k n g (.int .i64 (wrap .i64 ((Int.ofNat i) + 1))) (getV (up (T23 k n g (.int .i64 (Int.ofNat i)) f) [(6, .int .i64 (Int.ofNat i)), (7, .int .u8 (Int.ofNat b)), (10, .int .i64 (wrap .i64 ((Int.ofNat i) + 1))), (11, .bool true), (12, .int .i64 (Int.ofNat i)), (13, .ptr k (0 + i * 1)), (14, .int .u8 (Int.ofNat b)), (15, .fn (.func g) [] []), (16, .int .u8 (Int.ofNat b)), (17, .bool false), (19, .int .i64 (wrap .i64 ((Int.ofNat i) + 1)))]))) m0 s := by
  refine cast ?_ (codeQ_ok EA rc B23 (T23 k n g (.int .i64 (Int.ofNat i)) f) s [(0, .bl true), (1, .ia), (0, .ld (.int .u8 (Int.ofNat b))), (4, .cl (.bool false))]); kernel_rfl
theorem r23_p2 (k n g i b : Nat) (f : Nat → V) (rc : Rec) (s : S) : ((!leI (Int.ofNat n) (Int.ofNat i)) = false) → exec B23 EA rc (T23 k n g (.int .i64 (Int.ofNat i)) f) m0 s = .exit 0 (T23 k n g (.int .i64 (Int.ofNat i)) (getV (up (T23 k n g (.int .i64 (Int.ofNat i)) f) [(11, .bool false)]))) m0 s := by
  refine cast ?_ (codeQ_ok EA rc B23 (T23 k n g (.int .i64 (Int.ofNat i)) f) s [(0, .bl false)]); kernel_rfl
/-- The first element that is so. -/
def fstN (p : Nat → Bool) : List Nat → Nat → Option Nat
  | [], _ => none
  | b :: r, i => if p b = true then some i else fstN p r (i + 1)
theorem ld_at {s : S} {k ty i x : Nat} {o : Bool} {l r : List Nat} (hs : s.heap.get k = some (.cells o ty (mapL byteV l))) (hd : l.drop i = x :: r) : ldB (s.heap.get k) (0 + i * 1) 1 false = some (.int .u8 (Int.ofNat x)) := by
  rw [hs]
  show bind (takeN 1 (dropN (0 + i * 1) (mapL byteV l))) (wrapCells false) = _
  rw [dropN_eq, mapL_eq, show 0 + i * 1 = i by omega, ← List.map_drop, hd]
  rfl
theorem loop23 (p : Nat → Bool) (k ty g : Nat) (ow : Bool) (l : List Nat) (hl : l.length < 140737488355328) (hg : ∀ (b N : Nat) (s : S), (recN EA (N + 1)).call g [.int .u8 (Int.ofNat b)] s = .ret (.bool (p b)) s false) : ∀ (r : List Nat) (i : Nat) (f : Nat → V) (N : Nat) (s : S), s.heap.get k = some (.cells ow ty (mapL byteV l)) → i ≤ l.length → l.drop i = r → r.length < N →
    match fstN p r i with
    | some j => ∃ (f' : Nat → V) (b : Nat), exec (.loop B23) EA (recN EA N) (T23 k l.length g (.int .i64 (Int.ofNat i)) f) m0 s = .ret (RT23 k l.length g j b f') m0 s
    | none => ∃ f', exec (.loop B23) EA (recN EA N) (T23 k l.length g (.int .i64 (Int.ofNat i)) f) m0 s = .exit 0 (T23 k l.length g (.int .i64 (Int.ofNat l.length)) f') m0 s := by
  intro r
  induction r with
  | nil =>
    intro i f N s hs hle hd hN
    have hi : l.length ≤ i := drop_nil hd
    obtain rfl : i = l.length := by omega
    obtain ⟨N, rfl⟩ : ∃ n, N = n + 1 := ⟨N - 1, by simp at hN; omega⟩
    have h := r23_p2 k l.length g l.length 0 f (recN EA (N + 1)) s (not_lt_self _)
    exact ⟨_, loop_exit h⟩
  | cons b r ih =>
    intro i f N s hs hle hd hN
    have hj : i < l.length := drop_lt hd
    have hd' : l.drop (i + 1) = r := drop_next hd
    obtain ⟨N, rfl⟩ : ∃ n, N = n + 1 := ⟨N - 1, by simp at hN; omega⟩
    obtain ⟨N, rfl⟩ : ∃ n, N = n + 1 := ⟨N - 1, by simp at hN; omega⟩
    have h1 : (!leI (Int.ofNat l.length) (Int.ofNat i)) = true := lt_true hj
    have h2 : Nat.blt i l.length = true := by rw [Nat.blt_eq]; exact hj
    have h3 := ld_at hs hd
    have h4 := hg b (N + 1) s
    unfold fstN
    cases hb : p b with
    | true =>
      rw [if_pos rfl]
      rw [hb] at h4
      have h := r23_p0 k l.length g i b f (recN EA (N + 1 + 1)) s h1 h2 h3 h4
      exact ⟨f, b, loop_ret h⟩
    | false =>
      rw [if_neg (by decide)]
      rw [hb] at h4
      have h := r23_p1 k l.length g i b f (recN EA (N + 1 + 1)) s h1 h2 h3 h4
      rw [wrap_next (by omega)] at h
      have h5 := loop_norm h
      rw [h5]
      exact ih (i + 1) _ (N + 1) s hs (by omega) hd' (by simpa using hN)
noncomputable def G23 (k n g : Nat) : Nat → V := getV (up (frame0 Tryz.f23 [.sl k 0 n 1 none, .fn (.func g) [] []]) [(4, .int .i64 0), (5, .bool false), (8, .sl k 0 n 1 none), (9, .int .i64 (Int.ofNat n)), (10, .int .i64 0)])
theorem w23_r0 (k n g i b : Nat) (f2 : Nat → V) (rc : Rec) (s : S) : (exec (.loop B23) EA rc (T23 k n g (.int .i64 (Int.ofNat 0)) (G23 k n g)) m0 s = .exit 0 (T23 k n g (.int .i64 (Int.ofNat n)) f2) m0 s) → doBody EA rc 23 [.sl k 0 n 1 none, .fn (.func g) [] []] false none s = .ret (.tup [.int .i64 0, .bool false]) s false := by
  refine cast ?_ (doQ_ok EA rc 23 [.sl k 0 n 1 none, .fn (.func g) [] []] s [(5, .lp (.exit 0 (T23 k n g (.int .i64 (Int.ofNat n)) f2) m0 s))]); kernel_rfl
theorem w23_r1 (k n g i b : Nat) (f2 : Nat → V) (rc : Rec) (s : S) : (exec (.loop B23) EA rc (T23 k n g (.int .i64 (Int.ofNat 0)) (G23 k n g)) m0 s = .ret (RT23 k n g i b f2) m0 s) → doBody EA rc 23 [.sl k 0 n 1 none, .fn (.func g) [] []] false none s = .ret (.tup [.int .i64 (Int.ofNat i), .bool true]) s false := by
  refine cast ?_ (doQ_ok EA rc 23 [.sl k 0 n 1 none, .fn (.func g) [] []] s [(5, .lp (.ret (RT23 k n g i b f2) m0 s))]); kernel_rfl
noncomputable def resF (o : Option Nat) : V := match o with | some j => .tup [.int .i64 (Int.ofNat j), .bool true] | none => .tup [.int .i64 0, .bool false]
/-- find over bytes. -/
theorem do23 (p : Nat → Bool) (k ty g N : Nat) (ow : Bool) (l : List Nat) (s : S) (hl : l.length < 140737488355328) (hg : ∀ (b N : Nat) (s : S), (recN EA (N + 1)).call g [.int .u8 (Int.ofNat b)] s = .ret (.bool (p b)) s false) (hs : s.heap.get k = some (.cells ow ty (mapL byteV l))) (hN : l.length + 1 < N) :
    doBody EA (recN EA N) 23 [.sl k 0 l.length 1 none, .fn (.func g) [] []] false none s = .ret (resF (fstN p l 0)) s false := by
  have h := loop23 p k ty g ow l hl hg l 0 (G23 k l.length g) N s hs (Nat.zero_le _) rfl (by omega)
  cases hf : fstN p l 0 with
  | none =>
    rw [hf] at h
    obtain ⟨f', h⟩ := h
    exact w23_r0 k l.length g 0 0 f' _ s h
  | some j =>
    rw [hf] at h
    obtain ⟨f', b, h⟩ := h
    exact w23_r1 k l.length g j b f' _ s h
end
end Go.AM.S40.Sy
end
section
/- console.odd, isText. -/
set_option maxRecDepth 100000
namespace Go.AM.S40.Sy
open Go Go.Proofs
noncomputable section
theorem w13_r0 (l : List Nat) (j : Nat) (rc : Rec) (s : S) : ((Nat.ble (len l) room) = true) → (rc.call 23 [.sl s.next 0 (len l) 1 none, .fn (.func 24) [] []] (s.new (.cells true 0 (mapL byteV l))) = .ret (.tup [.int .i64 (Int.ofNat j), .bool true]) (s.new (.cells true 0 (mapL byteV l))) false) → doBody EA rc 13 [.str l] false none s = .ret (.tup [.int .i64 (Int.ofNat j), .bool true]) (s.new (.cells true 0 (mapL byteV l))) false := by
  refine cast ?_ (doQ_ok EA rc 13 [.str l] s [(3, .byt), (0, .cl (.tup [.int .i64 (Int.ofNat j), .bool true]))]); kernel_rfl
theorem w13_r1 (l : List Nat) (j : Nat) (rc : Rec) (s : S) : ((Nat.ble (len l) room) = true) → (rc.call 23 [.sl s.next 0 (len l) 1 none, .fn (.func 24) [] []] (s.new (.cells true 0 (mapL byteV l))) = .ret (.tup [.int .i64 0, .bool false]) (s.new (.cells true 0 (mapL byteV l))) false) → doBody EA rc 13 [.str l] false none s = .ret (.tup [.int .i64 0, .bool false]) (s.new (.cells true 0 (mapL byteV l))) false := by
  refine cast ?_ (doQ_ok EA rc 13 [.str l] s [(3, .byt), (0, .cl (.tup [.int .i64 0, .bool false]))]); kernel_rfl
theorem call23 (args : List V) (N : Nat) (s : S) : (recN EA (N + 1)).call 23 args s = doBody EA (recN EA N) 23 args false none s := by kernel_rfl
theorem room_le {l : List Nat} (hl : l.length < 140737488355328) : Nat.ble (len l) room = true := by
  rw [len_eq]; exact Nat.ble_eq_true_of_le (Nat.le_of_lt (Nat.lt_of_lt_of_le hl (by decide)))
theorem new_get (s : S) (x : B) (b : Nat) : (s.new x).heap.get b = if b = s.next then some x else s.heap.get b := by
  show (Tr.put s.heap s.next (some x)).get b = _
  rw [Tr.get_put]
/-- odd. -/
theorem do13 (l : List Nat) (N : Nat) (s : S) (hl : l.length < 140737488355328) (hN : l.length + 2 < N) : doBody EA (recN EA N) 13 [.str l] false none s = .ret (resF (fstN oddB l 0)) (s.new (.cells true 0 (mapL byteV l))) false := by
  obtain ⟨N, rfl⟩ : ∃ n, N = n + 1 := ⟨N - 1, by omega⟩
  have h := do23 oddB s.next 0 24 N true l (s.new (.cells true 0 (mapL byteV l))) hl call24 (by rw [new_get, if_pos rfl]) (by omega)
  rw [← call23, ← len_eq] at h
  cases hf : fstN oddB l 0 with
  | some j => rw [hf] at h; exact w13_r0 l j _ s (room_le hl) h
  | none => rw [hf] at h; exact w13_r1 l 0 _ s (room_le hl) h
theorem call13 (args : List V) (N : Nat) (s : S) : (recN EA (N + 1)).call 13 args s = callE EA (recN EA N) 13 args s := by kernel_rfl
theorem rsv_str (h : Tr B) (l : List Nat) : rsvL (rsvN h noBlk deep false) [.str l] = some [.str l] := by kernel_rfl
theorem rsv_ib (h : Tr B) (n : Int) (b : Bool) : rsvN h noBlk deep false (.tup [.int .i64 n, .bool b]) = some (.tup [.int .i64 n, .bool b]) := by kernel_rfl
theorem lit_ib (n : Int) (b : Bool) : hasLit (.tup [.int .i64 n, .bool b]) = false := by kernel_rfl
theorem rsv_F (h : Tr B) (o : Option Nat) : rsvN h noBlk deep false (resF o) = some (resF o) := by cases o <;> exact rsv_ib ..
theorem lit_F (o : Option Nat) : hasLit (resF o) = false := by cases o <;> exact lit_ib ..
theorem odd_at (l : List Nat) (N : Nat) (s : S) (hl : l.length < 140737488355328) (hN : l.length + 2 < N) : (recN EA (N + 1)).call 13 [.str l] s = .ret (resF (fstN oddB l 0)) s false := by
  rw [call13]
  exact callE_at (rsv_str _ l) (do13 l N s0 hl hN) (rsv_F ..) (lit_F ..)
theorem w11_r0 (l : List Nat) (j : Nat) (rc : Rec) (x1 : Nat) (x2 : Nat) : (rc.call 13 [.str l] (mkS 0 []) = .ret (.tup [.int .i64 (Int.ofNat j), .bool true]) (mkS 0 []) false) → ((!leI (Int.ofNat (len l)) 0) = true) → ((leI (Int.ofNat (len l)) 490) = true) → doBody EA rc 11 [.str l] false none (mkS 0 []) = .ret (.bool false) (mkS 0 []) false := by
  refine cast ?_ (doQ_ok EA rc 11 [.str l] (mkS 0 []) [(2, .cl (.tup [.int .i64 (Int.ofNat j), .bool true])), (7, .bl true), (3, .bl true)]); kernel_rfl
theorem w11_r1 (l : List Nat) (j : Nat) (rc : Rec) (x1 : Nat) (x2 : Nat) : (rc.call 13 [.str l] (mkS 0 []) = .ret (.tup [.int .i64 (Int.ofNat j), .bool true]) (mkS 0 []) false) → ((!leI (Int.ofNat (len l)) 0) = true) → ((leI (Int.ofNat (len l)) 490) = false) → doBody EA rc 11 [.str l] false none (mkS 0 []) = .ret (.bool false) (mkS 0 []) false := by
  refine cast ?_ (doQ_ok EA rc 11 [.str l] (mkS 0 []) [(2, .cl (.tup [.int .i64 (Int.ofNat j), .bool true])), (7, .bl true), (3, .bl false)]); kernel_rfl
theorem w11_r2 (l : List Nat) (j : Nat) (rc : Rec) (x1 : Nat) (x2 : Nat) : (rc.call 13 [.str l] (mkS 0 []) = .ret (.tup [.int .i64 (Int.ofNat j), .bool true]) (mkS 0 []) false) → ((!leI (Int.ofNat (len l)) 0) = false) → doBody EA rc 11 [.str l] false none (mkS 0 []) = .ret (.bool false) (mkS 0 []) false := by
  refine cast ?_ (doQ_ok EA rc 11 [.str l] (mkS 0 []) [(2, .cl (.tup [.int .i64 (Int.ofNat j), .bool true])), (7, .bl false)]); kernel_rfl
theorem w11_r3 (l : List Nat) (j : Nat) (rc : Rec) (x1 : Nat) (x2 : Nat) : (rc.call 13 [.str l] (mkS 0 []) = .ret (.tup [.int .i64 0, .bool false]) (mkS 0 []) false) → ((!leI (Int.ofNat (len l)) 0) = true) → ((leI (Int.ofNat (len l)) 490) = true) → ((nth l 0) = some x1) → ((!eqI (Int.ofNat x1) 32) = true) → ((wrap .i64 ((Int.ofNat (len l)) - 1)) = Int.ofNat ((len l) - 1)) → ((nth l ((len l) - 1)) = some x2) → ((!eqI (Int.ofNat x2) 32) = true) → doBody EA rc 11 [.str l] false none (mkS 0 []) = .ret (.bool true) (mkS 0 []) false := by
  refine cast ?_ (doQ_ok EA rc 11 [.str l] (mkS 0 []) [(2, .cl (.tup [.int .i64 0, .bool false])), (7, .bl true), (3, .bl true), (7, .ix x1), (0, .bl true), (5, .nat ((len l) - 1)), (0, .ix x2), (0, .bl true)]); kernel_rfl
theorem w11_r4 (l : List Nat) (j : Nat) (rc : Rec) (x1 : Nat) (x2 : Nat) : (rc.call 13 [.str l] (mkS 0 []) = .ret (.tup [.int .i64 0, .bool false]) (mkS 0 []) false) → ((!leI (Int.ofNat (len l)) 0) = true) → ((leI (Int.ofNat (len l)) 490) = true) → ((nth l 0) = some x1) → ((!eqI (Int.ofNat x1) 32) = true) → ((wrap .i64 ((Int.ofNat (len l)) - 1)) = Int.ofNat ((len l) - 1)) → ((nth l ((len l) - 1)) = some x2) → ((!eqI (Int.ofNat x2) 32) = false) → doBody EA rc 11 [.str l] false none (mkS 0 []) = .ret (.bool false) (mkS 0 []) false := by
  refine cast ?_ (doQ_ok EA rc 11 [.str l] (mkS 0 []) [(2, .cl (.tup [.int .i64 0, .bool false])), (7, .bl true), (3, .bl true), (7, .ix x1), (0, .bl true), (5, .nat ((len l) - 1)), (0, .ix x2), (0, .bl false)]); kernel_rfl
theorem w11_r5 (l : List Nat) (j : Nat) (rc : Rec) (x1 : Nat) (x2 : Nat) : (rc.call 13 [.str l] (mkS 0 []) = .ret (.tup [.int .i64 0, .bool false]) (mkS 0 []) false) → ((!leI (Int.ofNat (len l)) 0) = true) → ((leI (Int.ofNat (len l)) 490) = true) → ((nth l 0) = some x1) → ((!eqI (Int.ofNat x1) 32) = false) → doBody EA rc 11 [.str l] false none (mkS 0 []) = .ret (.bool false) (mkS 0 []) false := by
  refine cast ?_ (doQ_ok EA rc 11 [.str l] (mkS 0 []) [(2, .cl (.tup [.int .i64 0, .bool false])), (7, .bl true), (3, .bl true), (7, .ix x1), (0, .bl false)]); kernel_rfl
theorem w11_r6 (l : List Nat) (j : Nat) (rc : Rec) (x1 : Nat) (x2 : Nat) : (rc.call 13 [.str l] (mkS 0 []) = .ret (.tup [.int .i64 0, .bool false]) (mkS 0 []) false) → ((!leI (Int.ofNat (len l)) 0) = true) → ((leI (Int.ofNat (len l)) 490) = false) → doBody EA rc 11 [.str l] false none (mkS 0 []) = .ret (.bool false) (mkS 0 []) false := by
  refine cast ?_ (doQ_ok EA rc 11 [.str l] (mkS 0 []) [(2, .cl (.tup [.int .i64 0, .bool false])), (7, .bl true), (3, .bl false)]); kernel_rfl
theorem w11_r7 (l : List Nat) (j : Nat) (rc : Rec) (x1 : Nat) (x2 : Nat) : (rc.call 13 [.str l] (mkS 0 []) = .ret (.tup [.int .i64 0, .bool false]) (mkS 0 []) false) → ((!leI (Int.ofNat (len l)) 0) = false) → doBody EA rc 11 [.str l] false none (mkS 0 []) = .ret (.bool false) (mkS 0 []) false := by
  refine cast ?_ (doQ_ok EA rc 11 [.str l] (mkS 0 []) [(2, .cl (.tup [.int .i64 0, .bool false])), (7, .bl false)]); kernel_rfl
end
end Go.AM.S40.Sy
end
section
/- Atoi at short numerals; numbered. -/
set_option maxRecDepth 100000
namespace Go.AM.S40.Sy
open Go Go.Proofs
noncomputable section
noncomputable def b44 : Code := match Tryz.f44.body with | some c => c | none => .skip
def T44 (k n : Nat) (l : List Nat) (va vi : V) (f : Nat → V) : List V := fillT (app [some (.str l), none, some (.int .i64 0), some .nili, some (.int .i64 (Int.ofNat n)), some (.str l), some va] (app (nones 40) (app [some (.sl k 0 n 1 none), some (.int .i64 (Int.ofNat n)), some vi] (nones (Tryz.f44.ntmps - 50))))) f 0
noncomputable def B44 : Code := (unL (unB (sr (sl (sr (sr (sr (cT (sr (sl (sr (sr b44))))))))))))
theorem r44_p0 (k n a i b : Nat) (l : List Nat) (f : Nat → V) (rc : Rec) (s : S) : ((!leI (Int.ofNat n) (Int.ofNat i)) = true) → ((Nat.blt i n) = true) → ((ldB (s.heap.get k) (0 + i * 1) 1 false) = some (.int .u8 (Int.ofNat b))) → ((!leI (wrap .u8 ((Int.ofNat b) - 48)) 9) = false) → exec B44 EA rc (T44 k n l (.int .i64 (Int.ofNat a)) (.int .i64 (Int.ofNat i)) f) m0 s = .norm (T44 k n l (.int .i64 (wrap .i64 ((wrap .i64 ((Int.ofNat a) * 10)) + (wrap .i64 (wrap .u8 ((Int.ofNat b) - 48)))))) (.int .i64 (wrap .i64 ((Int.ofNat i) + 1))) (getV (up (T44 k n l (.int .i64 (Int.ofNat a)) (.int .i64 (Int.ofNat i)) f) [(6, .int .i64 (wrap .i64 ((wrap .i64 ((Int.ofNat a) * 10)) + (wrap .i64 (wrap .u8 ((Int.ofNat b) - 48)))))), (8, .int .u8 (wrap .u8 ((Int.ofNat b) - 48))), (49, .int .i64 (wrap .i64 ((Int.ofNat i) + 1))), (50, .bool true), (51, .ptr k (0 + i * 1)), (52, .int .u8 (Int.ofNat b)), (53, .int .u8 (Int.ofNat b)), (54, .int .u8 (wrap .u8 ((Int.ofNat b) - 48))), (55, .int .u8 (wrap .u8 ((Int.ofNat b) - 48))), (56, .bool false), (58, .int .i64 (Int.ofNat a)), (59, .int .i64 (wrap .i64 ((Int.ofNat a) * 10))), (60, .int .u8 (wrap .u8 ((Int.ofNat b) - 48))), (61, .int .i64 (wrap .i64 (wrap .u8 ((Int.ofNat b) - 48)))), (62, .int .i64 (wrap .i64 ((wrap .i64 ((Int.ofNat a) * 10)) + (wrap .i64 (wrap .u8 ((Int.ofNat b) - 48)))))), (63, .int .i64 (wrap .i64 ((Int.ofNat i) + 1)))]))) m0 s := by
  refine cast ?_ (codeQ_ok EA rc B44 (T44 k n l (.int .i64 (Int.ofNat a)) (.int .i64 (Int.ofNat i)) f) s [(0, .bl true), (0, .ia), (0, .ld (.int .u8 (Int.ofNat b))), (5, .bl false)]); kernel_rfl
theorem r44_p1 (k n a i b : Nat) (l : List Nat) (f : Nat → V) (rc : Rec) (s : S) : ((!leI (Int.ofNat n) (Int.ofNat i)) = false) → exec B44 EA rc (T44 k n l (.int .i64 (Int.ofNat a)) (.int .i64 (Int.ofNat i)) f) m0 s = .exit 0 (T44 k n l (.int .i64 (Int.ofNat a)) (.int .i64 (Int.ofNat i)) (getV (up (T44 k n l (.int .i64 (Int.ofNat a)) (.int .i64 (Int.ofNat i)) f) [(50, .bool false)]))) m0 s := by
  refine cast ?_ (codeQ_ok EA rc B44 (T44 k n l (.int .i64 (Int.ofNat a)) (.int .i64 (Int.ofNat i)) f) s [(0, .bl false)]); kernel_rfl
/-- The number that digits say. -/
def valF : Nat → List Nat → Nat
  | a, [] => a
  | a, b :: r => valF (a * 10 + (b - 48)) r
def isDig (b : Nat) : Prop := 48 ≤ b ∧ b ≤ 57
theorem wrap_nat {n : Nat} (h : n < 1000000000000000000) : wrap .i64 (Int.ofNat n) = Int.ofNat n := by
  rw [wrap_eq]
  have h1 : (Int.ofNat n : Int) = (n : Int) := rfl
  rw [h1]
  simp [IntKind.wrap, IntKind.signed, IntKind.bits]
  omega
theorem wrap_u8 {n : Nat} (h : n < 256) : wrap .u8 (Int.ofNat n) = Int.ofNat n := by
  rw [wrap_eq]
  have h1 : (Int.ofNat n : Int) = (n : Int) := rfl
  rw [h1]
  simp [IntKind.wrap, IntKind.signed, IntKind.bits]
  omega
theorem dig_u8 {b : Nat} (h : isDig b) : wrap .u8 ((Int.ofNat b) - 48) = Int.ofNat (b - 48) := by
  have : (Int.ofNat b) - 48 = Int.ofNat (b - 48) := by
    show (b : Int) - 48 = ((b - 48 : Nat) : Int)
    have := h.1
    omega
  rw [this]
  exact wrap_u8 (by have := h.2; omega)
theorem acc_is {a b : Nat} (ha : a < 1000000000) (h : isDig b) : wrap .i64 ((wrap .i64 ((Int.ofNat a) * 10)) + (wrap .i64 (wrap .u8 ((Int.ofNat b) - 48)))) = Int.ofNat (a * 10 + (b - 48)) := by
  rw [dig_u8 h, wrap_nat (by have := h.2; omega)]
  have e1 : (Int.ofNat a) * 10 = Int.ofNat (a * 10) := by
    show (a : Int) * 10 = ((a * 10 : Nat) : Int); omega
  rw [e1, wrap_nat (by omega)]
  have e2 : Int.ofNat (a * 10) + Int.ofNat (b - 48) = Int.ofNat (a * 10 + (b - 48)) := rfl
  rw [e2]
  exact wrap_nat (by have := h.2; omega)
theorem loop44 (k ty : Nat) (ow : Bool) (l : List Nat) (hl : l.length < 140737488355328) : ∀ (r : List Nat) (a i : Nat) (f : Nat → V) (N : Nat) (s : S), s.heap.get k = some (.cells ow ty (mapL byteV l)) → i ≤ l.length → l.drop i = r → r.length < N → (∀ b ∈ r, isDig b) → a * 10 ^ r.length + 10 ^ r.length ≤ 1000000000 →
    ∃ f', exec (.loop B44) EA (recN EA N) (T44 k l.length l (.int .i64 (Int.ofNat a)) (.int .i64 (Int.ofNat i)) f) m0 s = .exit 0 (T44 k l.length l (.int .i64 (Int.ofNat (valF a r))) (.int .i64 (Int.ofNat l.length)) f') m0 s := by
  intro r
  induction r with
  | nil =>
    intro a i f N s hs hle hd hN hdig hb
    have hi : l.length ≤ i := drop_nil hd
    obtain rfl : i = l.length := by omega
    obtain ⟨N, rfl⟩ : ∃ n, N = n + 1 := ⟨N - 1, by simp at hN; omega⟩
    have h := r44_p1 k l.length a l.length 0 l f (recN EA (N + 1)) s (not_lt_self _)
    exact ⟨_, loop_exit h⟩
  | cons b r ih =>
    intro a i f N s hs hle hd hN hdig hb
    have hj : i < l.length := drop_lt hd
    have hd' : l.drop (i + 1) = r := drop_next hd
    obtain ⟨N, rfl⟩ : ∃ n, N = n + 1 := ⟨N - 1, by simp at hN; omega⟩
    have hbd : isDig b := hdig b (List.mem_cons_self ..)
    have hp : 0 < 10 ^ r.length := Nat.pos_of_ne_zero (by simp)
    rw [List.length_cons, Nat.pow_succ] at hb
    have ha : a < 1000000000 := by
      rcases Nat.lt_or_ge a 1000000000 with h | h
      · exact h
      · have : 1000000000 * (10 ^ r.length * 10) ≤ a * (10 ^ r.length * 10) := Nat.mul_le_mul_right _ h
        omega
    have h := r44_p0 k l.length a i b l f (recN EA (N + 1)) s (lt_true hj) (by rw [Nat.blt_eq]; exact hj) (ld_at hs hd) (by
      rw [dig_u8 hbd]
      show (!leI (Int.ofNat (b - 48)) (Int.ofNat 9)) = false
      have : Int.ofNat (b - 48) ≤ Int.ofNat 9 := by
        show ((b - 48 : Nat) : Int) ≤ ((9 : Nat) : Int)
        have := hbd.2; omega
      rw [leI_eq, decide_eq_true this]; rfl)
    rw [wrap_next (by omega), acc_is ha hbd] at h
    have h5 := loop_norm h
    rw [h5]
    have hb2 : (a * 10 + (b - 48)) * 10 ^ r.length + 10 ^ r.length ≤ 1000000000 := by
      have h9 : b - 48 ≤ 9 := by have := hbd.2; omega
      have : (a * 10 + (b - 48)) * 10 ^ r.length ≤ (a * 10 + 9) * 10 ^ r.length := Nat.mul_le_mul_right _ (by omega)
      have e : (a * 10 + 9) * 10 ^ r.length = a * (10 ^ r.length * 10) + 9 * 10 ^ r.length := by
        rw [Nat.add_mul, Nat.mul_assoc, Nat.mul_comm 10 (10 ^ r.length)]
      omega
    exact ih (a * 10 + (b - 48)) (i + 1) _ N s hs (by omega) hd' (by simpa using hN) (fun x hx => hdig x (List.mem_cons_of_mem _ hx)) hb2
noncomputable def G44 (l : List Nat) (s : S) (x1 : Nat) : Nat → V := getV (up (frame0 Tryz.f44 [.str l]) [(2, .int .i64 0), (3, .nili), (4, .int .i64 (Int.ofNat (len l))), (5, .str l), (6, .int .i64 0), (11, .str l), (12, .int .i64 (Int.ofNat (len l))), (13, .bool false), (14, undef), (15, undef), (16, undef), (17, undef), (18, undef), (19, undef), (20, .bool false), (21, .bool false), (22, .bool true), (23, .int .i64 (Int.ofNat (len l))), (24, .bool true), (25, .bool true), (26, .int .i64 (Int.ofNat (len l))), (27, .bool true), (28, .bool true), (29, .bool true), (30, .bool true), (31, .str l), (32, .str l), (33, .int .u8 (Int.ofNat x1)), (34, .bool false), (35, .bool false), (36, .str l), (37, .int .u8 (Int.ofNat x1)), (38, .bool false), (39, .bool false), (46, .str l), (47, .sl s.next 0 (len l) 1 none), (48, .int .i64 (Int.ofNat (len l))), (49, .int .i64 0)])
theorem w44_r0 (l : List Nat) (a : Nat) (f2 : Nat → V) (rc : Rec) (s : S) (x1 : Nat) : ((!leI (Int.ofNat (len l)) 0) = true) → ((!leI 19 (Int.ofNat (len l))) = true) → ((nth l 0) = some x1) → ((eqI (Int.ofNat x1) 45) = false) → ((eqI (Int.ofNat x1) 43) = false) → ((Nat.ble (len l) room) = true) → (exec (.loop B44) EA rc (T44 s.next (len l) l (.int .i64 (Int.ofNat 0)) (.int .i64 (Int.ofNat 0)) (G44 l s x1)) m0 (s.new (.cells true 0 (mapL byteV l))) = .exit 0 (T44 s.next (len l) l (.int .i64 (Int.ofNat a)) (.int .i64 (Int.ofNat (len l))) f2) m0 (s.new (.cells true 0 (mapL byteV l)))) → doBody EA rc 44 [.str l] false none s = .ret (.tup [.int .i64 (Int.ofNat a), .nili]) (s.new (.cells true 0 (mapL byteV l))) false := by
  have h_ : (((!leI (Int.ofNat (len l)) 0) = true) → ((!leI 19 (Int.ofNat (len l))) = true) → ((nth l 0) = some x1) → ((eqI (Int.ofNat x1) 45) = false) → ((nth l 0) = some x1) → ((eqI (Int.ofNat x1) 43) = false) → ((Nat.ble (len l) room) = true) → (exec (.loop B44) EA rc (T44 s.next (len l) l (.int .i64 (Int.ofNat 0)) (.int .i64 (Int.ofNat 0)) (G44 l s x1)) m0 (s.new (.cells true 0 (mapL byteV l))) = .exit 0 (T44 s.next (len l) l (.int .i64 (Int.ofNat a)) (.int .i64 (Int.ofNat (len l))) f2) m0 (s.new (.cells true 0 (mapL byteV l)))) → ((nth l 0) = some x1) → ((eqI (Int.ofNat x1) 45) = false) → doBody EA rc 44 [.str l] false none s = .ret (.tup [.int .i64 (Int.ofNat a), .nili]) (s.new (.cells true 0 (mapL byteV l))) false) := by refine cast ?_ (doQ_ok EA rc 44 [.str l] s [(10, .bl true), (2, .bl true), (6, .ix x1), (0, .bl false), (2, .ix x1), (0, .bl false), (3, .byt), (2, .lp (.exit 0 (T44 s.next (len l) l (.int .i64 (Int.ofNat a)) (.int .i64 (Int.ofNat (len l))) f2) m0 (s.new (.cells true 0 (mapL byteV l))))), (1, .ix x1), (0, .bl false)]); kernel_rfl
  exact fun h_0 h_1 h_2 h_3 h_4 h_5 h_6 => h_ h_0 h_1 h_2 h_3 h_2 h_4 h_5 h_6 h_2 h_3
/-- internal/strconv.Atoi, at one to nine digits. -/
theorem do44 (l : List Nat) (N : Nat) (s : S) (h0 : l ≠ []) (h9 : l.length ≤ 9) (hd : ∀ b ∈ l, isDig b) (hN : l.length < N) :
    doBody EA (recN EA N) 44 [.str l] false none s = .ret (.tup [.int .i64 (Int.ofNat (valF 0 l)), .nili]) (s.new (.cells true 0 (mapL byteV l))) false := by
  obtain ⟨x1, r, rfl⟩ : ∃ x r, l = x :: r := by cases l with | nil => exact absurd rfl h0 | cons x r => exact ⟨x, r, rfl⟩
  have hx := hd x1 (List.mem_cons_self ..)
  have hp : 10 ^ (x1 :: r).length ≤ 10 ^ 9 := Nat.pow_le_pow_right (by decide) h9
  obtain ⟨f', h⟩ := loop44 s.next 0 true (x1 :: r) (by omega) (x1 :: r) 0 0 (G44 (x1 :: r) s x1) N (s.new (.cells true 0 (mapL byteV (x1 :: r)))) (by rw [new_get, if_pos rfl]) (Nat.zero_le _) rfl hN hd (by omega)
  rw [← len_eq] at h
  refine w44_r0 (x1 :: r) _ f' _ s x1 (by rw [len_eq]; exact lt_true (by simp)) (by rw [len_eq]; exact lt_true (Nat.lt_of_le_of_lt h9 (by decide))) rfl ?_ ?_ (room_le (by omega)) h
  · show Nat.beq x1 45 = false
    cases e : Nat.beq x1 45 with
    | false => rfl
    | true => have := Nat.eq_of_beq_eq_true e; have := hx.1; omega
  · show Nat.beq x1 43 = false
    cases e : Nat.beq x1 43 with
    | false => rfl
    | true => have := Nat.eq_of_beq_eq_true e; have := hx.1; omega
theorem call44 (args : List V) (N : Nat) (s : S) : (recN EA (N + 1)).call 44 args s = doBody EA (recN EA N) 44 args false none s := by kernel_rfl
theorem w30_r0 (l : List Nat) (v : Nat) (rc : Rec) (s : S) : (rc.call 44 [.str l] s = .ret (.tup [.int .i64 (Int.ofNat v), .nili]) (s.new (.cells true 0 (mapL byteV l))) false) → doBody EA rc 30 [.str l] false none s = .ret (.tup [.int .i64 (Int.ofNat v), .nili]) (s.new (.cells true 0 (mapL byteV l))) false := by
  refine cast ?_ (doQ_ok EA rc 30 [.str l] s [(3, .cs (.tup [.int .i64 (Int.ofNat v), .nili]) (s.new (.cells true 0 (mapL byteV l))))]); kernel_rfl
theorem do30 (l : List Nat) (N : Nat) (s : S) (h0 : l ≠ []) (h9 : l.length ≤ 9) (hd : ∀ b ∈ l, isDig b) (hN : l.length + 1 < N) :
    doBody EA (recN EA N) 30 [.str l] false none s = .ret (.tup [.int .i64 (Int.ofNat (valF 0 l)), .nili]) (s.new (.cells true 0 (mapL byteV l))) false := by
  obtain ⟨N, rfl⟩ : ∃ n, N = n + 1 := ⟨N - 1, by omega⟩
  have h := do44 l N s h0 h9 hd (by omega)
  rw [← call44] at h
  exact w30_r0 l _ _ s h
theorem call30 (args : List V) (N : Nat) (s : S) : (recN EA (N + 1)).call 30 args s = callE EA (recN EA N) 30 args s := by kernel_rfl
theorem rsv_in (h : Tr B) (n : Int) : rsvN h noBlk deep false (.tup [.int .i64 n, .nili]) = some (.tup [.int .i64 n, .nili]) := by kernel_rfl
theorem lit_in (n : Int) : hasLit (.tup [.int .i64 n, .nili]) = false := by kernel_rfl
theorem atoi_at (l : List Nat) (N : Nat) (s : S) (h0 : l ≠ []) (h9 : l.length ≤ 9) (hd : ∀ b ∈ l, isDig b) (hN : l.length + 1 < N) :
    (recN EA (N + 1)).call 30 [.str l] s = .ret (.tup [.int .i64 (Int.ofNat (valF 0 l)), .nili]) s false := by
  rw [call30]
  exact callE_at (rsv_str _ l) (do30 l N s0 h0 h9 hd hN) (rsv_in ..) (lit_in ..)
noncomputable def q19_1 (l : List Nat) : S := mkS 1 [(0, .cells true 0 (mapL byteV l))]
theorem w19_r0 (l : List Nat) (j v : Nat) (rc : Rec) (x1 : Nat) : ((eqI (Int.ofNat (len l)) 0) = true) → doBody EA rc 19 [.str l] false none (mkS 0 []) = .ret (.tup [.int .i64 0, .bool false]) (mkS 0 []) false := by
  refine cast ?_ (doQ_ok EA rc 19 [.str l] (mkS 0 []) [(4, .bl true)]); kernel_rfl
theorem w19_r1 (l : List Nat) (j v : Nat) (rc : Rec) (x1 : Nat) : ((eqI (Int.ofNat (len l)) 0) = false) → ((!leI (Int.ofNat (len l)) 9) = true) → doBody EA rc 19 [.str l] false none (mkS 0 []) = .ret (.tup [.int .i64 0, .bool false]) (mkS 0 []) false := by
  refine cast ?_ (doQ_ok EA rc 19 [.str l] (mkS 0 []) [(4, .bl false), (3, .bl true)]); kernel_rfl
theorem w19_r2 (l : List Nat) (j v : Nat) (rc : Rec) (x1 : Nat) : ((eqI (Int.ofNat (len l)) 0) = false) → ((!leI (Int.ofNat (len l)) 9) = false) → ((!leI (Int.ofNat (len l)) 1) = true) → ((nth l 0) = some x1) → ((eqI (Int.ofNat x1) 48) = true) → doBody EA rc 19 [.str l] false none (mkS 0 []) = .ret (.tup [.int .i64 0, .bool false]) (mkS 0 []) false := by
  refine cast ?_ (doQ_ok EA rc 19 [.str l] (mkS 0 []) [(4, .bl false), (3, .bl false), (4, .bl true), (2, .ix x1), (0, .bl true)]); kernel_rfl
theorem w19_r3 (l : List Nat) (j v : Nat) (rc : Rec) (x1 : Nat) : ((eqI (Int.ofNat (len l)) 0) = false) → ((!leI (Int.ofNat (len l)) 9) = false) → ((!leI (Int.ofNat (len l)) 1) = true) → ((nth l 0) = some x1) → ((eqI (Int.ofNat x1) 48) = false) → ((Nat.ble (len l) room) = true) → (rc.call 23 [.sl 0 0 (len l) 1 none, .fn (.func 29) [] []] (q19_1 l) = .ret (.tup [.int .i64 (Int.ofNat j), .bool true]) (q19_1 l) false) → doBody EA rc 19 [.str l] false none (mkS 0 []) = .ret (.tup [.int .i64 0, .bool false]) (q19_1 l) false := by
  refine cast ?_ (doQ_ok EA rc 19 [.str l] (mkS 0 []) [(4, .bl false), (3, .bl false), (4, .bl true), (2, .ix x1), (0, .bl false), (3, .byt), (0, .cl (.tup [.int .i64 (Int.ofNat j), .bool true]))]); kernel_rfl
theorem w19_r4 (l : List Nat) (j v : Nat) (rc : Rec) (x1 : Nat) : ((eqI (Int.ofNat (len l)) 0) = false) → ((!leI (Int.ofNat (len l)) 9) = false) → ((!leI (Int.ofNat (len l)) 1) = true) → ((nth l 0) = some x1) → ((eqI (Int.ofNat x1) 48) = false) → ((Nat.ble (len l) room) = true) → (rc.call 23 [.sl 0 0 (len l) 1 none, .fn (.func 29) [] []] (q19_1 l) = .ret (.tup [.int .i64 0, .bool false]) (q19_1 l) false) → (rc.call 30 [.str l] (q19_1 l) = .ret (.tup [.int .i64 (Int.ofNat v), .nili]) (q19_1 l) false) → doBody EA rc 19 [.str l] false none (mkS 0 []) = .ret (.tup [.int .i64 (Int.ofNat v), .bool true]) (q19_1 l) false := by
  refine cast ?_ (doQ_ok EA rc 19 [.str l] (mkS 0 []) [(4, .bl false), (3, .bl false), (4, .bl true), (2, .ix x1), (0, .bl false), (3, .byt), (0, .cl (.tup [.int .i64 0, .bool false])), (7, .cl (.tup [.int .i64 (Int.ofNat v), .nili]))]); kernel_rfl
theorem w19_r5 (l : List Nat) (j v : Nat) (rc : Rec) (x1 : Nat) : ((eqI (Int.ofNat (len l)) 0) = false) → ((!leI (Int.ofNat (len l)) 9) = false) → ((!leI (Int.ofNat (len l)) 1) = false) → ((Nat.ble (len l) room) = true) → (rc.call 23 [.sl 0 0 (len l) 1 none, .fn (.func 29) [] []] (q19_1 l) = .ret (.tup [.int .i64 (Int.ofNat j), .bool true]) (q19_1 l) false) → doBody EA rc 19 [.str l] false none (mkS 0 []) = .ret (.tup [.int .i64 0, .bool false]) (q19_1 l) false := by
  refine cast ?_ (doQ_ok EA rc 19 [.str l] (mkS 0 []) [(4, .bl false), (3, .bl false), (4, .bl false), (4, .byt), (0, .cl (.tup [.int .i64 (Int.ofNat j), .bool true]))]); kernel_rfl
theorem w19_r6 (l : List Nat) (j v : Nat) (rc : Rec) (x1 : Nat) : ((eqI (Int.ofNat (len l)) 0) = false) → ((!leI (Int.ofNat (len l)) 9) = false) → ((!leI (Int.ofNat (len l)) 1) = false) → ((Nat.ble (len l) room) = true) → (rc.call 23 [.sl 0 0 (len l) 1 none, .fn (.func 29) [] []] (q19_1 l) = .ret (.tup [.int .i64 0, .bool false]) (q19_1 l) false) → (rc.call 30 [.str l] (q19_1 l) = .ret (.tup [.int .i64 (Int.ofNat v), .nili]) (q19_1 l) false) → doBody EA rc 19 [.str l] false none (mkS 0 []) = .ret (.tup [.int .i64 (Int.ofNat v), .bool true]) (q19_1 l) false := by
  refine cast ?_ (doQ_ok EA rc 19 [.str l] (mkS 0 []) [(4, .bl false), (3, .bl false), (4, .bl false), (4, .byt), (0, .cl (.tup [.int .i64 0, .bool false])), (7, .cl (.tup [.int .i64 (Int.ofNat v), .nili]))]); kernel_rfl
end
end Go.AM.S40.Sy
end
section
/- console.skip. -/
set_option maxRecDepth 100000
namespace Go.AM.S40.Sy
open Go Go.Proofs
noncomputable section
noncomputable def b15 : Code := match Tryz.f15.body with | some c => c | none => .skip
noncomputable def B15 : Code := unL (unB (sl (sr b15)))
noncomputable def T15 (l : List Nat) (v : V) (f : Nat → V) : List V := fillT (some (.str l) :: some v :: none :: none :: some (.int .i64 0) :: nones (Tryz.f15.ntmps - 5)) f 0
theorem r15_p0 (l : List Nat) (i b : Nat) (f : Nat → V) (rc : Rec) (s : S) : ((!leI (Int.ofNat (len l)) (Int.ofNat i)) = true) → ((nth l i) = some b) → ((eqI (Int.ofNat b) 32) = true) → exec B15 EA rc (T15 l (.int .i64 (Int.ofNat i)) f) m0 s = .norm (T15 l (.int .i64 (wrap .i64 ((Int.ofNat i) + 1))) (getV (up (T15 l (.int .i64 (Int.ofNat i)) f) [(1, .int .i64 (wrap .i64 ((Int.ofNat i) + 1))), (5, .int .i64 (Int.ofNat i)), (6, .str l), (7, .int .i64 (Int.ofNat (len l))), (8, .bool true), (9, .bool true), (10, .str l), (11, .int .i64 (Int.ofNat i)), (12, .int .u8 (Int.ofNat b)), (13, .bool true), (14, .bool true), (15, .int .i64 (Int.ofNat i)), (16, .int .i64 (wrap .i64 ((Int.ofNat i) + 1)))]))) m0 s := by
  refine cast ?_ (codeQ_ok EA rc B15 (T15 l (.int .i64 (Int.ofNat i)) f) s [(3, .bl true), (3, .ix b), (0, .bl true)]); kernel_rfl
theorem r15_p1 (l : List Nat) (i b : Nat) (f : Nat → V) (rc : Rec) (s : S) : ((!leI (Int.ofNat (len l)) (Int.ofNat i)) = true) → ((nth l i) = some b) → ((eqI (Int.ofNat b) 32) = false) → exec B15 EA rc (T15 l (.int .i64 (Int.ofNat i)) f) m0 s = .exit 0 (T15 l (.int .i64 (Int.ofNat i)) (getV (up (T15 l (.int .i64 (Int.ofNat i)) f) [(5, .int .i64 (Int.ofNat i)), (6, .str l), (7, .int .i64 (Int.ofNat (len l))), (8, .bool true), (9, .bool true), (10, .str l), (11, .int .i64 (Int.ofNat i)), (12, .int .u8 (Int.ofNat b)), (13, .bool false), (14, .bool false)]))) m0 s := by
  refine cast ?_ (codeQ_ok EA rc B15 (T15 l (.int .i64 (Int.ofNat i)) f) s [(3, .bl true), (3, .ix b), (0, .bl false)]); kernel_rfl
theorem r15_p2 (l : List Nat) (i b : Nat) (f : Nat → V) (rc : Rec) (s : S) : ((!leI (Int.ofNat (len l)) (Int.ofNat i)) = false) → exec B15 EA rc (T15 l (.int .i64 (Int.ofNat i)) f) m0 s = .exit 0 (T15 l (.int .i64 (Int.ofNat i)) (getV (up (T15 l (.int .i64 (Int.ofNat i)) f) [(5, .int .i64 (Int.ofNat i)), (6, .str l), (7, .int .i64 (Int.ofNat (len l))), (8, .bool false), (9, .bool false), (10, undef), (11, undef), (12, undef), (13, undef), (14, .bool false)]))) m0 s := by
  refine cast ?_ (codeQ_ok EA rc B15 (T15 l (.int .i64 (Int.ofNat i)) f) s [(3, .bl false)]); kernel_rfl
theorem loop15 (l : List Nat) (hl : l.length < 140737488355328) : ∀ (r : List Nat) (i : Nat) (f : Nat → V) (N : Nat) (s : S), i ≤ l.length → l.drop i = r → r.length < N →
    ∃ f', exec (.loop B15) EA (recN EA N) (T15 l (.int .i64 (Int.ofNat i)) f) m0 s = .exit 0 (T15 l (.int .i64 (Int.ofNat (i + lead (Nat.beq · 32) r))) f') m0 s := by
  intro r
  induction r with
  | nil =>
    intro i f N s hle hd hN
    have hi : l.length ≤ i := drop_nil hd
    obtain rfl : i = l.length := by omega
    obtain ⟨N, rfl⟩ : ∃ n, N = n + 1 := ⟨N - 1, by simp at hN; omega⟩
    exact ⟨_, loop_exit (r15_p2 l l.length 0 f (recN EA (N + 1)) s (by rw [len_eq]; exact not_lt_self _))⟩
  | cons b r ih =>
    intro i f N s hle hd hN
    have hj : i < l.length := drop_lt hd
    have hd' : l.drop (i + 1) = r := drop_next hd
    obtain ⟨N, rfl⟩ : ∃ n, N = n + 1 := ⟨N - 1, by simp at hN; omega⟩
    have h1 : (!leI (Int.ofNat (len l)) (Int.ofNat i)) = true := by rw [len_eq]; exact lt_true hj
    have h2 : nth l i = some b := nth_drop hd
    cases hb : Nat.beq b 32 with
    | true =>
      have h := r15_p0 l i b f (recN EA (N + 1)) s h1 h2 (by show Nat.beq b 32 = true; rw [hb])
      rw [wrap_next (by omega)] at h
      obtain ⟨f', h'⟩ := ih (i + 1) _ N s (by omega) hd' (by simpa using hN)
      refine ⟨f', (loop_norm h).trans ?_⟩
      rw [show i + lead (Nat.beq · 32) (b :: r) = (i + 1) + lead (Nat.beq · 32) r by simp only [lead, hb]; simp; omega]
      exact h'
    | false =>
      have h := r15_p1 l i b f (recN EA (N + 1)) s h1 h2 (by show Nat.beq b 32 = false; rw [hb])
      rw [show i + lead (Nat.beq · 32) (b :: r) = i by simp only [lead, hb]; simp]
      exact ⟨_, loop_exit h⟩
noncomputable def G15 (l : List Nat) (i : Nat) : Nat → V := getV (up (frame0 Tryz.f15 [.str l, .int .i64 (Int.ofNat i)]) [(4, .int .i64 0)])
theorem w15_r0 (l : List Nat) (i j : Nat) (f2 : Nat → V) (rc : Rec) (s : S) : (exec (.loop B15) EA rc (T15 l (.int .i64 (Int.ofNat i)) (G15 l i)) m0 s = .exit 0 (T15 l (.int .i64 (Int.ofNat j)) f2) m0 s) → doBody EA rc 15 [.str l, .int .i64 (Int.ofNat i)] false none s = .ret (.int .i64 (Int.ofNat j)) s false := by
  refine cast ?_ (doQ_ok EA rc 15 [.str l, .int .i64 (Int.ofNat i)] s [(1, .lp (.exit 0 (T15 l (.int .i64 (Int.ofNat j)) f2) m0 s))]); kernel_rfl
/-- skip. -/
theorem do15 (l : List Nat) (i N : Nat) (s : S) (hl : l.length < 140737488355328) (hi : i ≤ l.length) (hN : l.length < N) :
    doBody EA (recN EA N) 15 [.str l, .int .i64 (Int.ofNat i)] false none s = .ret (.int .i64 (Int.ofNat (i + lead (Nat.beq · 32) (l.drop i)))) s false := by
  obtain ⟨f', h⟩ := loop15 l hl (l.drop i) i (G15 l i) N s hi rfl (by rw [List.length_drop]; omega)
  exact w15_r0 l i _ f' _ s h
end
end Go.AM.S40.Sy
end
section
/- console.end. -/
set_option maxRecDepth 100000
namespace Go.AM.S40.Sy
open Go Go.Proofs
noncomputable section
noncomputable def b16 : Code := match Tryz.f16.body with | some c => c | none => .skip
noncomputable def B16 : Code := unL (unB (sl (sr b16)))
noncomputable def T16 (l : List Nat) (v : V) (f : Nat → V) : List V := fillT (some (.str l) :: some v :: none :: none :: some (.int .i64 0) :: nones (Tryz.f16.ntmps - 5)) f 0
theorem r16_p0 (l : List Nat) (i b : Nat) (f : Nat → V) (rc : Rec) (s : S) : ((!leI (Int.ofNat (len l)) (Int.ofNat i)) = true) → ((nth l i) = some b) → ((!eqI (Int.ofNat b) 32) = true) → exec B16 EA rc (T16 l (.int .i64 (Int.ofNat i)) f) m0 s = .norm (T16 l (.int .i64 (wrap .i64 ((Int.ofNat i) + 1))) (getV (up (T16 l (.int .i64 (Int.ofNat i)) f) [(1, .int .i64 (wrap .i64 ((Int.ofNat i) + 1))), (5, .int .i64 (Int.ofNat i)), (6, .str l), (7, .int .i64 (Int.ofNat (len l))), (8, .bool true), (9, .bool true), (10, .str l), (11, .int .i64 (Int.ofNat i)), (12, .int .u8 (Int.ofNat b)), (13, .bool true), (14, .bool true), (15, .int .i64 (Int.ofNat i)), (16, .int .i64 (wrap .i64 ((Int.ofNat i) + 1)))]))) m0 s := by
  refine cast ?_ (codeQ_ok EA rc B16 (T16 l (.int .i64 (Int.ofNat i)) f) s [(3, .bl true), (3, .ix b), (0, .bl true)]); kernel_rfl
theorem r16_p1 (l : List Nat) (i b : Nat) (f : Nat → V) (rc : Rec) (s : S) : ((!leI (Int.ofNat (len l)) (Int.ofNat i)) = true) → ((nth l i) = some b) → ((!eqI (Int.ofNat b) 32) = false) → exec B16 EA rc (T16 l (.int .i64 (Int.ofNat i)) f) m0 s = .exit 0 (T16 l (.int .i64 (Int.ofNat i)) (getV (up (T16 l (.int .i64 (Int.ofNat i)) f) [(5, .int .i64 (Int.ofNat i)), (6, .str l), (7, .int .i64 (Int.ofNat (len l))), (8, .bool true), (9, .bool true), (10, .str l), (11, .int .i64 (Int.ofNat i)), (12, .int .u8 (Int.ofNat b)), (13, .bool false), (14, .bool false)]))) m0 s := by
  refine cast ?_ (codeQ_ok EA rc B16 (T16 l (.int .i64 (Int.ofNat i)) f) s [(3, .bl true), (3, .ix b), (0, .bl false)]); kernel_rfl
theorem r16_p2 (l : List Nat) (i b : Nat) (f : Nat → V) (rc : Rec) (s : S) : ((!leI (Int.ofNat (len l)) (Int.ofNat i)) = false) → exec B16 EA rc (T16 l (.int .i64 (Int.ofNat i)) f) m0 s = .exit 0 (T16 l (.int .i64 (Int.ofNat i)) (getV (up (T16 l (.int .i64 (Int.ofNat i)) f) [(5, .int .i64 (Int.ofNat i)), (6, .str l), (7, .int .i64 (Int.ofNat (len l))), (8, .bool false), (9, .bool false), (10, undef), (11, undef), (12, undef), (13, undef), (14, .bool false)]))) m0 s := by
  refine cast ?_ (codeQ_ok EA rc B16 (T16 l (.int .i64 (Int.ofNat i)) f) s [(3, .bl false)]); kernel_rfl
theorem loop16 (l : List Nat) (hl : l.length < 140737488355328) : ∀ (r : List Nat) (i : Nat) (f : Nat → V) (N : Nat) (s : S), i ≤ l.length → l.drop i = r → r.length < N →
    ∃ f', exec (.loop B16) EA (recN EA N) (T16 l (.int .i64 (Int.ofNat i)) f) m0 s = .exit 0 (T16 l (.int .i64 (Int.ofNat (i + lead (fun b => !Nat.beq b 32) r))) f') m0 s := by
  intro r
  induction r with
  | nil =>
    intro i f N s hle hd hN
    have hi : l.length ≤ i := drop_nil hd
    obtain rfl : i = l.length := by omega
    obtain ⟨N, rfl⟩ : ∃ n, N = n + 1 := ⟨N - 1, by simp at hN; omega⟩
    exact ⟨_, loop_exit (r16_p2 l l.length 0 f (recN EA (N + 1)) s (by rw [len_eq]; exact not_lt_self _))⟩
  | cons b r ih =>
    intro i f N s hle hd hN
    have hj : i < l.length := drop_lt hd
    have hd' : l.drop (i + 1) = r := drop_next hd
    obtain ⟨N, rfl⟩ : ∃ n, N = n + 1 := ⟨N - 1, by simp at hN; omega⟩
    have h1 : (!leI (Int.ofNat (len l)) (Int.ofNat i)) = true := by rw [len_eq]; exact lt_true hj
    have h2 : nth l i = some b := nth_drop hd
    cases hb : Nat.beq b 32 with
    | false =>
      have h := r16_p0 l i b f (recN EA (N + 1)) s h1 h2 (by show (!Nat.beq b 32) = true; rw [hb]; rfl)
      rw [wrap_next (by omega)] at h
      obtain ⟨f', h'⟩ := ih (i + 1) _ N s (by omega) hd' (by simpa using hN)
      refine ⟨f', (loop_norm h).trans ?_⟩
      rw [show i + lead (fun b => !Nat.beq b 32) (b :: r) = (i + 1) + lead (fun b => !Nat.beq b 32) r by simp only [lead, hb]; simp; omega]
      exact h'
    | true =>
      have h := r16_p1 l i b f (recN EA (N + 1)) s h1 h2 (by show (!Nat.beq b 32) = false; rw [hb]; rfl)
      rw [show i + lead (fun b => !Nat.beq b 32) (b :: r) = i by simp only [lead, hb]; simp]
      exact ⟨_, loop_exit h⟩
noncomputable def G16 (l : List Nat) (i : Nat) : Nat → V := getV (up (frame0 Tryz.f16 [.str l, .int .i64 (Int.ofNat i)]) [(4, .int .i64 0)])
theorem w16_r0 (l : List Nat) (i j : Nat) (f2 : Nat → V) (rc : Rec) (s : S) : (exec (.loop B16) EA rc (T16 l (.int .i64 (Int.ofNat i)) (G16 l i)) m0 s = .exit 0 (T16 l (.int .i64 (Int.ofNat j)) f2) m0 s) → doBody EA rc 16 [.str l, .int .i64 (Int.ofNat i)] false none s = .ret (.int .i64 (Int.ofNat j)) s false := by
  refine cast ?_ (doQ_ok EA rc 16 [.str l, .int .i64 (Int.ofNat i)] s [(1, .lp (.exit 0 (T16 l (.int .i64 (Int.ofNat j)) f2) m0 s))]); kernel_rfl
/-- end. -/
theorem do16 (l : List Nat) (i N : Nat) (s : S) (hl : l.length < 140737488355328) (hi : i ≤ l.length) (hN : l.length < N) :
    doBody EA (recN EA N) 16 [.str l, .int .i64 (Int.ofNat i)] false none s = .ret (.int .i64 (Int.ofNat (i + lead (fun b => !Nat.beq b 32) (l.drop i)))) s false := by
  obtain ⟨f', h⟩ := loop16 l hl (l.drop i) i (G16 l i) N s hi rfl (by rw [List.length_drop]; omega)
  exact w16_r0 l i _ f' _ s h
end
end Go.AM.S40.Sy
end
section
/- isText, numbered, skip, end: as calls. -/
set_option maxRecDepth 100000
namespace Go.AM.S40.Sy
open Go Go.Proofs
noncomputable section
theorem le_true {a b : Nat} (h : a ≤ b) : leI (Int.ofNat a) (Int.ofNat b) = true := by
  have : Int.ofNat a ≤ Int.ofNat b := by show (a : Int) ≤ (b : Int); omega
  rw [leI_eq, decide_eq_true this]
theorem le_false {a b : Nat} (h : b < a) : leI (Int.ofNat a) (Int.ofNat b) = false := by
  have : ¬ Int.ofNat a ≤ Int.ofNat b := by show ¬ (a : Int) ≤ (b : Int); omega
  rw [leI_eq, decide_eq_false this]
theorem ne_true {a b : Nat} (h : a ≠ b) : (!eqI (Int.ofNat a) (Int.ofNat b)) = true := by
  rw [eqI_nat]
  cases e : Nat.beq a b with
  | false => rfl
  | true => exact absurd (Nat.eq_of_beq_eq_true e) h
theorem ne_false {a : Nat} : (!eqI (Int.ofNat a) (Int.ofNat a)) = false := by
  rw [eqI_nat, show Nat.beq a a = true from Nat.beq_refl a]; rfl
theorem eq_true' {a : Nat} : eqI (Int.ofNat a) (Int.ofNat a) = true := by
  rw [eqI_nat]; exact Nat.beq_refl a
theorem eq_false' {a b : Nat} (h : a ≠ b) : eqI (Int.ofNat a) (Int.ofNat b) = false := by
  rw [eqI_nat]
  cases e : Nat.beq a b with
  | false => rfl
  | true => exact absurd (Nat.eq_of_beq_eq_true e) h
theorem wrap_pred {n : Nat} (h0 : 0 < n) (h : n < 140737488355328) : wrap .i64 (Int.ofNat n - 1) = Int.ofNat (n - 1) := by
  have : Int.ofNat n - 1 = Int.ofNat (n - 1) := by show (n : Int) - 1 = ((n - 1 : Nat) : Int); omega
  rw [this]; exact wrap_nat (by omega)
/-- A text that an expression may have. -/
def IsText (l : List Nat) : Prop := fstN oddB l 0 = none ∧ 0 < l.length ∧ l.length ≤ 490 ∧ nth l 0 ≠ some 32 ∧ nth l (l.length - 1) ≠ some 32
theorem nth_lt {α : Type} {l : List α} {i : Nat} (h : i < l.length) : ∃ x, nth l i = some x := by
  rw [nth_eq]; exact ⟨_, List.getElem?_eq_getElem h⟩
theorem do11 (l : List Nat) (N : Nat) (hl : l.length < 140737488355328) (hN : l.length + 3 < N) : ∃ b, doBody EA (recN EA N) 11 [.str l] false none s0 = .ret (.bool b) s0 false ∧ (b = true ↔ IsText l) := by
  obtain ⟨N, rfl⟩ : ∃ n, N = n + 1 := ⟨N - 1, by omega⟩
  have h := odd_at l N (mkS 0 []) hl (by omega)
  have e0 : ¬ 0 < l.length → (!leI (Int.ofNat (len l)) 0) = false := fun h => by rw [len_eq]; exact lt_false (by omega)
  have e1 : 0 < l.length → (!leI (Int.ofNat (len l)) 0) = true := fun h => by rw [len_eq]; exact lt_true (by omega)
  have e2 : ¬ l.length ≤ 490 → (leI (Int.ofNat (len l)) 490) = false := fun h => by rw [len_eq]; exact le_false (Nat.lt_of_not_le h)
  have e3 : l.length ≤ 490 → (leI (Int.ofNat (len l)) 490) = true := fun h => by rw [len_eq]; exact le_true h
  cases hf : fstN oddB l 0 with
  | some j =>
    rw [hf] at h
    refine ⟨false, ?_, ⟨(nofun), (fun k => by have := k.1; rw [hf] at this; cases this)⟩⟩
    by_cases c1 : 0 < l.length
    · by_cases c2 : l.length ≤ 490
      · exact w11_r0 l j _ 0 0 h (e1 c1) (e3 c2)
      · exact w11_r1 l j _ 0 0 h (e1 c1) (e2 c2)
    · exact w11_r2 l j _ 0 0 h (e0 c1)
  | none =>
    rw [hf] at h
    by_cases c1 : 0 < l.length
    · by_cases c2 : l.length ≤ 490
      · obtain ⟨x, hx⟩ := nth_lt c1
        obtain ⟨y, hy⟩ := nth_lt (l := l) (i := l.length - 1) (by omega)
        by_cases c3 : x = 32
        · subst c3
          exact ⟨false, w11_r5 l 0 _ 32 0 h (e1 c1) (e3 c2) hx ne_false, ⟨(nofun), fun k => absurd hx k.2.2.2.1⟩⟩
        · by_cases c4 : y = 32
          · subst c4
            exact ⟨false, w11_r4 l 0 _ x 32 h (e1 c1) (e3 c2) hx (ne_true c3) (by rw [len_eq]; exact wrap_pred c1 hl) (by rw [len_eq]; exact hy) ne_false, ⟨(nofun), fun k => absurd hy k.2.2.2.2⟩⟩
          · refine ⟨true, w11_r3 l 0 _ x y h (e1 c1) (e3 c2) hx (ne_true c3) (by rw [len_eq]; exact wrap_pred c1 hl) (by rw [len_eq]; exact hy) (ne_true c4), ⟨fun _ => ⟨hf, c1, c2, ?_, ?_⟩, fun _ => rfl⟩⟩
            · rw [hx]; intro k; injection k with k; exact c3 k
            · rw [hy]; intro k; injection k with k; exact c4 k
      · exact ⟨false, w11_r6 l 0 _ 0 0 h (e1 c1) (e2 c2), ⟨(nofun), fun k => absurd k.2.2.1 c2⟩⟩
    · exact ⟨false, w11_r7 l 0 _ 0 0 h (e0 c1), ⟨(nofun), fun k => absurd k.2.1 c1⟩⟩
theorem call11 (args : List V) (N : Nat) (s : S) : (recN EA (N + 1)).call 11 args s = callE EA (recN EA N) 11 args s := by kernel_rfl
theorem rsv_b (h : Tr B) (b : Bool) : rsvN h noBlk deep false (.bool b) = some (.bool b) := by kernel_rfl
theorem lit_b (b : Bool) : hasLit (.bool b) = false := by kernel_rfl
theorem text_at (l : List Nat) (N : Nat) (s : S) (hl : l.length < 140737488355328) (hN : l.length + 3 < N) : ∃ b, (recN EA (N + 1)).call 11 [.str l] s = .ret (.bool b) s false ∧ (b = true ↔ IsText l) := by
  obtain ⟨b, h, hb⟩ := do11 l N hl hN
  exact ⟨b, by rw [call11]; exact callE_at (rsv_str _ l) h (rsv_b ..) (lit_b ..), hb⟩
/-! ### numbers -/
def IsNum (l : List Nat) : Prop := 0 < l.length ∧ l.length ≤ 9 ∧ (1 < l.length → nth l 0 ≠ some 48) ∧ fstN offB l 0 = none
theorem fst_none {p : Nat → Bool} : ∀ {l : List Nat} {i : Nat}, fstN p l i = none → ∀ b ∈ l, p b = false := by
  intro l
  induction l with
  | nil => intro i h b hb; cases hb
  | cons x l ih =>
    intro i h b hb
    unfold fstN at h
    split at h
    · cases h
    · rename_i hx
      rcases List.mem_cons.1 hb with rfl | hb
      · simpa using hx
      · exact ih h b hb
theorem fst_of {p : Nat → Bool} : ∀ {l : List Nat} (i : Nat), (∀ b ∈ l, p b = false) → fstN p l i = none := by
  intro l
  induction l with
  | nil => intro i h; rfl
  | cons x l ih =>
    intro i h
    unfold fstN
    rw [if_neg (by rw [h x (List.mem_cons_self ..)]; decide)]
    exact ih (i + 1) fun b hb => h b (List.mem_cons_of_mem _ hb)
theorem off_dig {b : Nat} : offB b = false ↔ isDig b := by
  unfold offB isDig
  constructor
  · intro h
    split at h
    · rename_i h1
      have := Nat.le_of_ble_eq_true h1
      have h2 : Nat.ble b 57 = true := by simpa using h
      exact ⟨this, Nat.le_of_ble_eq_true h2⟩
    · cases h
  · intro h
    rw [if_pos (Nat.ble_eq_true_of_le h.1), Nat.ble_eq_true_of_le h.2]; rfl
theorem do19 (l : List Nat) (N : Nat) (hl : l.length < 140737488355328) (hN : l.length + 4 < N) :
    (IsNum l → ∃ s1, doBody EA (recN EA N) 19 [.str l] false none s0 = .ret (.tup [.int .i64 (Int.ofNat (valF 0 l)), .bool true]) s1 false) ∧ (¬ IsNum l → ∃ s1, doBody EA (recN EA N) 19 [.str l] false none s0 = .ret (.tup [.int .i64 0, .bool false]) s1 false) := by
  obtain ⟨N, rfl⟩ : ∃ n, N = n + 1 := ⟨N - 1, by omega⟩
  have e0 : l.length = 0 → eqI (Int.ofNat (len l)) 0 = true := fun h => by rw [len_eq, h]; rfl
  have e1 : 0 < l.length → eqI (Int.ofNat (len l)) 0 = false := fun h => by rw [len_eq]; exact eq_false' (b := 0) (by omega)
  have e2 : ¬ l.length ≤ 9 → (!leI (Int.ofNat (len l)) 9) = true := fun h => by rw [len_eq]; exact lt_true (Nat.lt_of_not_le h)
  have e3 : l.length ≤ 9 → (!leI (Int.ofNat (len l)) 9) = false := fun h => by rw [len_eq]; exact lt_false h
  have e4 : 1 < l.length → (!leI (Int.ofNat (len l)) 1) = true := fun h => by rw [len_eq]; exact lt_true h
  have e5 : ¬ 1 < l.length → (!leI (Int.ofNat (len l)) 1) = false := fun h => by rw [len_eq]; exact lt_false (Nat.le_of_not_lt h)
  by_cases c0 : 0 < l.length
  · by_cases c9 : l.length ≤ 9
    · have hf : (recN EA (N + 1)).call 23 [.sl 0 0 (len l) 1 none, .fn (.func 29) [] []] (mkS 1 [(0, .cells true 0 (mapL byteV l))]) = .ret (resF (fstN offB l 0)) (mkS 1 [(0, .cells true 0 (mapL byteV l))]) false := by
        rw [call23, len_eq]
        exact do23 offB 0 0 29 N true l _ hl call29 (by rfl) (by omega)
      by_cases c1 : 1 < l.length
      · obtain ⟨x, hx⟩ := nth_lt c0
        by_cases c2 : x = 48
        · subst c2
          exact ⟨fun k => absurd hx (k.2.2.1 c1), fun _ => ⟨_, w19_r2 l 0 0 _ 48 (e1 c0) (e3 c9) (e4 c1) hx eq_true'⟩⟩
        · cases ho : fstN offB l 0 with
          | some j =>
            rw [ho] at hf
            exact ⟨(fun k => by have := k.2.2.2; rw [ho] at this; cases this), fun _ => ⟨_, w19_r3 l j 0 _ x (e1 c0) (e3 c9) (e4 c1) hx (eq_false' c2) (room_le hl) hf⟩⟩
          | none =>
            rw [ho] at hf
            refine ⟨fun k => ⟨_, w19_r4 l 0 (valF 0 l) _ x (e1 c0) (e3 c9) (e4 c1) hx (eq_false' c2) (room_le hl) hf (atoi_at l N _ (by intro h; rw [h] at c0; cases c0) c9 (fun b hb => off_dig.1 (fst_none ho b hb)) (by omega))⟩, fun k => absurd ⟨c0, c9, fun _ h => ?_, ho⟩ k⟩
            rw [hx] at h; injection h with h; exact c2 h
      · cases ho : fstN offB l 0 with
        | some j =>
          rw [ho] at hf
          exact ⟨(fun k => by have := k.2.2.2; rw [ho] at this; cases this), fun _ => ⟨_, w19_r5 l j 0 _ 0 (e1 c0) (e3 c9) (e5 c1) (room_le hl) hf⟩⟩
        | none =>
          rw [ho] at hf
          exact ⟨fun k => ⟨_, w19_r6 l 0 (valF 0 l) _ 0 (e1 c0) (e3 c9) (e5 c1) (room_le hl) hf (atoi_at l N _ (by intro h; rw [h] at c0; cases c0) c9 (fun b hb => off_dig.1 (fst_none ho b hb)) (by omega))⟩, fun k => absurd ⟨c0, c9, fun h => absurd h c1, ho⟩ k⟩
    · exact ⟨fun k => absurd k.2.1 c9, fun _ => ⟨_, w19_r1 l 0 0 _ 0 (e1 c0) (e2 c9)⟩⟩
  · exact ⟨fun k => absurd k.1 c0, fun _ => ⟨_, w19_r0 l 0 0 _ 0 (e0 (by omega))⟩⟩
theorem call19 (args : List V) (N : Nat) (s : S) : (recN EA (N + 1)).call 19 args s = callE EA (recN EA N) 19 args s := by kernel_rfl
theorem num_yes (l : List Nat) (N : Nat) (s : S) (hl : l.length < 140737488355328) (hN : l.length + 4 < N) (h : IsNum l) : (recN EA (N + 1)).call 19 [.str l] s = .ret (.tup [.int .i64 (Int.ofNat (valF 0 l)), .bool true]) s false := by
  obtain ⟨s1, h1⟩ := (do19 l N hl hN).1 h
  rw [call19]; exact callE_at (rsv_str _ l) h1 (rsv_ib ..) (lit_ib ..)
theorem num_no (l : List Nat) (N : Nat) (s : S) (hl : l.length < 140737488355328) (hN : l.length + 4 < N) (h : ¬ IsNum l) : (recN EA (N + 1)).call 19 [.str l] s = .ret (.tup [.int .i64 0, .bool false]) s false := by
  obtain ⟨s1, h1⟩ := (do19 l N hl hN).2 h
  rw [call19]; exact callE_at (rsv_str _ l) h1 (rsv_ib ..) (lit_ib ..)
/-! ### skip, end -/
theorem call15 (args : List V) (N : Nat) (s : S) : (recN EA (N + 1)).call 15 args s = callE EA (recN EA N) 15 args s := by kernel_rfl
theorem call16 (args : List V) (N : Nat) (s : S) : (recN EA (N + 1)).call 16 args s = callE EA (recN EA N) 16 args s := by kernel_rfl
theorem rsv_si (h : Tr B) (l : List Nat) (n : Int) : rsvL (rsvN h noBlk deep false) [.str l, .int .i64 n] = some [.str l, .int .i64 n] := by kernel_rfl
theorem rsv_i (h : Tr B) (n : Int) : rsvN h noBlk deep false (.int .i64 n) = some (.int .i64 n) := by kernel_rfl
theorem lit_i (n : Int) : hasLit (.int .i64 n) = false := by kernel_rfl
/-- Where the first byte from i on that is no blank stands; that is a blank. -/
def skipF (l : List Nat) (i : Nat) : Nat := i + lead (Nat.beq · 32) (l.drop i)
def endF (l : List Nat) (i : Nat) : Nat := i + lead (fun b => !Nat.beq b 32) (l.drop i)
theorem skip_at (l : List Nat) (i N : Nat) (s : S) (hl : l.length < 140737488355328) (hi : i ≤ l.length) (hN : l.length < N) : (recN EA (N + 1)).call 15 [.str l, .int .i64 (Int.ofNat i)] s = .ret (.int .i64 (Int.ofNat (skipF l i))) s false := by
  rw [call15]; exact callE_at (rsv_si ..) (do15 l i N s0 hl hi hN) (rsv_i ..) (lit_i ..)
theorem end_at (l : List Nat) (i N : Nat) (s : S) (hl : l.length < 140737488355328) (hi : i ≤ l.length) (hN : l.length < N) : (recN EA (N + 1)).call 16 [.str l, .int .i64 (Int.ofNat i)] s = .ret (.int .i64 (Int.ofNat (endF l i))) s false := by
  rw [call16]; exact callE_at (rsv_si ..) (do16 l i N s0 hl hi hN) (rsv_i ..) (lit_i ..)
theorem skip_le {l : List Nat} {i : Nat} (h : i ≤ l.length) : i ≤ skipF l i ∧ skipF l i ≤ l.length := by
  have := lead_le (Nat.beq · 32) (l.drop i)
  rw [List.length_drop] at this
  unfold skipF; omega
theorem end_le {l : List Nat} {i : Nat} (h : i ≤ l.length) : i ≤ endF l i ∧ endF l i ≤ l.length := by
  have := lead_le (fun b => !Nat.beq b 32) (l.drop i)
  rw [List.length_drop] at this
  unfold endF; omega
end
end Go.AM.S40.Sy
end
section
/- strings.TrimRight, wrong. -/
set_option maxRecDepth 100000
namespace Go.AM.S40.Sy
open Go Go.Proofs
noncomputable section
noncomputable def q14_1  : S := mkS 1 [(0, .cells true 24 [.int .i64 0, .int .i64 0, .str []])]
theorem w14_r0 (n : Nat) (rc : Rec) : doBody EA rc 14 [.int .i64 (Int.ofNat n)] false none (mkS 0 []) = .ret (.tup [.agg [.int .i64 0, .int .i64 0, .str []], .int .i64 (Int.ofNat n), .int .i64 400]) q14_1 false := by
  refine cast ?_ (doQ_ok EA rc 14 [.int .i64 (Int.ofNat n)] (mkS 0 []) []); kernel_rfl
noncomputable def b25 : Code := match Tryz.f25.body with | some c => c | none => .skip
noncomputable def B25 : Code := unL (unB (sl (sr b25)))
noncomputable def T25 (l : List Nat) (f : Nat → V) : List V := fillT (some (.str l) :: some (.int .u8 32) :: none :: none :: some (.str []) :: nones (Tryz.f25.ntmps - 5)) f 0
theorem r25_p0 (l : List Nat) (f : Nat → V) (rc : Rec) (s : S) (x1 : Nat) : ((!leI (Int.ofNat (len l)) 0) = true) → ((wrap .i64 ((Int.ofNat (len l)) - 1)) = Int.ofNat ((len l) - 1)) → ((nth l ((len l) - 1)) = some x1) → ((eqI (Int.ofNat x1) 32) = true) → ((inB 0 ((len l) - 1) (len l) (len l)) = true) → exec B25 EA rc (T25 l f) m0 s = .norm (T25 (takeB (((len l) - 1) - 0) (dropN 0 l)) (getV (up (T25 l f) [(0, .str (takeB (((len l) - 1) - 0) (dropN 0 l))), (5, .str l), (6, .int .i64 (Int.ofNat (len l))), (7, .bool true), (8, .bool true), (9, .str l), (10, .str l), (11, .int .i64 (Int.ofNat (len l))), (12, .int .i64 (Int.ofNat ((len l) - 1))), (13, .int .u8 (Int.ofNat x1)), (14, .int .u8 32), (15, .bool true), (16, .bool true), (17, .str l), (18, .str l), (19, .int .i64 (Int.ofNat (len l))), (20, .int .i64 (Int.ofNat ((len l) - 1))), (21, .str (takeB (((len l) - 1) - 0) (dropN 0 l)))]))) m0 s := by
  have h_ : (((!leI (Int.ofNat (len l)) 0) = true) → ((wrap .i64 ((Int.ofNat (len l)) - 1)) = Int.ofNat ((len l) - 1)) → ((nth l ((len l) - 1)) = some x1) → ((eqI (Int.ofNat x1) 32) = true) → ((wrap .i64 ((Int.ofNat (len l)) - 1)) = Int.ofNat ((len l) - 1)) → ((inB 0 ((len l) - 1) (len l) (len l)) = true) → exec B25 EA rc (T25 l f) m0 s = .norm (T25 (takeB (((len l) - 1) - 0) (dropN 0 l)) (getV (up (T25 l f) [(0, .str (takeB (((len l) - 1) - 0) (dropN 0 l))), (5, .str l), (6, .int .i64 (Int.ofNat (len l))), (7, .bool true), (8, .bool true), (9, .str l), (10, .str l), (11, .int .i64 (Int.ofNat (len l))), (12, .int .i64 (Int.ofNat ((len l) - 1))), (13, .int .u8 (Int.ofNat x1)), (14, .int .u8 32), (15, .bool true), (16, .bool true), (17, .str l), (18, .str l), (19, .int .i64 (Int.ofNat (len l))), (20, .int .i64 (Int.ofNat ((len l) - 1))), (21, .str (takeB (((len l) - 1) - 0) (dropN 0 l)))]))) m0 s) := by refine cast ?_ (codeQ_ok EA rc B25 (T25 l f) s [(2, .bl true), (4, .nat ((len l) - 1)), (0, .ix x1), (1, .bl true), (4, .nat ((len l) - 1)), (0, .cut)]); kernel_rfl
  exact fun h_0 h_1 h_2 h_3 h_4 => h_ h_0 h_1 h_2 h_3 h_1 h_4
theorem r25_p1 (l : List Nat) (f : Nat → V) (rc : Rec) (s : S) (x1 : Nat) : ((!leI (Int.ofNat (len l)) 0) = true) → ((wrap .i64 ((Int.ofNat (len l)) - 1)) = Int.ofNat ((len l) - 1)) → ((nth l ((len l) - 1)) = some x1) → ((eqI (Int.ofNat x1) 32) = false) → exec B25 EA rc (T25 l f) m0 s = .exit 0 (T25 (l) (getV (up (T25 l f) [(5, .str l), (6, .int .i64 (Int.ofNat (len l))), (7, .bool true), (8, .bool true), (9, .str l), (10, .str l), (11, .int .i64 (Int.ofNat (len l))), (12, .int .i64 (Int.ofNat ((len l) - 1))), (13, .int .u8 (Int.ofNat x1)), (14, .int .u8 32), (15, .bool false), (16, .bool false)]))) m0 s := by
  refine cast ?_ (codeQ_ok EA rc B25 (T25 l f) s [(2, .bl true), (4, .nat ((len l) - 1)), (0, .ix x1), (1, .bl false)]); kernel_rfl
theorem r25_p2 (l : List Nat) (f : Nat → V) (rc : Rec) (s : S) (x1 : Nat) : ((!leI (Int.ofNat (len l)) 0) = false) → exec B25 EA rc (T25 l f) m0 s = .exit 0 (T25 (l) (getV (up (T25 l f) [(5, .str l), (6, .int .i64 (Int.ofNat (len l))), (7, .bool false), (8, .bool false), (9, undef), (10, undef), (11, undef), (12, undef), (13, undef), (14, undef), (15, undef), (16, .bool false)]))) m0 s := by
  refine cast ?_ (codeQ_ok EA rc B25 (T25 l f) s [(2, .bl false)]); kernel_rfl
/-- A text without the blanks at its end. -/
def trimR (l : List Nat) : List Nat := (l.reverse.dropWhile (Nat.beq · 32)).reverse
theorem trim_cut {l : List Nat} {x : Nat} : trimR (l ++ [x]) = if x = 32 then trimR l else l ++ [x] := by
  unfold trimR
  rw [List.reverse_append]
  show ((x :: l.reverse).dropWhile (Nat.beq · 32)).reverse = _
  rw [List.dropWhile_cons]
  by_cases h : x = 32
  · subst h; rw [if_pos rfl, if_pos (by rfl)]
  · rw [if_neg h, if_neg (by intro k; exact h (Nat.eq_of_beq_eq_true k))]
    simp
theorem inB_ok {a b n : Nat} (h : a ≤ b) (h' : b ≤ n) : inB a b n n = true := by
  unfold inB; rw [Nat.ble_eq_true_of_le h, Nat.ble_eq_true_of_le h', Nat.ble_eq_true_of_le (Nat.le_refl n)]; rfl
theorem last_is {l : List Nat} {x : Nat} : nth (l ++ [x]) ((l ++ [x]).length - 1) = some x := by
  rw [nth_eq, List.length_append]; simp
theorem loop25 : ∀ (n : Nat) (l : List Nat) (f : Nat → V) (N : Nat) (s : S), l.length = n → l.length < 140737488355328 → n < N →
    ∃ f', exec (.loop B25) EA (recN EA N) (T25 l f) m0 s = .exit 0 (T25 (trimR l) f') m0 s := by
  intro n
  induction n with
  | zero =>
    intro l f N s hn hl hN
    obtain rfl : l = [] := List.eq_nil_of_length_eq_zero hn
    obtain ⟨N, rfl⟩ : ∃ n, N = n + 1 := ⟨N - 1, by omega⟩
    have h := r25_p2 [] f (recN EA (N + 1)) s 0 rfl
    exact ⟨_, loop_exit h⟩
  | succ n ih =>
    intro l f N s hn hl hN
    obtain ⟨N, rfl⟩ : ∃ n, N = n + 1 := ⟨N - 1, by omega⟩
    obtain ⟨r, x, rfl⟩ : ∃ r x, l = r ++ [x] := by
      have hne : l ≠ [] := by intro h; rw [h] at hn; cases hn
      exact ⟨l.dropLast, l.getLast hne, (List.dropLast_concat_getLast hne).symm⟩
    have hr : r.length = n := by simpa using hn
    have h0 : (!leI (Int.ofNat (len (r ++ [x]))) 0) = true := by rw [len_eq, hn]; exact lt_true (Nat.succ_pos _)
    have hw : wrap .i64 (Int.ofNat (len (r ++ [x])) - 1) = Int.ofNat (len (r ++ [x]) - 1) := by rw [len_eq]; exact wrap_pred (by rw [hn]; omega) hl
    have hx : nth (r ++ [x]) (len (r ++ [x]) - 1) = some x := by rw [len_eq]; exact last_is
    rw [trim_cut]
    by_cases hb : x = 32
    · subst hb
      have h := r25_p0 (r ++ [32]) f (recN EA (N + 1)) s 32 h0 hw hx eq_true' (by rw [len_eq]; exact inB_ok (Nat.zero_le _) (Nat.sub_le ..))
      have e : takeB ((len (r ++ [32]) - 1) - 0) (dropN 0 (r ++ [32])) = r := by
        rw [takeB_eq, dropN_eq, len_eq, hn, List.drop_zero]; rw [← hr]; simp
      rw [e] at h
      rw [loop_norm h, if_pos rfl]
      exact ih r _ N s hr (by omega) (by omega)
    · have h := r25_p1 (r ++ [x]) f (recN EA (N + 1)) s x h0 hw hx (eq_false' (b := 32) hb)
      rw [if_neg hb]
      exact ⟨_, loop_exit h⟩
noncomputable def G25 (l : List Nat) : Nat → V := getV (up (frame0 Tryz.f25 [.str l, .int .u8 32]) [(4, .str [])])
theorem w25_r0 (l r : List Nat) (f2 : Nat → V) (rc : Rec) (s : S) : (exec (.loop B25) EA rc (T25 l (G25 l)) m0 s = .exit 0 (T25 r f2) m0 s) → doBody EA rc 25 [.str l, .int .u8 32] false none s = .ret (.str r) s false := by
  refine cast ?_ (doQ_ok EA rc 25 [.str l, .int .u8 32] s [(1, .lp (.exit 0 (T25 r f2) m0 s))]); kernel_rfl
theorem do25 (l : List Nat) (N : Nat) (s : S) (hl : l.length < 140737488355328) (hN : l.length < N) : doBody EA (recN EA N) 25 [.str l, .int .u8 32] false none s = .ret (.str (trimR l)) s false := by
  obtain ⟨f', h⟩ := loop25 l.length l (G25 l) N s rfl hl hN
  exact w25_r0 l (trimR l) f' _ s h
theorem call25 (args : List V) (N : Nat) (s : S) : (recN EA (N + 1)).call 25 args s = doBody EA (recN EA N) 25 args false none s := by kernel_rfl
theorem w18_r0 (l r : List Nat) (rc : Rec) : ((same l []) = true) → doBody EA rc 18 [.str l, .str [32]] false none (mkS 0 []) = .ret (.str l) (mkS 0 []) false := by
  refine cast ?_ (doQ_ok EA rc 18 [.str l, .str [32]] (mkS 0 []) [(2, .bl true)]); kernel_rfl
theorem w18_r1 (l r : List Nat) (rc : Rec) : ((same l []) = false) → (rc.call 25 [.str l, .int .u8 32] (mkS 0 []) = .ret (.str r) (mkS 0 []) false) → doBody EA rc 18 [.str l, .str [32]] false none (mkS 0 []) = .ret (.str r) (mkS 0 []) false := by
  refine cast ?_ (doQ_ok EA rc 18 [.str l, .str [32]] (mkS 0 []) [(2, .bl false), (15, .cl (.str r))]); kernel_rfl
theorem same_nil (l : List Nat) : same l [] = decide (l = []) := by cases l <;> rfl
theorem do18 (l : List Nat) (N : Nat) (hl : l.length < 140737488355328) (hN : l.length + 1 < N) : doBody EA (recN EA N) 18 [.str l, .str [32]] false none s0 = .ret (.str (trimR l)) s0 false := by
  obtain ⟨N, rfl⟩ : ∃ n, N = n + 1 := ⟨N - 1, by omega⟩
  by_cases h : l = []
  · subst h; exact w18_r0 [] [] _ rfl
  · refine w18_r1 l (trimR l) _ (by rw [same_nil]; exact decide_eq_false h) ?_
    rw [call25]; exact do25 l N _ hl (by omega)
theorem call18 (args : List V) (N : Nat) (s : S) : (recN EA (N + 1)).call 18 args s = callE EA (recN EA N) 18 args s := by kernel_rfl
theorem rsv_ss (h : Tr B) (l r : List Nat) : rsvL (rsvN h noBlk deep false) [.str l, .str r] = some [.str l, .str r] := by kernel_rfl
theorem rsv_s (h : Tr B) (l : List Nat) : rsvN h noBlk deep false (.str l) = some (.str l) := by kernel_rfl
theorem lit_s (l : List Nat) : hasLit (.str l) = false := by kernel_rfl
theorem trim_at (l : List Nat) (N : Nat) (s : S) (hl : l.length < 140737488355328) (hN : l.length + 1 < N) : (recN EA (N + 1)).call 18 [.str l, .str [32]] s = .ret (.str (trimR l)) s false := by
  rw [call18]; exact callE_at (rsv_ss ..) (do18 l N hl hN) (rsv_s ..) (lit_s ..)
noncomputable def wrongV (n : Nat) : V := .tup [.agg [.int .i64 0, .int .i64 0, .str []], .int .i64 (Int.ofNat n), .int .i64 400]
theorem call14 (args : List V) (N : Nat) (s : S) : (recN EA (N + 1)).call 14 args s = callE EA (recN EA N) 14 args s := by kernel_rfl
theorem rsv_i1 (h : Tr B) (n : Int) : rsvL (rsvN h noBlk deep false) [.int .i64 n] = some [.int .i64 n] := by kernel_rfl
theorem rsv_w (h : Tr B) (n : Nat) : rsvN h noBlk deep false (wrongV n) = some (wrongV n) := by kernel_rfl
theorem lit_w (n : Nat) : hasLit (wrongV n) = false := by kernel_rfl
theorem wrong_at (n N : Nat) (s : S) : (recN EA (N + 1)).call 14 [.int .i64 (Int.ofNat n)] s = .ret (wrongV n) s false := by
  rw [call14]; exact callE_at (rsv_i1 ..) (w14_r0 n _) (rsv_w ..) (lit_w ..)
end
end Go.AM.S40.Sy
end
section
/- Drawn regions, step by step. -/
set_option maxRecDepth 100000
namespace Go.AM.S40.Sy
open Go Go.Proofs
noncomputable section
theorem cut_pe (L : List PE) (j n k : Nat) (h : k = j + n) : dropN j L = app (takeB n (dropN j L)) (dropN k L) := by
  rw [h, app_eq, takeB_eq, dropN_eq, dropN_eq, ← List.drop_drop, List.take_append_drop]
section
variable {E : Env} {rc : Rec} {all : List Oper} {A B' C : List PE} {H : List HE} {T : List V} {m : M} {s : S} {Z R' : R} {ks : List It} {PL : List PE} {n : Nat}
theorem dop_at (e : B' = app A C) (ha : runD E rc all (app A C) H T m s = Z) (hz : Z = R') : runD E rc all B' H T m s = R' := by rw [e]; exact ha.trans hz
theorem d_done (h : dropN n PL = []) : goK E rc ks (runD E rc all (dropN n PL) H T m s) = goK E rc ks (.norm T m s) := by rw [h]; rfl
end
theorem boolC_tt (b : Bool) : boolC b false b = b := by cases b <;> rfl
theorem same_self : ∀ l : List Nat, same l l = true := by
  intro l
  induction l with
  | nil => rfl
  | cons x l ih =>
    show boolC (Nat.beq x x) false (same l l) = true
    rw [show Nat.beq x x = true from Nat.beq_refl x]; exact ih
theorem eqI_self (n : Int) : eqI n n = true := by cases n <;> exact Nat.beq_refl _
theorem eq_int (k : IntKind) (n : Int) : eqV (.int k n) (.int k n) = true := by
  show boolC (kindEq k k) false (eqI n n) = true
  rw [eqI_self]; cases k <;> rfl
theorem eq_str (l : List Nat) : eqV (.str l) (.str l) = true := same_self l
theorem eq_agg {c : List V} (h : eqVs c c = true) : eqV (.agg c) (.agg c) = true := h
theorem eqs_nil : eqVs [] [] = true := rfl
theorem eqs_cons {v : V} {c : List V} (h : eqV v v = true) (k : eqVs c c = true) : eqVs (v :: c) (v :: c) = true := by
  show boolC (eqV v v) false (eqVs c c) = true
  rw [h]; exact k
theorem boolC_go {b : Bool} {x : R} (h : b = true) : boolC b .fail x = x := by rw [h]; rfl
theorem rc_nil {mask : Nat} {s : S} : recheck mask s [] = true := rfl
theorem rc_cons {mask : Nat} {s : S} {i : Nat} {F : S → VS} {v : V} {H : List HE} (e : eqV v v = true) (h : F s = some (v, s)) (k : recheck mask s H = true) : recheck mask s ((i, F, v) :: H) = true := by
  show boolC (bit mask i) (boolC (optC (F s) false (fun p => eqV p.1 v)) false (recheck mask s H)) (recheck mask s H) = true
  rw [h, k]
  show boolC (bit mask i) (boolC (eqV v v) false true) true = true
  rw [e]; cases bit mask i <;> rfl
end
end Go.AM.S40.Sy
end
section
/- find over words; its two closures. -/
set_option maxRecDepth 100000
namespace Go.AM.S40.Sy
open Go Go.Proofs
noncomputable section
noncomputable def b9 : Code := match Tryz.f9.body with | some c => c | none => .skip
noncomputable def B9 : Code := unL (unB (sr (sl (sr b9))))
noncomputable def T9 (l : List W) (fv : V) (i : Int) (f : Nat → V) : List V := fillT (some (LW l) :: some fv :: none :: none :: some (.int .i64 0) :: some (.bool false) :: none :: none :: some (LW l) :: some (.int .i64 (Int.ofNat (len l))) :: some (.int .i64 i) :: nones (Tryz.f9.ntmps - 11)) f 0
noncomputable def T9r (i : Nat) (f : Nat → V) : List V := fillT (none :: none :: none :: none :: some (.int .i64 (Int.ofNat i)) :: some (.bool true) :: nones (Tryz.f9.ntmps - 6)) f 0

/-- What lies below n is as G says. -/
structure KS (n : Nat) (G : Nat → Option B) (s : S) : Prop where
  next : n ≤ s.next
  lo : s.lo ≤ s.next
  get : ∀ b, b < n → s.heap.get b = G b
theorem put_get (s : S) (a : Nat) (x : B) (b : Nat) : (s.put a x).heap.get b = if b = a then some x else s.heap.get b := by
  show (Tr.put s.heap a (some x)).get b = _
  rw [Tr.get_put]
theorem KS.new {n : Nat} {G : Nat → Option B} {s : S} (h : KS n G s) (x : B) : KS n G (s.new x) :=
  ⟨Nat.le_succ_of_le h.next, Nat.le_succ_of_le h.lo, fun b hb => by rw [new_get, if_neg (by have := h.next; omega)]; exact h.get b hb⟩
theorem KS.put {n : Nat} {G : Nat → Option B} {s : S} (h : KS n G s) {a : Nat} (ha : n ≤ a) (x : B) : KS n G (s.put a x) :=
  ⟨h.next, h.lo, fun b hb => by rw [put_get, if_neg (by omega)]; exact h.get b hb⟩
theorem flatW_drop : ∀ (l : List W) (i : Nat), dropN (i * 3) (flatW l) = flatW (l.drop i) := by
  intro l
  induction l with
  | nil => intro i; rw [dropN_eq]; show (([] : List V).drop _) = _; simp; rfl
  | cons w l ih =>
    intro i
    cases i with
    | zero => rfl
    | succ i =>
      have := ih i
      rw [dropN_eq] at this ⊢
      show ((cellsW w ++ flatW l).drop ((i + 1) * 3)) = flatW (l.drop i)
      rw [show (i + 1) * 3 = 3 + i * 3 by omega, ← List.drop_drop]
      exact this
theorem idx_W {l : List W} {i : Nat} {w : W} {r : List W} (hd : l.drop i = w :: r) : idxSl 3 (LW l) i = some (.lptr ((.str w.word) :: (.int .i64 (Int.ofNat w.kind)) :: (.int .i64 (Int.ofNat w.behind)) :: flatW r)) := by
  show boolC (Nat.blt i (len l)) none (some (V.lptr (dropN (i * 3) (flatW l)))) = _
  have hj := drop_lt hd
  rw [len_eq, show Nat.blt i l.length = true by rw [Nat.blt_eq]; exact hj, flatW_drop, hd]; rfl
theorem store_W {s : S} (h : s.lo ≤ s.next) (w : W) : storeV (s.new (.cells true 38 [.str [], .int .i64 0, .int .i64 0])) 3 [.str w.word, .int .i64 (Int.ofNat w.kind), .int .i64 (Int.ofNat w.behind)] (.ptr s.next 0) = some (undef, (s.new (.cells true 38 [.str [], .int .i64 0, .int .i64 0])).put s.next (.cells true 38 (cellsW w))) := by
  show bind (boolC (Nat.blt s.next (s.new (.cells true 38 [.str [], .int .i64 0, .int .i64 0])).lo) (storeBlk (s.new (.cells true 38 [.str [], .int .i64 0, .int .i64 0])) s.next 0 [.str w.word, .int .i64 (Int.ofNat w.kind), .int .i64 (Int.ofNat w.behind)] ((s.new (.cells true 38 [.str [], .int .i64 0, .int .i64 0])).heap.get s.next)) none) (fun s => some (undef, s)) = _
  have : Nat.blt s.next (s.new (.cells true 38 [.str [], .int .i64 0, .int .i64 0])).lo = false := by
    show Nat.blt s.next s.lo = false
    rw [Bool.eq_false_iff]; intro k; rw [Nat.blt_eq] at k; omega
  rw [this, new_get, if_pos rfl]; rfl
/-- The first word that is so. -/
def fndW (p : W → Bool) : List W → Nat → Option Nat
  | [], _ => none
  | w :: r, i => if p w = true then some i else fndW p r (i + 1)
theorem r9a_p0 (l : List W) (i : Nat) (ws : List Nat) (kd bh : Nat) (rr : List V) (f : Nat → V) (rc : Rec) (s : S) (s1 : S) : ((!leI (Int.ofNat (len l)) (Int.ofNat i)) = true) → ((idxSl 3 (LW l) i) = some (.lptr ((.str ws) :: (.int .i64 (Int.ofNat kd)) :: (.int .i64 (Int.ofNat bh)) :: rr))) → ((storeV (s.new (.cells true 38 [.str [], .int .i64 0, .int .i64 0])) 3 [.str ws, .int .i64 (Int.ofNat kd), .int .i64 (Int.ofNat bh)] (.ptr s.next 0)) = some (undef, s1)) → ((ldB (s1.heap.get s.next) 0 3 true) = some (.agg [.str ws, .int .i64 (Int.ofNat kd), .int .i64 (Int.ofNat bh)])) → (rc.call 10 [.agg [.str ws, .int .i64 (Int.ofNat kd), .int .i64 (Int.ofNat bh)], .ptr 0 0] s1 = .ret (.bool true) s1 false) → exec B9 EA rc (T9 l (.fn (.func 10) [] [.ptr 0 0]) (Int.ofNat i) f) m0 s = .ret (T9r i (getV (up (T9 l (.fn (.func 10) [] [.ptr 0 0]) (Int.ofNat i) f) [(4, .int .i64 (Int.ofNat i)), (5, .bool true), (6, .int .i64 (Int.ofNat i)), (7, .ptr s.next 0), (11, .bool true), (12, .int .i64 (Int.ofNat i)), (13, .lptr ((.str ws) :: (.int .i64 (Int.ofNat kd)) :: (.int .i64 (Int.ofNat bh)) :: rr)), (14, .agg [.str ws, .int .i64 (Int.ofNat kd), .int .i64 (Int.ofNat bh)]), (15, .fn (.func 10) [] [.ptr 0 0]), (16, .agg [.str ws, .int .i64 (Int.ofNat kd), .int .i64 (Int.ofNat bh)]), (17, .bool true), (18, .int .i64 (Int.ofNat i))]))) m0 s1 := by
  refine cast ?_ (codeQ_ok EA rc B9 (T9 l (.fn (.func 10) [] [.ptr 0 0]) (Int.ofNat i) f) s [(0, .bl true), (1, .il (.lptr ((.str ws) :: (.int .i64 (Int.ofNat kd)) :: (.int .i64 (Int.ofNat bh)) :: rr))), (3, .st s1), (1, .ld (.agg [.str ws, .int .i64 (Int.ofNat kd), .int .i64 (Int.ofNat bh)])), (0, .cl (.bool true))]); kernel_rfl
theorem r9a_p1 (l : List W) (i : Nat) (ws : List Nat) (kd bh : Nat) (rr : List V) (f : Nat → V) (rc : Rec) (s : S) (s1 : S) : ((!leI (Int.ofNat (len l)) (Int.ofNat i)) = true) → ((idxSl 3 (LW l) i) = some (.lptr ((.str ws) :: (.int .i64 (Int.ofNat kd)) :: (.int .i64 (Int.ofNat bh)) :: rr))) → ((storeV (s.new (.cells true 38 [.str [], .int .i64 0, .int .i64 0])) 3 [.str ws, .int .i64 (Int.ofNat kd), .int .i64 (Int.ofNat bh)] (.ptr s.next 0)) = some (undef, s1)) → ((ldB (s1.heap.get s.next) 0 3 true) = some (.agg [.str ws, .int .i64 (Int.ofNat kd), .int .i64 (Int.ofNat bh)])) → (rc.call 10 [.agg [.str ws, .int .i64 (Int.ofNat kd), .int .i64 (Int.ofNat bh)], .ptr 0 0] s1 = .ret (.bool false) s1 false) → exec B9 EA rc (T9 l (.fn (.func 10) [] [.ptr 0 0]) (Int.ofNat i) f) m0 s = .norm (T9 l (.fn (.func 10) [] [.ptr 0 0]) (wrap .i64 ((Int.ofNat i) + 1)) (getV (up (T9 l (.fn (.func 10) [] [.ptr 0 0]) (Int.ofNat i) f) [(6, .int .i64 (Int.ofNat i)), (7, .ptr s.next 0), (10, .int .i64 (wrap .i64 ((Int.ofNat i) + 1))), (11, .bool true), (12, .int .i64 (Int.ofNat i)), (13, .lptr ((.str ws) :: (.int .i64 (Int.ofNat kd)) :: (.int .i64 (Int.ofNat bh)) :: rr)), (14, .agg [.str ws, .int .i64 (Int.ofNat kd), .int .i64 (Int.ofNat bh)]), (15, .fn (.func 10) [] [.ptr 0 0]), (16, .agg [.str ws, .int .i64 (Int.ofNat kd), .int .i64 (Int.ofNat bh)]), (17, .bool false), (19, .int .i64 (wrap .i64 ((Int.ofNat i) + 1)))]))) m0 s1 := by
  refine cast ?_ (codeQ_ok EA rc B9 (T9 l (.fn (.func 10) [] [.ptr 0 0]) (Int.ofNat i) f) s [(0, .bl true), (1, .il (.lptr ((.str ws) :: (.int .i64 (Int.ofNat kd)) :: (.int .i64 (Int.ofNat bh)) :: rr))), (3, .st s1), (1, .ld (.agg [.str ws, .int .i64 (Int.ofNat kd), .int .i64 (Int.ofNat bh)])), (0, .cl (.bool false))]); kernel_rfl
theorem r9a_p2 (l : List W) (i : Nat) (ws : List Nat) (kd bh : Nat) (rr : List V) (f : Nat → V) (rc : Rec) (s : S) (s1 : S) : ((!leI (Int.ofNat (len l)) (Int.ofNat i)) = false) → exec B9 EA rc (T9 l (.fn (.func 10) [] [.ptr 0 0]) (Int.ofNat i) f) m0 s = .exit 0 (T9 l (.fn (.func 10) [] [.ptr 0 0]) (Int.ofNat i) (getV (up (T9 l (.fn (.func 10) [] [.ptr 0 0]) (Int.ofNat i) f) [(11, .bool false)]))) m0 s := by
  refine cast ?_ (codeQ_ok EA rc B9 (T9 l (.fn (.func 10) [] [.ptr 0 0]) (Int.ofNat i) f) s [(0, .bl false)]); kernel_rfl
noncomputable def G9a (l : List W) : Nat → V := getV (up (frame0 Tryz.f9 [(LW l), .fn (.func 10) [] [.ptr 0 0]]) [(4, .int .i64 0), (5, .bool false), (8, (LW l)), (9, .int .i64 (Int.ofNat (len l))), (10, .int .i64 0)])
theorem w9a_r0 (l : List W) (i : Nat) (f2 : Nat → V) (rc : Rec) (s s2 : S) : (exec (.loop B9) EA rc (T9 l (.fn (.func 10) [] [.ptr 0 0]) (Int.ofNat 0) (G9a l)) m0 s = .exit 0 (T9 l (.fn (.func 10) [] [.ptr 0 0]) (Int.ofNat (len l)) f2) m0 s2) → doBody EA rc 9 [(LW l), .fn (.func 10) [] [.ptr 0 0]] false none s = .ret (.tup [.int .i64 0, .bool false]) s2 false := by
  refine cast ?_ (doQ_ok EA rc 9 [(LW l), .fn (.func 10) [] [.ptr 0 0]] s [(5, .lp (.exit 0 (T9 l (.fn (.func 10) [] [.ptr 0 0]) (Int.ofNat (len l)) f2) m0 s2))]); kernel_rfl
theorem w9a_r1 (l : List W) (i : Nat) (f2 : Nat → V) (rc : Rec) (s s2 : S) : (exec (.loop B9) EA rc (T9 l (.fn (.func 10) [] [.ptr 0 0]) (Int.ofNat 0) (G9a l)) m0 s = .ret (T9r i f2) m0 s2) → doBody EA rc 9 [(LW l), .fn (.func 10) [] [.ptr 0 0]] false none s = .ret (.tup [.int .i64 (Int.ofNat i), .bool true]) s2 false := by
  refine cast ?_ (doQ_ok EA rc 9 [(LW l), .fn (.func 10) [] [.ptr 0 0]] s [(5, .lp (.ret (T9r i f2) m0 s2))]); kernel_rfl

theorem loop9a (p : W → Bool) (n : Nat) (G : Nat → Option B) (l : List W) (hl : l.length < 140737488355328) (hg : ∀ (w : W) (N : Nat) (s : S), KS n G s → (recN EA (N + 1)).call 10 [.agg [.str w.word, .int .i64 (Int.ofNat w.kind), .int .i64 (Int.ofNat w.behind)], .ptr 0 0] s = .ret (.bool (p w)) s false) : ∀ (r : List W) (i : Nat) (f : Nat → V) (N : Nat) (s : S), KS n G s → i ≤ l.length → l.drop i = r → r.length + 1 < N →
    match fndW p r i with
    | some j => ∃ (f' : Nat → V) (s' : S), exec (.loop B9) EA (recN EA N) (T9 l (.fn (.func 10) [] [.ptr 0 0]) (Int.ofNat i) f) m0 s = .ret (T9r j f') m0 s'
    | none => ∃ f' s', exec (.loop B9) EA (recN EA N) (T9 l (.fn (.func 10) [] [.ptr 0 0]) (Int.ofNat i) f) m0 s = .exit 0 (T9 l (.fn (.func 10) [] [.ptr 0 0]) (Int.ofNat l.length) f') m0 s' := by
  intro r
  induction r with
  | nil =>
    intro i f N s hs hle hd hN
    have hi : l.length ≤ i := drop_nil hd
    obtain rfl : i = l.length := by omega
    obtain ⟨N, rfl⟩ : ∃ n, N = n + 1 := ⟨N - 1, by simp at hN; omega⟩
    have h := r9a_p2 l l.length [] 0 0 [] f (recN EA (N + 1)) s s (by rw [len_eq]; exact not_lt_self _)
    exact ⟨_, _, loop_exit h⟩
  | cons w r ih =>
    intro i f N s hs hle hd hN
    have hj : i < l.length := drop_lt hd
    have hd' : l.drop (i + 1) = r := drop_next hd
    obtain ⟨N, rfl⟩ : ∃ n, N = n + 1 := ⟨N - 1, by simp at hN; omega⟩
    obtain ⟨N, rfl⟩ : ∃ n, N = n + 1 := ⟨N - 1, by simp at hN; omega⟩
    have h1 : (!leI (Int.ofNat (len l)) (Int.ofNat i)) = true := by rw [len_eq]; exact lt_true hj
    have hk : KS n G ((s.new (.cells true 38 [.str [], .int .i64 0, .int .i64 0])).put s.next (.cells true 38 (cellsW w))) := (hs.new _).put hs.next _
    have h4 : ldB (((s.new (.cells true 38 [.str [], .int .i64 0, .int .i64 0])).put s.next (.cells true 38 (cellsW w))).heap.get s.next) 0 3 true = some (.agg [.str w.word, .int .i64 (Int.ofNat w.kind), .int .i64 (Int.ofNat w.behind)]) := by rw [put_get, if_pos rfl]; rfl
    have h5 := hg w (N + 1) _ hk
    unfold fndW
    cases hb : p w with
    | true =>
      rw [if_pos rfl]
      rw [hb] at h5
      have h := r9a_p0 l i w.word w.kind w.behind (flatW r) f (recN EA (N + 1 + 1)) s _ h1 (idx_W hd) (store_W hs.lo w) h4 h5
      exact ⟨_, _, loop_ret h⟩
    | false =>
      rw [if_neg (by decide)]
      rw [hb] at h5
      have h := r9a_p1 l i w.word w.kind w.behind (flatW r) f (recN EA (N + 1 + 1)) s _ h1 (idx_W hd) (store_W hs.lo w) h4 h5
      rw [wrap_next (by omega)] at h
      have h6 := loop_norm h
      rw [h6]
      exact ih (i + 1) _ (N + 1) _ hk (by omega) hd' (by simpa using hN)
theorem do9a (p : W → Bool) (n : Nat) (G : Nat → Option B) (l : List W) (N : Nat) (s : S) (hl : l.length < 140737488355328) (hg : ∀ (w : W) (N : Nat) (s : S), KS n G s → (recN EA (N + 1)).call 10 [.agg [.str w.word, .int .i64 (Int.ofNat w.kind), .int .i64 (Int.ofNat w.behind)], .ptr 0 0] s = .ret (.bool (p w)) s false) (hs : KS n G s) (hN : l.length + 1 < N) :
    ∃ s', doBody EA (recN EA N) 9 [LW l, (.fn (.func 10) [] [.ptr 0 0])] false none s = .ret (resF (fndW p l 0)) s' false := by
  have h := loop9a p n G l hl hg l 0 (G9a l) N s hs (Nat.zero_le _) rfl hN
  cases hf : fndW p l 0 with
  | none =>
    rw [hf] at h
    obtain ⟨f', s', h⟩ := h
    rw [← len_eq] at h
    exact ⟨s', w9a_r0 l 0 f' _ s s' h⟩
  | some j =>
    rw [hf] at h
    obtain ⟨f', s', h⟩ := h
    exact ⟨s', w9a_r1 l j f' _ s s' h⟩
theorem r9b_p0 (l : List W) (i : Nat) (ws : List Nat) (kd bh : Nat) (rr : List V) (f : Nat → V) (rc : Rec) (s : S) (s1 : S) : ((!leI (Int.ofNat (len l)) (Int.ofNat i)) = true) → ((idxSl 3 (LW l) i) = some (.lptr ((.str ws) :: (.int .i64 (Int.ofNat kd)) :: (.int .i64 (Int.ofNat bh)) :: rr))) → ((storeV (s.new (.cells true 38 [.str [], .int .i64 0, .int .i64 0])) 3 [.str ws, .int .i64 (Int.ofNat kd), .int .i64 (Int.ofNat bh)] (.ptr s.next 0)) = some (undef, s1)) → ((ldB (s1.heap.get s.next) 0 3 true) = some (.agg [.str ws, .int .i64 (Int.ofNat kd), .int .i64 (Int.ofNat bh)])) → (rc.call 17 [.agg [.str ws, .int .i64 (Int.ofNat kd), .int .i64 (Int.ofNat bh)], .ptr 0 0, .ptr 2 0, .ptr 3 0] s1 = .ret (.bool true) s1 false) → exec B9 EA rc (T9 l (.fn (.func 17) [] [.ptr 0 0, .ptr 2 0, .ptr 3 0]) (Int.ofNat i) f) m0 s = .ret (T9r i (getV (up (T9 l (.fn (.func 17) [] [.ptr 0 0, .ptr 2 0, .ptr 3 0]) (Int.ofNat i) f) [(4, .int .i64 (Int.ofNat i)), (5, .bool true), (6, .int .i64 (Int.ofNat i)), (7, .ptr s.next 0), (11, .bool true), (12, .int .i64 (Int.ofNat i)), (13, .lptr ((.str ws) :: (.int .i64 (Int.ofNat kd)) :: (.int .i64 (Int.ofNat bh)) :: rr)), (14, .agg [.str ws, .int .i64 (Int.ofNat kd), .int .i64 (Int.ofNat bh)]), (15, .fn (.func 17) [] [.ptr 0 0, .ptr 2 0, .ptr 3 0]), (16, .agg [.str ws, .int .i64 (Int.ofNat kd), .int .i64 (Int.ofNat bh)]), (17, .bool true), (18, .int .i64 (Int.ofNat i))]))) m0 s1 := by
  refine cast ?_ (codeQ_ok EA rc B9 (T9 l (.fn (.func 17) [] [.ptr 0 0, .ptr 2 0, .ptr 3 0]) (Int.ofNat i) f) s [(0, .bl true), (1, .il (.lptr ((.str ws) :: (.int .i64 (Int.ofNat kd)) :: (.int .i64 (Int.ofNat bh)) :: rr))), (3, .st s1), (1, .ld (.agg [.str ws, .int .i64 (Int.ofNat kd), .int .i64 (Int.ofNat bh)])), (0, .cl (.bool true))]); kernel_rfl
theorem r9b_p1 (l : List W) (i : Nat) (ws : List Nat) (kd bh : Nat) (rr : List V) (f : Nat → V) (rc : Rec) (s : S) (s1 : S) : ((!leI (Int.ofNat (len l)) (Int.ofNat i)) = true) → ((idxSl 3 (LW l) i) = some (.lptr ((.str ws) :: (.int .i64 (Int.ofNat kd)) :: (.int .i64 (Int.ofNat bh)) :: rr))) → ((storeV (s.new (.cells true 38 [.str [], .int .i64 0, .int .i64 0])) 3 [.str ws, .int .i64 (Int.ofNat kd), .int .i64 (Int.ofNat bh)] (.ptr s.next 0)) = some (undef, s1)) → ((ldB (s1.heap.get s.next) 0 3 true) = some (.agg [.str ws, .int .i64 (Int.ofNat kd), .int .i64 (Int.ofNat bh)])) → (rc.call 17 [.agg [.str ws, .int .i64 (Int.ofNat kd), .int .i64 (Int.ofNat bh)], .ptr 0 0, .ptr 2 0, .ptr 3 0] s1 = .ret (.bool false) s1 false) → exec B9 EA rc (T9 l (.fn (.func 17) [] [.ptr 0 0, .ptr 2 0, .ptr 3 0]) (Int.ofNat i) f) m0 s = .norm (T9 l (.fn (.func 17) [] [.ptr 0 0, .ptr 2 0, .ptr 3 0]) (wrap .i64 ((Int.ofNat i) + 1)) (getV (up (T9 l (.fn (.func 17) [] [.ptr 0 0, .ptr 2 0, .ptr 3 0]) (Int.ofNat i) f) [(6, .int .i64 (Int.ofNat i)), (7, .ptr s.next 0), (10, .int .i64 (wrap .i64 ((Int.ofNat i) + 1))), (11, .bool true), (12, .int .i64 (Int.ofNat i)), (13, .lptr ((.str ws) :: (.int .i64 (Int.ofNat kd)) :: (.int .i64 (Int.ofNat bh)) :: rr)), (14, .agg [.str ws, .int .i64 (Int.ofNat kd), .int .i64 (Int.ofNat bh)]), (15, .fn (.func 17) [] [.ptr 0 0, .ptr 2 0, .ptr 3 0]), (16, .agg [.str ws, .int .i64 (Int.ofNat kd), .int .i64 (Int.ofNat bh)]), (17, .bool false), (19, .int .i64 (wrap .i64 ((Int.ofNat i) + 1)))]))) m0 s1 := by
  refine cast ?_ (codeQ_ok EA rc B9 (T9 l (.fn (.func 17) [] [.ptr 0 0, .ptr 2 0, .ptr 3 0]) (Int.ofNat i) f) s [(0, .bl true), (1, .il (.lptr ((.str ws) :: (.int .i64 (Int.ofNat kd)) :: (.int .i64 (Int.ofNat bh)) :: rr))), (3, .st s1), (1, .ld (.agg [.str ws, .int .i64 (Int.ofNat kd), .int .i64 (Int.ofNat bh)])), (0, .cl (.bool false))]); kernel_rfl
theorem r9b_p2 (l : List W) (i : Nat) (ws : List Nat) (kd bh : Nat) (rr : List V) (f : Nat → V) (rc : Rec) (s : S) (s1 : S) : ((!leI (Int.ofNat (len l)) (Int.ofNat i)) = false) → exec B9 EA rc (T9 l (.fn (.func 17) [] [.ptr 0 0, .ptr 2 0, .ptr 3 0]) (Int.ofNat i) f) m0 s = .exit 0 (T9 l (.fn (.func 17) [] [.ptr 0 0, .ptr 2 0, .ptr 3 0]) (Int.ofNat i) (getV (up (T9 l (.fn (.func 17) [] [.ptr 0 0, .ptr 2 0, .ptr 3 0]) (Int.ofNat i) f) [(11, .bool false)]))) m0 s := by
  refine cast ?_ (codeQ_ok EA rc B9 (T9 l (.fn (.func 17) [] [.ptr 0 0, .ptr 2 0, .ptr 3 0]) (Int.ofNat i) f) s [(0, .bl false)]); kernel_rfl
noncomputable def G9b (l : List W) : Nat → V := getV (up (frame0 Tryz.f9 [(LW l), .fn (.func 17) [] [.ptr 0 0, .ptr 2 0, .ptr 3 0]]) [(4, .int .i64 0), (5, .bool false), (8, (LW l)), (9, .int .i64 (Int.ofNat (len l))), (10, .int .i64 0)])
theorem w9b_r0 (l : List W) (i : Nat) (f2 : Nat → V) (rc : Rec) (s s2 : S) : (exec (.loop B9) EA rc (T9 l (.fn (.func 17) [] [.ptr 0 0, .ptr 2 0, .ptr 3 0]) (Int.ofNat 0) (G9b l)) m0 s = .exit 0 (T9 l (.fn (.func 17) [] [.ptr 0 0, .ptr 2 0, .ptr 3 0]) (Int.ofNat (len l)) f2) m0 s2) → doBody EA rc 9 [(LW l), .fn (.func 17) [] [.ptr 0 0, .ptr 2 0, .ptr 3 0]] false none s = .ret (.tup [.int .i64 0, .bool false]) s2 false := by
  refine cast ?_ (doQ_ok EA rc 9 [(LW l), .fn (.func 17) [] [.ptr 0 0, .ptr 2 0, .ptr 3 0]] s [(5, .lp (.exit 0 (T9 l (.fn (.func 17) [] [.ptr 0 0, .ptr 2 0, .ptr 3 0]) (Int.ofNat (len l)) f2) m0 s2))]); kernel_rfl
theorem w9b_r1 (l : List W) (i : Nat) (f2 : Nat → V) (rc : Rec) (s s2 : S) : (exec (.loop B9) EA rc (T9 l (.fn (.func 17) [] [.ptr 0 0, .ptr 2 0, .ptr 3 0]) (Int.ofNat 0) (G9b l)) m0 s = .ret (T9r i f2) m0 s2) → doBody EA rc 9 [(LW l), .fn (.func 17) [] [.ptr 0 0, .ptr 2 0, .ptr 3 0]] false none s = .ret (.tup [.int .i64 (Int.ofNat i), .bool true]) s2 false := by
  refine cast ?_ (doQ_ok EA rc 9 [(LW l), .fn (.func 17) [] [.ptr 0 0, .ptr 2 0, .ptr 3 0]] s [(5, .lp (.ret (T9r i f2) m0 s2))]); kernel_rfl

theorem loop9b (p : W → Bool) (n : Nat) (G : Nat → Option B) (l : List W) (hl : l.length < 140737488355328) (hg : ∀ (w : W) (N : Nat) (s : S), KS n G s → (recN EA (N + 1)).call 17 [.agg [.str w.word, .int .i64 (Int.ofNat w.kind), .int .i64 (Int.ofNat w.behind)], .ptr 0 0, .ptr 2 0, .ptr 3 0] s = .ret (.bool (p w)) s false) : ∀ (r : List W) (i : Nat) (f : Nat → V) (N : Nat) (s : S), KS n G s → i ≤ l.length → l.drop i = r → r.length + 1 < N →
    match fndW p r i with
    | some j => ∃ (f' : Nat → V) (s' : S), exec (.loop B9) EA (recN EA N) (T9 l (.fn (.func 17) [] [.ptr 0 0, .ptr 2 0, .ptr 3 0]) (Int.ofNat i) f) m0 s = .ret (T9r j f') m0 s'
    | none => ∃ f' s', exec (.loop B9) EA (recN EA N) (T9 l (.fn (.func 17) [] [.ptr 0 0, .ptr 2 0, .ptr 3 0]) (Int.ofNat i) f) m0 s = .exit 0 (T9 l (.fn (.func 17) [] [.ptr 0 0, .ptr 2 0, .ptr 3 0]) (Int.ofNat l.length) f') m0 s' := by
  intro r
  induction r with
  | nil =>
    intro i f N s hs hle hd hN
    have hi : l.length ≤ i := drop_nil hd
    obtain rfl : i = l.length := by omega
    obtain ⟨N, rfl⟩ : ∃ n, N = n + 1 := ⟨N - 1, by simp at hN; omega⟩
    have h := r9b_p2 l l.length [] 0 0 [] f (recN EA (N + 1)) s s (by rw [len_eq]; exact not_lt_self _)
    exact ⟨_, _, loop_exit h⟩
  | cons w r ih =>
    intro i f N s hs hle hd hN
    have hj : i < l.length := drop_lt hd
    have hd' : l.drop (i + 1) = r := drop_next hd
    obtain ⟨N, rfl⟩ : ∃ n, N = n + 1 := ⟨N - 1, by simp at hN; omega⟩
    obtain ⟨N, rfl⟩ : ∃ n, N = n + 1 := ⟨N - 1, by simp at hN; omega⟩
    have h1 : (!leI (Int.ofNat (len l)) (Int.ofNat i)) = true := by rw [len_eq]; exact lt_true hj
    have hk : KS n G ((s.new (.cells true 38 [.str [], .int .i64 0, .int .i64 0])).put s.next (.cells true 38 (cellsW w))) := (hs.new _).put hs.next _
    have h4 : ldB (((s.new (.cells true 38 [.str [], .int .i64 0, .int .i64 0])).put s.next (.cells true 38 (cellsW w))).heap.get s.next) 0 3 true = some (.agg [.str w.word, .int .i64 (Int.ofNat w.kind), .int .i64 (Int.ofNat w.behind)]) := by rw [put_get, if_pos rfl]; rfl
    have h5 := hg w (N + 1) _ hk
    unfold fndW
    cases hb : p w with
    | true =>
      rw [if_pos rfl]
      rw [hb] at h5
      have h := r9b_p0 l i w.word w.kind w.behind (flatW r) f (recN EA (N + 1 + 1)) s _ h1 (idx_W hd) (store_W hs.lo w) h4 h5
      exact ⟨_, _, loop_ret h⟩
    | false =>
      rw [if_neg (by decide)]
      rw [hb] at h5
      have h := r9b_p1 l i w.word w.kind w.behind (flatW r) f (recN EA (N + 1 + 1)) s _ h1 (idx_W hd) (store_W hs.lo w) h4 h5
      rw [wrap_next (by omega)] at h
      have h6 := loop_norm h
      rw [h6]
      exact ih (i + 1) _ (N + 1) _ hk (by omega) hd' (by simpa using hN)
theorem do9b (p : W → Bool) (n : Nat) (G : Nat → Option B) (l : List W) (N : Nat) (s : S) (hl : l.length < 140737488355328) (hg : ∀ (w : W) (N : Nat) (s : S), KS n G s → (recN EA (N + 1)).call 17 [.agg [.str w.word, .int .i64 (Int.ofNat w.kind), .int .i64 (Int.ofNat w.behind)], .ptr 0 0, .ptr 2 0, .ptr 3 0] s = .ret (.bool (p w)) s false) (hs : KS n G s) (hN : l.length + 1 < N) :
    ∃ s', doBody EA (recN EA N) 9 [LW l, (.fn (.func 17) [] [.ptr 0 0, .ptr 2 0, .ptr 3 0])] false none s = .ret (resF (fndW p l 0)) s' false := by
  have h := loop9b p n G l hl hg l 0 (G9b l) N s hs (Nat.zero_le _) rfl hN
  cases hf : fndW p l 0 with
  | none =>
    rw [hf] at h
    obtain ⟨f', s', h⟩ := h
    rw [← len_eq] at h
    exact ⟨s', w9b_r0 l 0 f' _ s s' h⟩
  | some j =>
    rw [hf] at h
    obtain ⟨f', s', h⟩ := h
    exact ⟨s', w9b_r1 l j f' _ s s' h⟩
end
end Go.AM.S40.Sy
end
section
/- The closures of Show and Read. -/
set_option maxRecDepth 100000
namespace Go.AM.S40.Sy
open Go Go.Proofs
noncomputable section
theorem w10_r0 (ws : List Nat) (kd bh : Nat) (K : Int) (rc : Rec) (s : S) : ((ldB ((s.new (.cells true 38 [.str ws, .int .i64 (Int.ofNat kd), .int .i64 (Int.ofNat bh)])).heap.get s.next) 1 1 false) = some (.int .i64 (Int.ofNat kd))) → ((ldB ((s.new (.cells true 38 [.str ws, .int .i64 (Int.ofNat kd), .int .i64 (Int.ofNat bh)])).heap.get 0) 0 1 false) = some (.int .i64 K)) → ((eqI (Int.ofNat kd) K) = true) → doBody EA rc 10 [.agg [.str ws, .int .i64 (Int.ofNat kd), .int .i64 (Int.ofNat bh)], .ptr 0 0] false none s = .ret (.bool true) (s.new (.cells true 38 [.str ws, .int .i64 (Int.ofNat kd), .int .i64 (Int.ofNat bh)])) false := by
  refine cast ?_ (doQ_ok EA rc 10 [.agg [.str ws, .int .i64 (Int.ofNat kd), .int .i64 (Int.ofNat bh)], .ptr 0 0] s [(3, .ld (.int .i64 (Int.ofNat kd))), (1, .ld (.int .i64 K)), (0, .bl true)]); kernel_rfl
theorem w10_r1 (ws : List Nat) (kd bh : Nat) (K : Int) (rc : Rec) (s : S) : ((ldB ((s.new (.cells true 38 [.str ws, .int .i64 (Int.ofNat kd), .int .i64 (Int.ofNat bh)])).heap.get s.next) 1 1 false) = some (.int .i64 (Int.ofNat kd))) → ((ldB ((s.new (.cells true 38 [.str ws, .int .i64 (Int.ofNat kd), .int .i64 (Int.ofNat bh)])).heap.get 0) 0 1 false) = some (.int .i64 K)) → ((eqI (Int.ofNat kd) K) = false) → doBody EA rc 10 [.agg [.str ws, .int .i64 (Int.ofNat kd), .int .i64 (Int.ofNat bh)], .ptr 0 0] false none s = .ret (.bool false) (s.new (.cells true 38 [.str ws, .int .i64 (Int.ofNat kd), .int .i64 (Int.ofNat bh)])) false := by
  refine cast ?_ (doQ_ok EA rc 10 [.agg [.str ws, .int .i64 (Int.ofNat kd), .int .i64 (Int.ofNat bh)], .ptr 0 0] s [(3, .ld (.int .i64 (Int.ofNat kd))), (1, .ld (.int .i64 K)), (0, .bl false)]); kernel_rfl
theorem w17_r0 (ws : List Nat) (kd bh : Nat) (l : List Nat) (a b : Nat) (rc : Rec) (s : S) : ((ldB ((s.new (.cells true 38 [.str ws, .int .i64 (Int.ofNat kd), .int .i64 (Int.ofNat bh)])).heap.get s.next) 0 1 false) = some (.str ws)) → ((ldB ((s.new (.cells true 38 [.str ws, .int .i64 (Int.ofNat kd), .int .i64 (Int.ofNat bh)])).heap.get 0) 0 1 false) = some (.str l)) → ((ldB ((s.new (.cells true 38 [.str ws, .int .i64 (Int.ofNat kd), .int .i64 (Int.ofNat bh)])).heap.get 2) 0 1 false) = some (.int .i64 (Int.ofNat a))) → ((ldB ((s.new (.cells true 38 [.str ws, .int .i64 (Int.ofNat kd), .int .i64 (Int.ofNat bh)])).heap.get 3) 0 1 false) = some (.int .i64 (Int.ofNat b))) → ((inB a b (len l) (len l)) = true) → ((same ws (takeB (b - a) (dropN a l))) = true) → doBody EA rc 17 [.agg [.str ws, .int .i64 (Int.ofNat kd), .int .i64 (Int.ofNat bh)], .ptr 0 0, .ptr 2 0, .ptr 3 0] false none s = .ret (.bool true) (s.new (.cells true 38 [.str ws, .int .i64 (Int.ofNat kd), .int .i64 (Int.ofNat bh)])) false := by
  refine cast ?_ (doQ_ok EA rc 17 [.agg [.str ws, .int .i64 (Int.ofNat kd), .int .i64 (Int.ofNat bh)], .ptr 0 0, .ptr 2 0, .ptr 3 0] s [(3, .ld (.str ws)), (0, .ld (.str l)), (0, .ld (.int .i64 (Int.ofNat a))), (0, .ld (.int .i64 (Int.ofNat b))), (0, .cut), (0, .bl true)]); kernel_rfl
theorem w17_r1 (ws : List Nat) (kd bh : Nat) (l : List Nat) (a b : Nat) (rc : Rec) (s : S) : ((ldB ((s.new (.cells true 38 [.str ws, .int .i64 (Int.ofNat kd), .int .i64 (Int.ofNat bh)])).heap.get s.next) 0 1 false) = some (.str ws)) → ((ldB ((s.new (.cells true 38 [.str ws, .int .i64 (Int.ofNat kd), .int .i64 (Int.ofNat bh)])).heap.get 0) 0 1 false) = some (.str l)) → ((ldB ((s.new (.cells true 38 [.str ws, .int .i64 (Int.ofNat kd), .int .i64 (Int.ofNat bh)])).heap.get 2) 0 1 false) = some (.int .i64 (Int.ofNat a))) → ((ldB ((s.new (.cells true 38 [.str ws, .int .i64 (Int.ofNat kd), .int .i64 (Int.ofNat bh)])).heap.get 3) 0 1 false) = some (.int .i64 (Int.ofNat b))) → ((inB a b (len l) (len l)) = true) → ((same ws (takeB (b - a) (dropN a l))) = false) → doBody EA rc 17 [.agg [.str ws, .int .i64 (Int.ofNat kd), .int .i64 (Int.ofNat bh)], .ptr 0 0, .ptr 2 0, .ptr 3 0] false none s = .ret (.bool false) (s.new (.cells true 38 [.str ws, .int .i64 (Int.ofNat kd), .int .i64 (Int.ofNat bh)])) false := by
  refine cast ?_ (doQ_ok EA rc 17 [.agg [.str ws, .int .i64 (Int.ofNat kd), .int .i64 (Int.ofNat bh)], .ptr 0 0, .ptr 2 0, .ptr 3 0] s [(3, .ld (.str ws)), (0, .ld (.str l)), (0, .ld (.int .i64 (Int.ofNat a))), (0, .ld (.int .i64 (Int.ofNat b))), (0, .cut), (0, .bl false)]); kernel_rfl
end
end Go.AM.S40.Sy
end
section
/- find over the words, as Show and Read call it. -/
set_option maxRecDepth 100000
namespace Go.AM.S40.Sy
open Go Go.Proofs
noncomputable section
theorem call9 (args : List V) (N : Nat) (s : S) : (recN EA (N + 1)).call 9 args s = backR (live s.heap) s (doBody EA (recN EA N) 9 args false none { s with lo := s.next }) := by kernel_rfl
theorem call10 (args : List V) (N : Nat) (s : S) : (recN EA (N + 1)).call 10 args s = backR (live s.heap) s (doBody EA (recN EA N) 10 args false none { s with lo := s.next }) := by kernel_rfl
theorem call17 (args : List V) (N : Nat) (s : S) : (recN EA (N + 1)).call 17 args s = backR (live s.heap) s (doBody EA (recN EA N) 17 args false none { s with lo := s.next }) := by kernel_rfl
theorem rsvk_b (h : Tr B) (k : Nat → Bool) (b : Bool) : rsvN h k deep false (.bool b) = some (.bool b) := by kernel_rfl
theorem rsvk_ib (h : Tr B) (k : Nat → Bool) (n : Int) (b : Bool) : rsvN h k deep false (.tup [.int .i64 n, .bool b]) = some (.tup [.int .i64 n, .bool b]) := by kernel_rfl
theorem rsvk_F (h : Tr B) (k : Nat → Bool) (o : Option Nat) : rsvN h k deep false (resF o) = some (resF o) := by cases o <;> exact rsvk_ib ..
theorem clo10 {n : Nat} {G : Nat → Option B} {ow : Bool} {ty : Nat} {K : Int} {rest : List V} (hn : 0 < n) (h0 : G 0 = some (.cells ow ty (.int .i64 K :: rest))) (w : W) (N : Nat) (s : S) (hs : KS n G s) :
    (recN EA (N + 1)).call 10 [.agg [.str w.word, .int .i64 (Int.ofNat w.kind), .int .i64 (Int.ofNat w.behind)], .ptr 0 0] s = .ret (.bool (eqI (Int.ofNat w.kind) K)) s false := by
  rw [call10]
  have g0 : s.heap.get 0 = some (.cells ow ty (.int .i64 K :: rest)) := (hs.get 0 hn).trans h0
  have hlt : 0 < s.next := Nat.lt_of_lt_of_le hn hs.next
  generalize hs' : ({ s with lo := s.next } : S) = s'
  have e1 : s'.next = s.next := by rw [← hs']
  have e2 : s'.heap = s.heap := by rw [← hs']
  have l1 : ldB ((s'.new (.cells true 38 [.str w.word, .int .i64 (Int.ofNat w.kind), .int .i64 (Int.ofNat w.behind)])).heap.get s'.next) 1 1 false = some (.int .i64 (Int.ofNat w.kind)) := by rw [new_get, if_pos rfl]; rfl
  have l2 : ldB ((s'.new (.cells true 38 [.str w.word, .int .i64 (Int.ofNat w.kind), .int .i64 (Int.ofNat w.behind)])).heap.get 0) 0 1 false = some (.int .i64 K) := by rw [new_get, if_neg (by omega), e2, g0]; rfl
  cases hb : eqI (Int.ofNat w.kind) K with
  | true => rw [w10_r0 w.word w.kind w.behind K _ s' l1 l2 hb]; exact backR_at (rsvk_b ..)
  | false => rw [w10_r1 w.word w.kind w.behind K _ s' l1 l2 hb]; exact backR_at (rsvk_b ..)
theorem clo17 {n : Nat} {G : Nat → Option B} {o0 o2 o3 : Bool} {t0 t2 t3 : Nat} {l : List Nat} {a b : Nat} (hn : 3 < n) (h0 : G 0 = some (.cells o0 t0 [.str l])) (h2 : G 2 = some (.cells o2 t2 [.int .i64 (Int.ofNat a)])) (h3 : G 3 = some (.cells o3 t3 [.int .i64 (Int.ofNat b)])) (hin : inB a b (len l) (len l) = true) (w : W) (N : Nat) (s : S) (hs : KS n G s) :
    (recN EA (N + 1)).call 17 [.agg [.str w.word, .int .i64 (Int.ofNat w.kind), .int .i64 (Int.ofNat w.behind)], .ptr 0 0, .ptr 2 0, .ptr 3 0] s = .ret (.bool (same w.word (takeB (b - a) (dropN a l)))) s false := by
  rw [call17]
  have g0 := (hs.get 0 (by omega)).trans h0
  have g2 := (hs.get 2 (by omega)).trans h2
  have g3 := (hs.get 3 (by omega)).trans h3
  have hlt : 3 < s.next := Nat.lt_of_lt_of_le hn hs.next
  generalize hs' : ({ s with lo := s.next } : S) = s'
  have e1 : s'.next = s.next := by rw [← hs']
  have e2 : s'.heap = s.heap := by rw [← hs']
  have l1 : ldB ((s'.new (.cells true 38 [.str w.word, .int .i64 (Int.ofNat w.kind), .int .i64 (Int.ofNat w.behind)])).heap.get s'.next) 0 1 false = some (.str w.word) := by rw [new_get, if_pos rfl]; rfl
  have l2 : ldB ((s'.new (.cells true 38 [.str w.word, .int .i64 (Int.ofNat w.kind), .int .i64 (Int.ofNat w.behind)])).heap.get 0) 0 1 false = some (.str l) := by rw [new_get, if_neg (by omega), e2, g0]; rfl
  have l3 : ldB ((s'.new (.cells true 38 [.str w.word, .int .i64 (Int.ofNat w.kind), .int .i64 (Int.ofNat w.behind)])).heap.get 2) 0 1 false = some (.int .i64 (Int.ofNat a)) := by rw [new_get, if_neg (by omega), e2, g2]; rfl
  have l4 : ldB ((s'.new (.cells true 38 [.str w.word, .int .i64 (Int.ofNat w.kind), .int .i64 (Int.ofNat w.behind)])).heap.get 3) 0 1 false = some (.int .i64 (Int.ofNat b)) := by rw [new_get, if_neg (by omega), e2, g3]; rfl
  cases hb : same w.word (takeB (b - a) (dropN a l)) with
  | true => rw [w17_r0 w.word w.kind w.behind l a b _ s' l1 l2 l3 l4 hin hb]; exact backR_at (rsvk_b ..)
  | false => rw [w17_r1 w.word w.kind w.behind l a b _ s' l1 l2 l3 l4 hin hb]; exact backR_at (rsvk_b ..)
theorem ks_at (M : S) : KS M.next M.heap.get { M with lo := M.next } := ⟨Nat.le_refl _, Nat.le_refl _, fun _ _ => rfl⟩
def kindP (K : Int) (w : W) : Bool := eqI (Int.ofNat w.kind) K
def wordP (x : List Nat) (w : W) : Bool := same w.word x
theorem wT_len : wT.length = 25 := rfl
theorem findK_at {M : S} {ow : Bool} {ty : Nat} {K : Int} {rest : List V} (hn : 0 < M.next) (h0 : M.heap.get 0 = some (.cells ow ty (.int .i64 K :: rest))) (N : Nat) (hN : 30 < N) :
    (recN EA (N + 1)).call 9 [LW wT, .fn (.func 10) [] [.ptr 0 0]] M = .ret (resF (fndW (kindP K) wT 0)) M false := by
  rw [call9]
  obtain ⟨s', h⟩ := do9a (kindP K) M.next M.heap.get wT N { M with lo := M.next } (by rw [wT_len]; decide) (fun w N s hs => clo10 hn h0 w N s hs) (ks_at M) (by rw [wT_len]; omega)
  rw [h]; exact backR_at (rsvk_F ..)
theorem findW_at {M : S} {o0 o2 o3 : Bool} {t0 t2 t3 : Nat} {l : List Nat} {a b : Nat} (hn : 3 < M.next) (h0 : M.heap.get 0 = some (.cells o0 t0 [.str l])) (h2 : M.heap.get 2 = some (.cells o2 t2 [.int .i64 (Int.ofNat a)])) (h3 : M.heap.get 3 = some (.cells o3 t3 [.int .i64 (Int.ofNat b)])) (hin : inB a b (len l) (len l) = true) (N : Nat) (hN : 30 < N) :
    (recN EA (N + 1)).call 9 [LW wT, .fn (.func 17) [] [.ptr 0 0, .ptr 2 0, .ptr 3 0]] M = .ret (resF (fndW (wordP (takeB (b - a) (dropN a l))) wT 0)) M false := by
  rw [call9]
  obtain ⟨s', h⟩ := do9b (wordP (takeB (b - a) (dropN a l))) M.next M.heap.get wT N { M with lo := M.next } (by rw [wT_len]; decide) (fun w N s hs => clo17 hn h0 h2 h3 hin w N s hs) (ks_at M) (by rw [wT_len]; omega)
  rw [h]; exact backR_at (rsvk_F ..)
/-- The words are known. -/
theorem words_at (N : Nat) (s : S) : (recN EA (N + 1)).call 8 [] s = .ret (LW wT) s false := by kernel_rfl
end
end Go.AM.S40.Sy
end
