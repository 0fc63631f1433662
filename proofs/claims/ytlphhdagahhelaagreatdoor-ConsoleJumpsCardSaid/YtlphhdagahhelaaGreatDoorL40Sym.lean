import Derived.Test.YtlphhdagahhelaaGreatDoorL40NJ
import Derived.Test.YtlphhdagahhelaaGreatDoorAm3
set_option linter.all false
/- The law's own part: what the reference's function that looks for an end comes to. -/
set_option maxRecDepth 100000
namespace Go.AM.L40.Sy
open Go Go.Proofs
noncomputable section
noncomputable def tZ : Tabs := [(4, [([], .bool true)])]
noncomputable def EZ : Env := layer E3 E3 0 tZ
structure Ev where
  lv : Bool
  a1 : V
  a2 : V
  a3 : V
  d : Int
  b5 : V
  b6 : V
  b7 : V
  b8 : V
  b9 : V
  b10 : V
  b11 : V
  b12 : V
noncomputable def flat (l : List Ev) : List V := List.rec (motive := fun _ => List V) [] (fun e _ ih => .bool e.lv :: e.a1 :: e.a2 :: e.a3 :: .int .i64 e.d :: e.b5 :: e.b6 :: e.b7 :: e.b8 :: e.b9 :: e.b10 :: e.b11 :: e.b12 :: ih) l
theorem flat_drop : ∀ (j : Nat) (l : List Ev), (flat l).drop (j * 13) = flat (l.drop j)
  | 0, l => by simp
  | j + 1, [] => by show List.drop _ [] = []; simp
  | j + 1, e :: r => by
    rw [Nat.succ_mul]
    show List.drop (j * 13 + 13) (flat (e :: r)) = flat (r.drop j)
    rw [← flat_drop j r]; rfl
theorem flat_len : ∀ l : List Ev, (flat l).length = l.length * 13
  | [] => rfl
  | e :: r => by
    show (flat r).length + 13 = (r.length + 1) * 13
    rw [flat_len r]; omega
noncomputable def LL (l : List Ev) (k : Bool) : V := .lsl (flat l) l.length k
noncomputable def ti22 : TyI := ⟨1, 24, false, .slice 37, [.nils]⟩
noncomputable def ti37 : TyI := ⟨13, 176, true, .struct [(0, 4), (1, 3), (2, 3), (3, 30), (4, 3), (5, 35), (12, 3)], [.bool false, .int .i64 0, .int .i64 0, .nils, .int .i64 0, .int .i64 0, .int .i64 0, .bool false, .nils, .str [], .nils, .nils, .int .i64 0]⟩
theorem ti22_is : EZ.ti 22 = some ti22 := by kernel_rfl
theorem ti37_is : EZ.ti 37 = some ti37 := by kernel_rfl
theorem drop_lt {α : Type} {l : List α} {j : Nat} {e : α} {r : List α} (hd : l.drop j = e :: r) : j < l.length := by
  rcases Nat.lt_or_ge j l.length with h | h
  · exact h
  · rw [List.drop_eq_nil_of_le h] at hd; cases hd
theorem idx_at {T : List V} {s : S} {x i : Operand} {l : List Ev} {k : Bool} {j : Nat} {e : Ev} {r : List Ev} (hx : opv EZ T x = some (LL l k)) (hi : opv EZ T i = some (.int .i64 (Int.ofNat j))) (hd : l.drop j = e :: r) :
    oIndexAddr 22 x i EZ T s = some (.lptr (flat (e :: r)), s) := by
  have hj := drop_lt hd
  unfold oIndexAddr
  rw [ti22_is, hx, hi]
  show ret1 (bind (EZ.ti 37) fun te => idxSl te.size (LL l k) j) s = _
  rw [ti37_is]
  show ret1 (boolC (Nat.blt j l.length) none (some (.lptr (dropN (j * 13) (flat l))))) s = _
  rw [boolC_eq, if_pos (by rw [Nat.blt_eq]; exact hj), dropN_eq, flat_drop, hd]
  rfl
noncomputable def tOf (r : R) : List V := match r with | .norm T _ _ => T | .ret T _ _ => T | .exit _ T _ _ => T | _ => []
noncomputable def getV (T : List V) (j : Nat) : V := optC (nth T j) undef fun v => v
noncomputable def nones (n : Nat) : List (Option V) := Nat.rec (motive := fun _ => List (Option V)) [] (fun _ ih => none :: ih) n
noncomputable def regT (c : Code) (T : List V) : List V := tOf (exec c EZ rec0 T (bodyM false none) s0)
noncomputable def opsT (os all : List Oper) (T : List V) : List V := tOf (runOps os all EZ rec0 T (bodyM false none) s0)
noncomputable def runE' (os all : List Oper) (rc : Rec) (T : List V) (m : M) (s : S) : R := runOps os all EZ rc T m s
noncomputable def condV (t : Bool) (a b : R) : R := if t then a else b
theorem exec_cond {rc : Rec} {T : List V} {m : M} {s : S} {t : Nat} {x y : Code} {b : Bool} (h : nth T t = some (.bool b)) : exec (.cond (.tmp t) x y) EZ rc T m s = if b = true then exec x EZ rc T m s else exec y EZ rc T m s := by
  show optC (bind (nth T t) boolOf) .fail (fun t => boolC t (exec y EZ rc T m s) (exec x EZ rc T m s)) = _
  rw [h]
  show boolC b _ _ = _
  rw [boolC_eq]
/-- The first end of this depth, from i on. -/
def fnd (d : Int) : List Ev → Nat → Option Nat
  | [], _ => none
  | e :: r, i => if (e.lv && eqI e.d d) = true then some i else fnd d r (i + 1)
theorem wrap_next {i : Nat} (h : i < 1000000) : wrap .i64 (Int.ofNat i + 1) = Int.ofNat (i + 1) := by
  rw [wrap_eq]
  have h1 : (Int.ofNat i : Int) = (i : Int) := rfl
  have h2 : (Int.ofNat (i + 1) : Int) = (i : Int) + 1 := rfl
  rw [h1, h2]
  simp [IntKind.wrap, IntKind.signed, IntKind.bits]
  omega
/-! ### foregoneref40.ends -/
noncomputable def b11 : Code := match Tryz.f11.body with | some c => c | none => .skip
noncomputable def B11 : Code := unL (unB (sr (sl (sr b11))))
noncomputable def R2c : Code := sl (sl B11)
noncomputable def R4c : Code := sl (unB (sl (sr B11)))
noncomputable def R5c : Code := match sr (unB (sl (sr B11))) with | .cond _ a _ => sl a | c => c
noncomputable def R3c : Code := sr (sr B11)
noncomputable def ops4 : List Oper := opsL R4c
noncomputable def lit11 (L : V) (d : Int) (v8 : V) : List (Option V) := some L :: none :: some (.int .i64 d) :: none :: none :: none :: some (.int .i64 0) :: some (.int .i64 0) :: some v8 :: nones (Tryz.f11.ntmps - 9)
noncomputable def T11 (L : V) (d : Int) (v8 : V) (f : Nat → V) : List V := fillT (lit11 L d v8) f 0
section
variable (l : List Ev) (k : Bool) (L v : V) (d : Int) (i : Nat) (f : Nat → V) (rc : Rec) (m : M) (s : S)
theorem B11_is : B11 = .seq (.seq R2c (.cond (.tmp 13) .skip (.exit 0))) (.seq (.block 1 (.seq R4c (.cond (.tmp 29) (.seq R5c .ret) .skip))) R3c) := by kernel_rfl
theorem r2_is : exec R2c EZ rc (T11 (LL l k) d (.int .i64 (Int.ofNat i)) f) m s = .norm (regT R2c (T11 (LL l k) d (.int .i64 (Int.ofNat i)) f)) m s := by kernel_rfl
theorem r2_13 : nth (regT R2c (T11 (LL l k) d (.int .i64 (Int.ofNat i)) f)) 13 = some (.bool (!leI (Int.ofNat l.length) (Int.ofNat i))) := by kernel_rfl
theorem r2_T : regT R2c (T11 (LL l k) d (.int .i64 (Int.ofNat i)) f) = T11 (LL l k) d (.int .i64 (Int.ofNat i)) (getV (regT R2c (T11 (LL l k) d (.int .i64 (Int.ofNat i)) f))) := by kernel_rfl
noncomputable def Z4 : List V := opsT (takeB 2 ops4) ops4 (T11 L d v f)
theorem r4_is : exec R4c EZ rc (T11 L d v f) m s = optC (oIndexAddr 22 (.tmp 16) (.tmp 17) EZ (Z4 L v d f) s) .fail (fun p => runE' (dropN 3 ops4) ops4 rc (setD (Z4 L v d f) (some 18) p.1) m p.2) := by kernel_rfl
theorem r4_16 : opv EZ (Z4 L v d f) (.tmp 16) = some L := by kernel_rfl
theorem r4_17 : opv EZ (Z4 L v d f) (.tmp 17) = some v := by kernel_rfl
end
section
variable (L v : V) (d : Int) (f : Nat → V) (rc : Rec) (m : M) (s : S) (a1 a2 a3 : V) (dd : Int) (b5 b6 b7 b8 b9 b10 b11 b12 : V) (r : List Ev)
noncomputable def ZF : List V := setD (Z4 L v d f) (some 18) (.lptr (flat (⟨false, a1, a2, a3, dd, b5, b6, b7, b8, b9, b10, b11, b12⟩ :: r)))
noncomputable def YF : List V := opsT (dropN 3 ops4) ops4 (ZF L v d f a1 a2 a3 dd b5 b6 b7 b8 b9 b10 b11 b12 r)
theorem r4_F : runE' (dropN 3 ops4) ops4 rc (ZF L v d f a1 a2 a3 dd b5 b6 b7 b8 b9 b10 b11 b12 r) m s = .norm (YF L v d f a1 a2 a3 dd b5 b6 b7 b8 b9 b10 b11 b12 r) m s := by kernel_rfl
theorem r4_F29 : nth (YF L v d f a1 a2 a3 dd b5 b6 b7 b8 b9 b10 b11 b12 r) 29 = some (.bool false) := by kernel_rfl
theorem r4_FT : YF L v d f a1 a2 a3 dd b5 b6 b7 b8 b9 b10 b11 b12 r = T11 L d v (getV (YF L v d f a1 a2 a3 dd b5 b6 b7 b8 b9 b10 b11 b12 r)) := by kernel_rfl
noncomputable def ZT : List V := setD (Z4 L v d f) (some 18) (.lptr (flat (⟨true, a1, a2, a3, dd, b5, b6, b7, b8, b9, b10, b11, b12⟩ :: r)))
noncomputable def ZT2 : List V := opsT (takeB 5 (dropN 3 ops4)) ops4 (ZT L v d f a1 a2 a3 dd b5 b6 b7 b8 b9 b10 b11 b12 r)
theorem r4_T : runE' (dropN 3 ops4) ops4 rc (ZT L v d f a1 a2 a3 dd b5 b6 b7 b8 b9 b10 b11 b12 r) m s = optC (oIndexAddr 22 (.tmp 22) (.tmp 23) EZ (ZT2 L v d f a1 a2 a3 dd b5 b6 b7 b8 b9 b10 b11 b12 r) s) .fail (fun p => runE' (dropN 9 ops4) ops4 rc (setD (ZT2 L v d f a1 a2 a3 dd b5 b6 b7 b8 b9 b10 b11 b12 r) (some 24) p.1) m p.2) := by kernel_rfl
theorem r4_T22 : opv EZ (ZT2 L v d f a1 a2 a3 dd b5 b6 b7 b8 b9 b10 b11 b12 r) (.tmp 22) = some L := by kernel_rfl
theorem r4_T23 : opv EZ (ZT2 L v d f a1 a2 a3 dd b5 b6 b7 b8 b9 b10 b11 b12 r) (.tmp 23) = some v := by kernel_rfl
noncomputable def ZT3 : List V := setD (ZT2 L v d f a1 a2 a3 dd b5 b6 b7 b8 b9 b10 b11 b12 r) (some 24) (.lptr (flat (⟨true, a1, a2, a3, dd, b5, b6, b7, b8, b9, b10, b11, b12⟩ :: r)))
noncomputable def YT : List V := opsT (dropN 9 ops4) ops4 (ZT3 L v d f a1 a2 a3 dd b5 b6 b7 b8 b9 b10 b11 b12 r)
theorem r4_T3 : runE' (dropN 9 ops4) ops4 rc (ZT3 L v d f a1 a2 a3 dd b5 b6 b7 b8 b9 b10 b11 b12 r) m s = .norm (YT L v d f a1 a2 a3 dd b5 b6 b7 b8 b9 b10 b11 b12 r) m s := by kernel_rfl
theorem r4_T29 : nth (YT L v d f a1 a2 a3 dd b5 b6 b7 b8 b9 b10 b11 b12 r) 29 = some (.bool (eqI dd d)) := by kernel_rfl
theorem r4_TT : YT L v d f a1 a2 a3 dd b5 b6 b7 b8 b9 b10 b11 b12 r = T11 L d v (getV (YT L v d f a1 a2 a3 dd b5 b6 b7 b8 b9 b10 b11 b12 r)) := by kernel_rfl
theorem r5_is : exec (.seq R5c .ret) EZ rc (T11 L d v f) m s = .ret (regT R5c (T11 L d v f)) m s := by kernel_rfl
theorem r5_6 : nth (regT R5c (T11 L d v f)) 6 = some v := by kernel_rfl
theorem r5_7 : nth (regT R5c (T11 L d v f)) 7 = some (.int .i64 0) := by kernel_rfl
variable (i : Nat)
theorem r3_is : exec R3c EZ rc (T11 L d (.int .i64 (Int.ofNat i)) f) m s = .norm (regT R3c (T11 L d (.int .i64 (Int.ofNat i)) f)) m s := by kernel_rfl
theorem r3_T : regT R3c (T11 L d (.int .i64 (Int.ofNat i)) f) = T11 L d (.int .i64 (wrap .i64 (Int.ofNat i + 1))) (getV (regT R3c (T11 L d (.int .i64 (Int.ofNat i)) f))) := by kernel_rfl
end
theorem r4_all (l : List Ev) (k : Bool) (d : Int) (i : Nat) (f : Nat → V) (rc : Rec) (m : M) (s : S) {e : Ev} {r : List Ev} (hd : l.drop i = e :: r) :
    ∃ f', exec R4c EZ rc (T11 (LL l k) d (.int .i64 (Int.ofNat i)) f) m s = .norm (T11 (LL l k) d (.int .i64 (Int.ofNat i)) f') m s ∧ nth (T11 (LL l k) d (.int .i64 (Int.ofNat i)) f') 29 = some (.bool (e.lv && eqI e.d d)) := by
  rw [r4_is, idx_at (r4_16 ..) (r4_17 ..) hd, optC_some]
  obtain ⟨lv, a1, a2, a3, dd, b5, b6, b7, b8, b9, b10, b11, b12⟩ := e
  cases lv with
  | false =>
    refine ⟨_, (r4_F ..).trans (congrArg (fun T => R.norm T m s) (r4_FT ..)), ?_⟩
    rw [← r4_FT]; exact r4_F29 ..
  | true =>
    refine ⟨getV (YT (LL l k) (.int .i64 (Int.ofNat i)) d f a1 a2 a3 dd b5 b6 b7 b8 b9 b10 b11 b12 r), ?_, ?_⟩
    · refine (r4_T ..).trans ?_
      rw [idx_at (r4_T22 ..) (r4_T23 ..) hd, optC_some]
      exact (r4_T3 ..).trans (congrArg (fun T => R.norm T m s) (r4_TT ..))
    · rw [← r4_TT]; exact r4_T29 ..
/-- A round. -/
theorem pre11 (l : List Ev) (k : Bool) (d : Int) (i : Nat) (f : Nat → V) (rc : Rec) (m : M) (s : S) {e : Ev} {r : List Ev} (hd : l.drop i = e :: r) :
    ∃ f', exec B11 EZ rc (T11 (LL l k) d (.int .i64 (Int.ofNat i)) f) m s = thenK (blockK 1 (if (e.lv && eqI e.d d) = true then exec (.seq R5c .ret) EZ rc (T11 (LL l k) d (.int .i64 (Int.ofNat i)) f') m s else .norm (T11 (LL l k) d (.int .i64 (Int.ofNat i)) f') m s)) (exec R3c EZ rc) := by
  have hj := drop_lt hd
  have h13 : (!leI (Int.ofNat l.length) (Int.ofNat i)) = true := by
    have : ¬ (Int.ofNat l.length ≤ Int.ofNat i) := by
      show ¬ ((l.length : Int) ≤ (i : Int)); omega
    rw [leI_eq, decide_eq_false this]; rfl
  have e1 : exec B11 EZ rc (T11 (LL l k) d (.int .i64 (Int.ofNat i)) f) m s = thenK (thenK (exec R2c EZ rc (T11 (LL l k) d (.int .i64 (Int.ofNat i)) f) m s) (exec (.cond (.tmp 13) .skip (.exit 0)) EZ rc)) (exec (.seq (.block 1 (.seq R4c (.cond (.tmp 29) (.seq R5c .ret) .skip))) R3c) EZ rc) := by
    rw [B11_is]; rfl
  have e2 : exec (.cond (.tmp 13) .skip (.exit 0)) EZ rc (regT R2c (T11 (LL l k) d (.int .i64 (Int.ofNat i)) f)) m s = .norm (regT R2c (T11 (LL l k) d (.int .i64 (Int.ofNat i)) f)) m s := by
    rw [exec_cond (r2_13 ..), if_pos h13]; rfl
  obtain ⟨f', h1, h2⟩ := r4_all l k d i (getV (regT R2c (T11 (LL l k) d (.int .i64 (Int.ofNat i)) f))) rc m s hd
  refine ⟨f', ?_⟩
  rw [e1, r2_is]
  show thenK (exec (.cond (.tmp 13) .skip (.exit 0)) EZ rc (regT R2c (T11 (LL l k) d (.int .i64 (Int.ofNat i)) f)) m s) _ = _
  rw [e2]
  show thenK (blockK 1 (thenK (exec R4c EZ rc (regT R2c (T11 (LL l k) d (.int .i64 (Int.ofNat i)) f)) m s) (exec (.cond (.tmp 29) (.seq R5c .ret) .skip) EZ rc))) (exec R3c EZ rc) = _
  rw [r2_T, h1]
  show thenK (blockK 1 (exec (.cond (.tmp 29) (.seq R5c .ret) .skip) EZ rc (T11 (LL l k) d (.int .i64 (Int.ofNat i)) f') m s)) (exec R3c EZ rc) = _
  rw [exec_cond h2]
  rfl
theorem round11a (l : List Ev) (k : Bool) (d : Int) (i : Nat) (f : Nat → V) (rc : Rec) (m : M) (s : S) {e : Ev} {r : List Ev} (hd : l.drop i = e :: r) (hb : (e.lv && eqI e.d d) = true) :
    ∃ T, exec B11 EZ rc (T11 (LL l k) d (.int .i64 (Int.ofNat i)) f) m s = .ret T m s ∧ nth T 6 = some (.int .i64 (Int.ofNat i)) ∧ nth T 7 = some (.int .i64 0) := by
  obtain ⟨f', h⟩ := pre11 l k d i f rc m s hd
  rw [h, if_pos hb, r5_is]
  exact ⟨_, rfl, r5_6 .., r5_7 ..⟩
theorem round11b (l : List Ev) (k : Bool) (d : Int) (i : Nat) (f : Nat → V) (rc : Rec) (m : M) (s : S) {e : Ev} {r : List Ev} (hd : l.drop i = e :: r) (hi : i < 1000000) (hb : (e.lv && eqI e.d d) = false) :
    ∃ f', exec B11 EZ rc (T11 (LL l k) d (.int .i64 (Int.ofNat i)) f) m s = .norm (T11 (LL l k) d (.int .i64 (Int.ofNat (i + 1))) f') m s := by
  obtain ⟨f', h⟩ := pre11 l k d i f rc m s hd
  rw [h, if_neg (by rw [hb]; decide)]
  refine ⟨getV (regT R3c (T11 (LL l k) d (.int .i64 (Int.ofNat i)) f')), ?_⟩
  show exec R3c EZ rc (T11 (LL l k) d (.int .i64 (Int.ofNat i)) f') m s = _
  rw [r3_is]
  refine congrArg (fun T => R.norm T m s) ((r3_T ..).trans ?_)
  rw [wrap_next hi]
theorem last11 (l : List Ev) (k : Bool) (d : Int) (i : Nat) (f : Nat → V) (rc : Rec) (m : M) (s : S) (hi : l.length ≤ i) : ∃ f', exec B11 EZ rc (T11 (LL l k) d (.int .i64 (Int.ofNat i)) f) m s = .exit 0 (T11 (LL l k) d (.int .i64 (Int.ofNat i)) f') m s := by
  have h13 : (!leI (Int.ofNat l.length) (Int.ofNat i)) = false := by
    have : Int.ofNat l.length ≤ Int.ofNat i := by
      show (l.length : Int) ≤ (i : Int); omega
    rw [leI_eq, decide_eq_true this]; rfl
  have e1 : exec B11 EZ rc (T11 (LL l k) d (.int .i64 (Int.ofNat i)) f) m s = thenK (thenK (exec R2c EZ rc (T11 (LL l k) d (.int .i64 (Int.ofNat i)) f) m s) (exec (.cond (.tmp 13) .skip (.exit 0)) EZ rc)) (exec (.seq (.block 1 (.seq R4c (.cond (.tmp 29) (.seq R5c .ret) .skip))) R3c) EZ rc) := by
    rw [B11_is]; rfl
  rw [e1, r2_is]
  refine ⟨getV (regT R2c (T11 (LL l k) d (.int .i64 (Int.ofNat i)) f)), ?_⟩
  show thenK (exec (.cond (.tmp 13) .skip (.exit 0)) EZ rc (regT R2c (T11 (LL l k) d (.int .i64 (Int.ofNat i)) f)) m s) _ = _
  rw [exec_cond (r2_13 ..), if_neg (by rw [h13]; decide)]
  show R.exit 0 (regT R2c (T11 (LL l k) d (.int .i64 (Int.ofNat i)) f)) m s = _
  exact congrArg (fun T => R.exit 0 T m s) (r2_T ..)
theorem loop11 (l : List Ev) (k : Bool) (d : Int) (m : M) (s : S) (hl : l.length < 1000000) : ∀ (r : List Ev) (i : Nat) (f : Nat → V) (N : Nat), i ≤ l.length → l.drop i = r → r.length < N →
    match fnd d r i with
    | some j => ∃ T, exec (.loop B11) EZ (recN EZ N) (T11 (LL l k) d (.int .i64 (Int.ofNat i)) f) m s = .ret T m s ∧ nth T 6 = some (.int .i64 (Int.ofNat j)) ∧ nth T 7 = some (.int .i64 0)
    | none => ∃ f', exec (.loop B11) EZ (recN EZ N) (T11 (LL l k) d (.int .i64 (Int.ofNat i)) f) m s = .exit 0 (T11 (LL l k) d (.int .i64 (Int.ofNat l.length)) f') m s := by
  intro r
  induction r with
  | nil =>
    intro i f N hle hd hN
    have hi : l.length ≤ i := by
      rcases Nat.lt_or_ge i l.length with h | h
      · rw [List.drop_eq_getElem_cons h] at hd; cases hd
      · exact h
    obtain rfl : i = l.length := by omega
    obtain ⟨f', h⟩ := last11 l k d l.length f (recN EZ N) m s hi
    refine ⟨f', ?_⟩
    show thenK (exec B11 EZ (recN EZ N) (T11 (LL l k) d (.int .i64 (Int.ofNat l.length)) f) m s) _ = _
    rw [h]; rfl
  | cons e r ih =>
    intro i f N hle hd hN
    have hj := drop_lt hd
    have hd' : l.drop (i + 1) = r := by
      rw [List.drop_eq_getElem_cons hj] at hd
      injection hd
    unfold fnd
    cases hb : (e.lv && eqI e.d d) with
    | true =>
      rw [if_pos rfl]
      obtain ⟨T, h1, h2, h3⟩ := round11a l k d i f (recN EZ N) m s hd hb
      refine ⟨T, ?_, h2, h3⟩
      show thenK (exec B11 EZ (recN EZ N) (T11 (LL l k) d (.int .i64 (Int.ofNat i)) f) m s) _ = _
      rw [h1]; rfl
    | false =>
      rw [if_neg (by decide)]
      obtain ⟨f', h1⟩ := round11b l k d i f (recN EZ N) m s hd (by omega) hb
      cases N with
      | zero => cases hN
      | succ N =>
        have h := ih (i + 1) f' N (by omega) hd' (by simpa using hN)
        have e1 : exec (.loop B11) EZ (recN EZ (N + 1)) (T11 (LL l k) d (.int .i64 (Int.ofNat i)) f) m s = exec (.loop B11) EZ (recN EZ N) (T11 (LL l k) d (.int .i64 (Int.ofNat (i + 1))) f') m s := by
          show thenK (exec B11 EZ (recN EZ (N + 1)) (T11 (LL l k) d (.int .i64 (Int.ofNat i)) f) m s) _ = _
          rw [h1]; rfl
        rw [e1]; exact h
end
end Go.AM.L40.Sy
