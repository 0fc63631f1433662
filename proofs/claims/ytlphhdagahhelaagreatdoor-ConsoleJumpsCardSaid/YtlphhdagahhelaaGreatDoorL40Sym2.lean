import Derived.Test.YtlphhdagahhelaaGreatDoorL40Sym
set_option linter.all false
/- The law's own part: ends, the closure, find, ended. -/
set_option maxRecDepth 100000
namespace Go.AM.L40.Sy
open Go Go.Proofs
noncomputable section
noncomputable def rInt (n : Nat) : V := .int .i64 (Int.ofNat n)
noncomputable def resP (o : Option Nat) : V := match o with | some j => .tup [.int .i64 (Int.ofNat j), .int .i64 0] | none => .tup [.int .i64 0, .int .i64 3]
/-! ### ends, whole -/
noncomputable def F11 (L v : V) (d : Int) : List V := frame0 Tryz.f11 [L, v, .int .i64 d]
noncomputable def R0a : Code := sl b11
noncomputable def R1a : Code := sl (sl (sr b11))
noncomputable def R6a : Code := sl (sr (sr b11))
section
variable (L v : V) (d : Int) (f : Nat → V) (rc : Rec) (m : M) (s : S) (T : List V)
theorem b11_is : b11 = .seq R0a (.seq (.seq R1a (.block 0 (.loop B11))) (.seq R6a .ret)) := by kernel_rfl
theorem a0_is : exec R0a EZ rc (F11 L v d) m s = .norm (regT R0a (F11 L v d)) m s := by kernel_rfl
theorem a1_is : exec R1a EZ rc (regT R0a (F11 L v d)) m s = .norm (regT R1a (regT R0a (F11 L v d))) m s := by kernel_rfl
theorem a1_T : regT R1a (regT R0a (F11 L v d)) = T11 L d v (getV (regT R1a (regT R0a (F11 L v d)))) := by kernel_rfl
theorem a6_is : exec (.seq R6a .ret) EZ rc (T11 L d v f) m s = .ret (regT R6a (T11 L d v f)) m s := by kernel_rfl
theorem a6_6 : nth (regT R6a (T11 L d v f)) 6 = some (.int .i64 0) := by kernel_rfl
theorem a6_7 : nth (regT R6a (T11 L d v f)) 7 = some (.int .i64 3) := by kernel_rfl
theorem end11 : bodyEnd EZ rc Tryz.f11 (.ret T (bodyM false none) s) = optC (consO (nth T 6) (consO (nth T 7) (some []))) .fail (fun l => .ret (tupled l) s false) := by kernel_rfl
theorem do11 : doBody EZ rc 11 [L, v, .int .i64 d] false none s = bodyEnd EZ rc Tryz.f11 (exec b11 EZ rc (F11 L v d) (bodyM false none) s) := by kernel_rfl
theorem call11 (args : List V) : doCall EZ rc 11 args s = doBody EZ rc 11 args false none s := by kernel_rfl
end
theorem whole11 (l : List Ev) (k : Bool) (d : Int) (i N : Nat) (s : S) (hl : l.length < 1000000) (hi : i ≤ l.length) (hN : l.length < N) :
    doBody EZ (recN EZ N) 11 [LL l k, .int .i64 (Int.ofNat i), .int .i64 d] false none s = .ret (resP (fnd d (l.drop i) i)) s false := by
  rw [do11]
  have e1 : exec b11 EZ (recN EZ N) (F11 (LL l k) (.int .i64 (Int.ofNat i)) d) (bodyM false none) s = thenK (exec R0a EZ (recN EZ N) (F11 (LL l k) (.int .i64 (Int.ofNat i)) d) (bodyM false none) s) (exec (.seq (.seq R1a (.block 0 (.loop B11))) (.seq R6a .ret)) EZ (recN EZ N)) := by
    rw [b11_is]; rfl
  have e2 : ∀ T s, exec (.seq (.seq R1a (.block 0 (.loop B11))) (.seq R6a .ret)) EZ (recN EZ N) T (bodyM false none) s = thenK (thenK (exec R1a EZ (recN EZ N) T (bodyM false none) s) (fun T m s => blockK 0 (exec (.loop B11) EZ (recN EZ N) T m s))) (exec (.seq R6a .ret) EZ (recN EZ N)) := fun T s => rfl
  rw [e1, a0_is]
  show bodyEnd EZ _ _ (exec (.seq (.seq R1a (.block 0 (.loop B11))) (.seq R6a .ret)) EZ (recN EZ N) _ (bodyM false none) s) = _
  rw [e2, a1_is, a1_T]
  have h := loop11 l k d (bodyM false none) s hl (l.drop i) i (getV (regT R1a (regT R0a (F11 (LL l k) (.int .i64 (Int.ofNat i)) d)))) N hi rfl (by rw [List.length_drop]; omega)
  cases hf : fnd d (l.drop i) i with
  | some j =>
    rw [hf] at h
    obtain ⟨T, h1, h2, h3⟩ := h
    show bodyEnd EZ _ _ (thenK (blockK 0 (exec (.loop B11) EZ (recN EZ N) (T11 (LL l k) d (.int .i64 (Int.ofNat i)) _) (bodyM false none) s)) _) = _
    rw [h1]
    show bodyEnd EZ _ _ (.ret T (bodyM false none) s) = _
    rw [end11, h2, h3]; rfl
  | none =>
    rw [hf] at h
    obtain ⟨f', h1⟩ := h
    show bodyEnd EZ _ _ (thenK (blockK 0 (exec (.loop B11) EZ (recN EZ N) (T11 (LL l k) d (.int .i64 (Int.ofNat i)) _) (bodyM false none) s)) _) = _
    rw [h1]
    show bodyEnd EZ _ _ (exec (.seq R6a .ret) EZ (recN EZ N) (T11 (LL l k) d (.int .i64 (Int.ofNat l.length)) f') (bodyM false none) s) = _
    rw [a6_is, end11, a6_6, a6_7]; rfl

/-! ### memory -/
/-- What was there is there. -/
structure Gr (s s' : S) : Prop where
  next : s.next ≤ s'.next
  lo : s'.lo = s.lo
  get : ∀ b, b < s.next → s'.heap.get b = s.heap.get b
theorem Gr.refl (s : S) : Gr s s := ⟨Nat.le_refl _, rfl, fun _ _ => rfl⟩
theorem Gr.trans {s s' s'' : S} (h : Gr s s') (h' : Gr s' s'') : Gr s s'' := ⟨Nat.le_trans h.next h'.next, h'.lo.trans h.lo, fun b hb => (h'.get b (Nat.lt_of_lt_of_le hb h.next)).trans (h.get b hb)⟩
theorem new_get (s : S) (x : B) (b : Nat) : (s.new x).heap.get b = if b = s.next then some x else s.heap.get b := by
  show (Tr.put s.heap s.next (some x)).get b = _
  rw [Tr.get_put]
theorem put_get (s : S) (a : Nat) (x : B) (b : Nat) : (s.put a x).heap.get b = if b = a then some x else s.heap.get b := by
  show (Tr.put s.heap a (some x)).get b = _
  rw [Tr.get_put]
theorem Gr.new (s : S) (x : B) : Gr s (s.new x) := ⟨Nat.le_succ _, rfl, fun b hb => by rw [new_get, if_neg (by omega)]⟩
theorem Gr.put (s : S) (a : Nat) (x : B) {s0 : S} (h : Gr s0 s) (ha : s0.next ≤ a) : Gr s0 (s.put a x) := ⟨h.next, h.lo, fun b hb => by rw [put_get, if_neg (by omega)]; exact h.get b hb⟩
noncomputable def cellsE (e : Ev) : List V := [.bool e.lv, e.a1, e.a2, e.a3, .int .i64 e.d, e.b5, e.b6, e.b7, e.b8, e.b9, e.b10, e.b11, e.b12]
noncomputable def regTs (c : Code) (T : List V) (s : S) : List V := tOf (exec c EZ rec0 T (bodyM false none) s)
noncomputable def opsTs (os all : List Oper) (T : List V) (s : S) : List V := tOf (runOps os all EZ rec0 T (bodyM false none) s)
noncomputable def ti3 : TyI := ⟨1, 8, false, .int .i64, [.int .i64 0]⟩
noncomputable def ti4 : TyI := ⟨1, 1, false, .bool, [.bool false]⟩
theorem ti3_is : EZ.ti 3 = some ti3 := by kernel_rfl
theorem ti4_is : EZ.ti 4 = some ti4 := by kernel_rfl
theorem load1 {t : Nat} {ti : TyI} (ht : EZ.ti t = some ti) (h1 : ti.size = 1) (h2 : ti.agg = false) {T : List V} {s : S} {a : Operand} {b off tg : Nat} {o : Bool} {c r : List V} {x : V} (ha : opv EZ T a = some (.ptr b off)) (hb : s.heap.get b = some (.cells o tg c)) (hc : c.drop off = x :: r) :
    oLoad t a EZ T s = some (x, s) := by
  unfold oLoad
  rw [ht, ha]
  show ret1 (bind (bind (blkCells (s.heap.get b)) fun c => some (dropN off c)) fun c => bind (takeN ti.size c) (wrapCells ti.agg)) s = _
  rw [hb, h1, h2]
  show ret1 (bind (takeN 1 (dropN off c)) (wrapCells false)) s = _
  rw [dropN_eq, hc]; rfl
theorem loadE {T : List V} {s : S} {a : Operand} {b tg : Nat} {o : Bool} {e : Ev} (ha : opv EZ T a = some (.ptr b 0)) (hb : s.heap.get b = some (.cells o tg (cellsE e))) : oLoad 37 a EZ T s = some (.agg (cellsE e), s) := by
  unfold oLoad
  rw [ti37_is, ha]
  show ret1 (bind (bind (blkCells (s.heap.get b)) fun c => some (dropN 0 c)) fun c => bind (takeN 13 c) (wrapCells true)) s = _
  rw [hb]; rfl
theorem storeE {T : List V} {s : S} {a x : Operand} {b tg : Nat} {e : Ev} (ha : opv EZ T a = some (.ptr b 0)) (hx : opv EZ T x = some (.agg (cellsE e))) (hb : s.heap.get b = some (.cells true tg ti37.zero)) (hlo : s.lo ≤ b) (h1 : oneL (cellsE e) = true) :
    oStore 37 a x EZ T s = some (undef, s.put b (.cells true tg (cellsE e))) := by
  unfold oStore
  rw [ti37_is, ha, hx]
  show boolC (true && oneL (cellsE e)) none (bind (boolC (Nat.blt b s.lo) (storeBlk s b 0 (cellsE e) (s.heap.get b)) none) fun s => some (undef, s)) = _
  rw [h1, hb]
  have : Nat.blt b s.lo = false := by
    rw [Bool.eq_false_iff]; intro h; rw [Nat.blt_eq] at h; omega
  rw [this]
  rfl
/-! ### the closure -/
noncomputable def b15 : Code := match Tryz.f15.body with | some c => c | none => .skip
noncomputable def C0 : Code := sl b15
noncomputable def C1 : Code := sl (sr b15)
noncomputable def opsC : List Oper := opsL C1
section
variable (e : Ev) (p : V) (s : S) (rc : Rec) (m : M) (T : List V)
noncomputable def F15 : List V := frame0 Tryz.f15 [.agg (cellsE e), p]
theorem b15_is : b15 = .seq C0 (.seq C1 .ret) := by kernel_rfl
theorem c0_is : exec C0 EZ rc (F15 e p) m s = .norm (regTs C0 (F15 e p) s) m (s.new (.cells true 38 (cellsE e))) := by kernel_rfl
noncomputable def G1 : List V := opsT (takeB 1 opsC) opsC (regTs C0 (F15 e p) s)
theorem c1_is (s' : S) : exec C1 EZ rc (regTs C0 (F15 e p) s) m s' = optC (oLoad 4 (.tmp 4) EZ (G1 e p s) s') .fail (fun q => runE' (dropN 2 opsC) opsC rc (setD (G1 e p s) (some 5) q.1) m q.2) := by kernel_rfl
theorem g1_4 : opv EZ (G1 e p s) (.tmp 4) = some (.ptr s.next 0) := by kernel_rfl
theorem c1_F (s' : S) : runE' (dropN 2 opsC) opsC rc (setD (G1 e p s) (some 5) (.bool false)) m s' = .norm (opsT (dropN 2 opsC) opsC (setD (G1 e p s) (some 5) (.bool false))) m s' := by kernel_rfl
theorem c1_F3 : nth (opsT (dropN 2 opsC) opsC (setD (G1 e p s) (some 5) (.bool false))) 3 = some (.bool false) := by kernel_rfl
noncomputable def G2 : List V := opsT (takeB 2 (dropN 2 opsC)) opsC (setD (G1 e p s) (some 5) (.bool true))
theorem c1_T (s' : S) : runE' (dropN 2 opsC) opsC rc (setD (G1 e p s) (some 5) (.bool true)) m s' = optC (oLoad 3 (.tmp 7) EZ (G2 e p s) s') .fail (fun q => runE' (dropN 5 opsC) opsC rc (setD (G2 e p s) (some 8) q.1) m q.2) := by kernel_rfl
theorem g2_7 : opv EZ (G2 e p s) (.tmp 7) = some (.ptr s.next 4) := by kernel_rfl
variable (x y : Int)
noncomputable def G3 : List V := setD (G2 e p s) (some 8) (.int .i64 x)
theorem c1_T2 (s' : S) : runE' (dropN 5 opsC) opsC rc (setD (G2 e p s) (some 8) (.int .i64 x)) m s' = optC (oLoad 3 (.tmp 1) EZ (G3 e p s x) s') .fail (fun q => runE' (dropN 6 opsC) opsC rc (setD (G3 e p s x) (some 9) q.1) m q.2) := by kernel_rfl
theorem g3_1 : opv EZ (G3 e p s x) (.tmp 1) = some p := by kernel_rfl
noncomputable def G4 : List V := opsT (dropN 6 opsC) opsC (setD (G3 e p s x) (some 9) (.int .i64 y))
theorem c1_T3 (s' : S) : runE' (dropN 6 opsC) opsC rc (setD (G3 e p s x) (some 9) (.int .i64 y)) m s' = .norm (G4 e p s x y) m s' := by kernel_rfl
theorem g4_3 : nth (G4 e p s x y) 3 = some (.bool (eqI x y)) := by kernel_rfl
theorem end15 : bodyEnd EZ rc Tryz.f15 (.ret T (bodyM false none) s) = optC (consO (nth T 3) (some [])) .fail (fun l => .ret (tupled l) s false) := by kernel_rfl
theorem do15 : doBody EZ rc 15 [.agg (cellsE e), p] false none s = bodyEnd EZ rc Tryz.f15 (exec b15 EZ rc (F15 e p) (bodyM false none) s) := by kernel_rfl
theorem call15 (args : List V) : doCall EZ rc 15 args s = doBody EZ rc 15 args false none s := by kernel_rfl
end
theorem whole15 (e : Ev) (d : Int) (rc : Rec) (s : S) {pb tg : Nat} {o : Bool} (hp : s.heap.get pb = some (.cells o tg [.int .i64 d])) (hlt : pb < s.next) :
    doBody EZ rc 15 [.agg (cellsE e), .ptr pb 0] false none s = .ret (.bool (e.lv && eqI e.d d)) (s.new (.cells true 38 (cellsE e))) false := by
  rw [do15]
  have e1 : exec b15 EZ rc (F15 e (.ptr pb 0)) (bodyM false none) s = thenK (exec C0 EZ rc (F15 e (.ptr pb 0)) (bodyM false none) s) (fun T m s => thenK (exec C1 EZ rc T m s) (exec .ret EZ rc)) := by
    rw [b15_is]; rfl
  rw [e1, c0_is]
  show bodyEnd EZ _ _ (thenK (exec C1 EZ rc (regTs C0 (F15 e (.ptr pb 0)) s) (bodyM false none) (s.new (.cells true 38 (cellsE e)))) (exec .ret EZ rc)) = _
  have hn : (s.new (.cells true 38 (cellsE e))).heap.get s.next = some (.cells true 38 (cellsE e)) := by rw [new_get, if_pos rfl]
  have hp' : (s.new (.cells true 38 (cellsE e))).heap.get pb = some (.cells o tg [.int .i64 d]) := by rw [new_get, if_neg (by omega)]; exact hp
  rw [c1_is, load1 ti4_is rfl rfl (g1_4 ..) hn (show (cellsE e).drop 0 = .bool e.lv :: _ from rfl), optC_some]
  cases hlv : e.lv with
  | false =>
    rw [c1_F]
    show bodyEnd EZ _ _ (.ret _ (bodyM false none) _) = _
    rw [end15, c1_F3]; rfl
  | true =>
    rw [c1_T, load1 ti3_is rfl rfl (g2_7 ..) hn (show (cellsE e).drop 4 = .int .i64 e.d :: _ from rfl), optC_some]
    rw [c1_T2, load1 ti3_is rfl rfl (g3_1 ..) hp' (show ([.int .i64 d] : List V).drop 0 = .int .i64 d :: _ from rfl), optC_some, c1_T3]
    show bodyEnd EZ _ _ (.ret _ (bodyM false none) _) = _
    rw [end15, g4_3]; rfl
end
end Go.AM.L40.Sy
