import Derived.Test.YtlphhdagahhelaaGreatDoorL40Sym3
set_option linter.all false
/- The law's own part: ended, and the four functions. -/
set_option maxRecDepth 100000
namespace Go.AM.L40.Sy
open Go Go.Proofs
noncomputable section
theorem runD_pure {E : Env} {rc : Rec} {all : List Oper} : ∀ (L : List PE) (H : List HE) (T : List V) (m : M) (s : S) {T1 : List V} {m1 : M} {s1 : S}, (∀ e ∈ L, 2 ≤ e.cls ∧ e.cls = cls e.o.op ∧ e.o.guard = none) → runI E rc (L.map fun e => e.o) (T, m, s) = some (T1, m1, s1) → runD E rc all L H T m s = .norm T1 m1 s1 := by
  intro L
  induction L with
  | nil => intro H T m s T1 m1 s1 _ h; cases h; rfl
  | cons y L ih =>
    intro H T m s T1 m1 s1 hL h
    obtain ⟨h1, h2, h3⟩ := hL y (List.mem_cons_self ..)
    have h : (stepO E rc y.o (T, m, s)).bind (runI E rc (L.map fun e => e.o)) = some (T1, m1, s1) := h
    cases hs : stepO E rc y.o (T, m, s) with
    | none => rw [hs] at h; cases h
    | some st =>
      rw [hs] at h
      obtain ⟨f, v, q1, q2, q3⟩ := step_pure (by rw [← h2]; exact h1) hs
      subst q3
      rw [runD_cons, dStep_want (by rw [h3]; rfl), dOne2 h1]
      unfold dPure
      rw [q1, optC_some, q2, optC_some]
      exact ih _ _ _ _ (fun e he => hL e (List.mem_cons_of_mem _ he)) h
theorem fnd_add (d : Int) : ∀ (r : List Ev) (i c : Nat), fnd d r (i + c) = (fnd d r i).map (· + c) := by
  intro r
  induction r with
  | nil => intro i c; rfl
  | cons e r ih =>
    intro i c
    unfold fnd
    split
    · rfl
    · rw [show i + c + 1 = i + 1 + c by omega]; exact ih (i + 1) c
theorem fnd_lt (d : Int) : ∀ (r : List Ev) (i j : Nat), fnd d r i = some j → j < i + r.length := by
  intro r
  induction r with
  | nil => intro i j h; cases h
  | cons e r ih =>
    intro i j h
    unfold fnd at h
    split at h
    · cases h; simp
    · have := ih (i + 1) j h; simp; omega
theorem wrap_add {i j : Nat} (h : i + j < 1000000) : wrap .i64 (Int.ofNat i + Int.ofNat j) = Int.ofNat (i + j) := by
  rw [wrap_eq]
  have h1 : (Int.ofNat i : Int) = (i : Int) := rfl
  have h2 : (Int.ofNat j : Int) = (j : Int) := rfl
  have h3 : (Int.ofNat (i + j) : Int) = (i : Int) + j := rfl
  rw [h1, h2, h3]
  simp [IntKind.wrap, IntKind.signed, IntKind.bits]
  omega
theorem slice_at {T : List V} {s : S} {x i : Operand} {l : List Ev} {k : Bool} {j : Nat} (hx : opv EZ T x = some (LL l k)) (hi : opv EZ T i = some (.int .i64 (Int.ofNat j))) (hj : j ≤ l.length) :
    oSlice 22 x (some i) none none EZ T s = some (LL (l.drop j) (clipOf k l.length l.length none), s) := by
  unfold oSlice
  rw [ti22_is, hx]
  have h1 : optN EZ T (some i) = some (some j) := by
    show optC (toNO (opv EZ T i)) none (fun n => some (some n)) = _
    rw [hi]; rfl
  have h2 : optN EZ T none = some none := rfl
  show (bind (optN EZ T (some i)) fun lo => bind (optN EZ T none) fun hi => bind (optN EZ T none) fun mx => ret1 (sliceK EZ s (.slice 37) (LL l k) lo hi mx) s) = _
  rw [h1, h2]
  show ret1 (bind (EZ.ti 37) fun te => sliceOf te.size (LL l k) (some j) none none) s = _
  rw [ti37_is]
  show ret1 (boolC (inSl (some j) none none l.length) none (some (.lsl (takeB ((l.length - j) * 13) (dropN (j * 13) (flat l))) (l.length - j) (clipOf k l.length l.length none)))) s = _
  have h3 : inSl (some j) none none l.length = true := by
    show boolC (Nat.ble j l.length) false (boolC (Nat.ble l.length l.length) false (Nat.ble l.length l.length)) = true
    have q1 : Nat.ble j l.length = true := by rw [Nat.ble_eq]; exact hj
    have q2 : Nat.ble l.length l.length = true := by rw [Nat.ble_eq]; exact Nat.le_refl _
    rw [q1, q2]; rfl
  rw [h3, dropN_eq, flat_drop, takeB_eq]
  have h4 : List.take ((l.length - j) * 13) (flat (l.drop j)) = flat (l.drop j) := by
    apply List.take_of_length_le
    rw [flat_len, List.length_drop]; exact Nat.le_refl _
  rw [h4]
  show some (V.lsl (flat (l.drop j)) (l.length - j) (clipOf k l.length l.length none), s) = some (V.lsl (flat (l.drop j)) (l.drop j).length (clipOf k l.length l.length none), s)
  rw [List.length_drop]
/-! ### ended -/
noncomputable def b10 : Code := match Tryz.f10.body with | some c => c | none => .skip
noncomputable def J0 : Code := sl b10
noncomputable def J1 : Code := sl (sr b10)
noncomputable def J2 : Code := sl (sl (sr (sr b10)))
noncomputable def J3 : Code := match sr (sl (sr (sr b10))) with | .cond _ a _ => sl a | c => c
noncomputable def J4 : Code := sl (sr (sr (sr b10)))
noncomputable def opsJ : List Oper := opsL J1
section
variable (L v : V) (d : Int) (rc : Rec) (m : M) (s s' : S) (w : V) (j i : Nat) (b : Bool) (T : List V)
noncomputable def F10 : List V := frame0 Tryz.f10 [L, v, .int .i64 d]
theorem b10_is : b10 = .seq J0 (.seq J1 (.seq (.seq J2 (.cond (.tmp 19) (.seq J3 .ret) .skip)) (.seq J4 .ret))) := by kernel_rfl
theorem j0_is : exec J0 EZ rc (F10 L v d) m s = .norm (regTs J0 (F10 L v d) s) m (s.new (.cells true 4 [.int .i64 d])) := by kernel_rfl
noncomputable def U1 : List V := opsT (takeB 2 opsJ) opsJ (regTs J0 (F10 L v d) s)
theorem j1_is : exec J1 EZ rc (regTs J0 (F10 L v d) s) m s' = optC (oSlice 22 (.tmp 11) (some (.tmp 12)) none none EZ (U1 L v d s) s') .fail (fun p => runE' (dropN 3 opsJ) opsJ rc (setD (U1 L v d s) (some 13) p.1) m p.2) := by kernel_rfl
theorem u1_11 : opv EZ (U1 L v d s) (.tmp 11) = some L := by kernel_rfl
theorem u1_12 : opv EZ (U1 L v d s) (.tmp 12) = some v := by kernel_rfl
noncomputable def U2 : List V := opsT (takeB 1 (dropN 3 opsJ)) opsJ (setD (U1 L v d s) (some 13) w)
theorem j1_2 : runE' (dropN 3 opsJ) opsJ rc (setD (U1 L v d s) (some 13) w) m s' = calledK (rc.call 14 [w, clo s.next] s') (U2 L v d s w) m (fun u m s'' => runE' (dropN 5 opsJ) opsJ rc (setD (U2 L v d s w) (some 15) u) m s'') := by kernel_rfl
noncomputable def U3 : List V := opsT (dropN 5 opsJ) opsJ (setD (U2 L v d s w) (some 15) (.tup [.int .i64 (Int.ofNat j), .bool b]))
theorem j1_3 : runE' (dropN 5 opsJ) opsJ rc (setD (U2 L v d s w) (some 15) (.tup [.int .i64 (Int.ofNat j), .bool b])) m s' = .norm (U3 L v d s w j b) m s' := by kernel_rfl
theorem j2_is : exec J2 EZ rc (U3 L v d s w j b) m s' = .norm (regT J2 (U3 L v d s w j b)) m s' := by kernel_rfl
theorem j2_19 : nth (regT J2 (U3 L v d s w j b)) 19 = some (.bool (!b)) := by kernel_rfl
theorem j3_is : exec (.seq J3 .ret) EZ rc (regT J2 (U3 L v d s w j b)) m s' = .ret (regT J3 (regT J2 (U3 L v d s w j b))) m s' := by kernel_rfl
theorem j3_6 : nth (regT J3 (regT J2 (U3 L v d s w j b))) 6 = some (.int .i64 0) := by kernel_rfl
theorem j3_7 : nth (regT J3 (regT J2 (U3 L v d s w j b))) 7 = some (.int .i64 3) := by kernel_rfl
theorem j4_is : exec (.seq J4 .ret) EZ rc (regT J2 (U3 L (.int .i64 (Int.ofNat i)) d s w j b)) m s' = .ret (regT J4 (regT J2 (U3 L (.int .i64 (Int.ofNat i)) d s w j b))) m s' := by kernel_rfl
theorem j4_6 : nth (regT J4 (regT J2 (U3 L (.int .i64 (Int.ofNat i)) d s w j b))) 6 = some (.int .i64 (wrap .i64 (Int.ofNat i + Int.ofNat j))) := by kernel_rfl
theorem j4_7 : nth (regT J4 (regT J2 (U3 L (.int .i64 (Int.ofNat i)) d s w j b))) 7 = some (.int .i64 0) := by kernel_rfl
theorem end10 : bodyEnd EZ rc Tryz.f10 (.ret T (bodyM false none) s) = optC (consO (nth T 6) (consO (nth T 7) (some []))) .fail (fun l => .ret (tupled l) s false) := by kernel_rfl
theorem do10 : doBody EZ rc 10 [L, v, .int .i64 d] false none s = bodyEnd EZ rc Tryz.f10 (exec b10 EZ rc (F10 L v d) (bodyM false none) s) := by kernel_rfl
theorem call10 (args : List V) : doCall EZ rc 10 args s = doBody EZ rc 10 args false none s := by kernel_rfl
end
theorem okE_drop {l : List Ev} (h : okE l) (j : Nat) : okE (l.drop j) := fun e he => h e (List.mem_of_mem_drop he)
theorem whole10 (l : List Ev) (k : Bool) (d : Int) (i N : Nat) (s : S) (hl : l.length < 500000) (ho : okE l) (hi : i ≤ l.length) (hN : l.length < N) (hlo : s.lo ≤ s.next) :
    ∃ s', Gr s s' ∧ doBody EZ (recN EZ (N + 2)) 10 [LL l k, .int .i64 (Int.ofNat i), .int .i64 d] false none s = .ret (resP (fnd d (l.drop i) i)) s' false := by
  rw [do10]
  generalize hrc : recN EZ (N + 2) = rc
  have e1 : ∀ T, exec b10 EZ rc T (bodyM false none) s = thenK (exec J0 EZ rc T (bodyM false none) s) (fun T m s => thenK (exec J1 EZ rc T m s) (fun T m s => thenK (thenK (exec J2 EZ rc T m s) (exec (.cond (.tmp 19) (.seq J3 .ret) .skip) EZ rc)) (exec (.seq J4 .ret) EZ rc))) := by
    intro T; rw [b10_is]; rfl
  let s1 := s.new (.cells true 4 [.int .i64 d])
  have hp : s1.heap.get s.next = some (.cells true 4 [.int .i64 d]) := by rw [new_get, if_pos rfl]
  obtain ⟨s2, hg, hc⟩ := whole14 (l.drop i) (clipOf k l.length l.length none) d s.next 4 true N s1 (by rw [List.length_drop]; omega) (okE_drop ho i) (by rw [List.length_drop]; omega) hp (Nat.lt_succ_self _) (Nat.le_succ_of_le hlo)
  have hcall : rc.call 14 [LL (l.drop i) (clipOf k l.length l.length none), clo s.next] s1 = .ret (resF (fnd d (l.drop i) 0)) s2 false := by
    rw [← hrc]
    show doCall EZ (recN EZ (N + 1)) 14 _ s1 = _
    rw [call14]; exact hc
  have e2 : ∀ (j : Nat) (b : Bool), resF (fnd d (l.drop i) 0) = .tup [.int .i64 (Int.ofNat j), .bool b] → exec b10 EZ rc (F10 (LL l k) (.int .i64 (Int.ofNat i)) d) (bodyM false none) s = thenK (exec (.cond (.tmp 19) (.seq J3 .ret) .skip) EZ rc (regT J2 (U3 (LL l k) (.int .i64 (Int.ofNat i)) d s (LL (l.drop i) (clipOf k l.length l.length none)) j b)) (bodyM false none) s2) (exec (.seq J4 .ret) EZ rc) := by
    intro j b hb
    rw [e1, j0_is]
    show thenK (exec J1 EZ rc (regTs J0 (F10 (LL l k) (.int .i64 (Int.ofNat i)) d) s) (bodyM false none) s1) _ = _
    rw [j1_is, slice_at (u1_11 ..) (u1_12 ..) hi, optC_some]
    show thenK (runE' (dropN 3 opsJ) opsJ rc (setD (U1 (LL l k) (.int .i64 (Int.ofNat i)) d s) (some 13) (LL (l.drop i) (clipOf k l.length l.length none))) (bodyM false none) s1) _ = _
    rw [j1_2, hcall, hb]
    show thenK (runE' (dropN 5 opsJ) opsJ rc (setD (U2 (LL l k) (.int .i64 (Int.ofNat i)) d s (LL (l.drop i) (clipOf k l.length l.length none))) (some 15) (.tup [.int .i64 (Int.ofNat j), .bool b])) (bodyM false none) s2) _ = _
    rw [j1_3]
    show thenK (thenK (exec J2 EZ rc (U3 (LL l k) (.int .i64 (Int.ofNat i)) d s (LL (l.drop i) (clipOf k l.length l.length none)) j b) (bodyM false none) s2) (exec (.cond (.tmp 19) (.seq J3 .ret) .skip) EZ rc)) (exec (.seq J4 .ret) EZ rc) = _
    rw [j2_is]
    rfl
  refine ⟨s2, (Gr.new _ _).trans hg, ?_⟩
  have hadd := fnd_add d (l.drop i) 0 i
  rw [Nat.zero_add] at hadd
  cases hf : fnd d (l.drop i) 0 with
  | some j =>
    rw [hf] at hadd
    rw [e2 j true (by rw [hf]; rfl), exec_cond (j2_19 ..), if_neg (by decide)]
    show bodyEnd EZ _ _ (exec (.seq J4 .ret) EZ rc _ (bodyM false none) s2) = _
    have hj := fnd_lt d (l.drop i) 0 j hf
    rw [List.length_drop] at hj
    rw [j4_is, end10, j4_6, j4_7, wrap_add (by omega), hadd]
    show CR.ret (.tup [.int .i64 (Int.ofNat (i + j)), .int .i64 0]) s2 false = .ret (.tup [.int .i64 (Int.ofNat (j + i)), .int .i64 0]) s2 false
    rw [Nat.add_comm]
  | none =>
    rw [hf] at hadd
    rw [e2 0 false (by rw [hf]; rfl), exec_cond (j2_19 ..), if_pos (by decide), j3_is]
    show bodyEnd EZ _ _ (.ret _ (bodyM false none) s2) = _
    rw [end10, j3_6, j3_7, hadd]; rfl
/-- What both ways to look for an end come to. -/
def EndOk (g : Nat) : Prop := ∀ (l : List Ev) (k : Bool) (d : Int) (i N : Nat) (s : S), l.length < 500000 → okE l → i ≤ l.length → l.length < N → s.lo ≤ s.next →
  ∃ s', Gr s s' ∧ doCall EZ (recN EZ (N + 2)) g [LL l k, .int .i64 (Int.ofNat i), .int .i64 d] s = .ret (resP (fnd d (l.drop i) i)) s' false
theorem endOk10 : EndOk 10 := by
  intro l k d i N s hl ho hi hN hlo
  rw [call10]; exact whole10 l k d i N s hl ho hi hN hlo
theorem endOk11 : EndOk 11 := by
  intro l k d i N s hl ho hi hN hlo
  rw [call11]
  exact ⟨s, Gr.refl s, whole11 l k d i (N + 2) s (by omega) hi (by omega)⟩
/-! ### function 5 -/
noncomputable def b5 : Code := match Tryz.f5.body with | some c => c | none => .skip
noncomputable def p50 : Code := sl b5
noncomputable def p51 : Code := sl (sl (sr b5))
noncomputable def p52 : Code := match sr (sl (sr b5)) with | .cond _ a _ => sl a | c => c
noncomputable def p5R : Code := sr (sr b5)
noncomputable def lit5 (L v : V) : List (Option V) := some L :: some v :: none :: none :: some (.int .i64 0) :: some (.int .i64 0) :: nones (Tryz.f5.ntmps - 6)
noncomputable def T5 (L v : V) (f : Nat → V) : List V := fillT (lit5 L v) f 0
section
variable (L v : V) (f : Nat → V) (rc : Rec) (m : M) (s : S) (T : List V) (l : List Ev) (k : Bool) (j : Nat)
noncomputable def F5 : List V := frame0 Tryz.f5 [L, v]
noncomputable def A5 : List V := regT p51 (regT p50 (F5 L v))
theorem b5_is : b5 = .seq p50 (.seq (.seq p51 (.cond (.tmp 13) (.seq p52 .ret) .skip)) p5R) := by kernel_rfl
theorem p50_is : exec p50 EZ rc (F5 L v) m s = .norm (regT p50 (F5 L v)) m s := by kernel_rfl
theorem p51_a : exec p51 EZ rc (regT p50 (F5 (LL l k) (.int .i64 (Int.ofNat j)))) m s = .norm (A5 (LL l k) (.int .i64 (Int.ofNat j))) m s := by kernel_rfl
theorem p51_b : exec p51 EZ rc (regT p50 (F5 (LL l k) (.int .i64 (Int.negSucc j)))) m s = .norm (A5 (LL l k) (.int .i64 (Int.negSucc j))) m s := by kernel_rfl
theorem p51_c : exec p51 EZ rc (regT p50 (F5 .nils (.int .i64 (Int.ofNat j)))) m s = .norm (A5 .nils (.int .i64 (Int.ofNat j))) m s := by kernel_rfl
theorem p51_d : exec p51 EZ rc (regT p50 (F5 .nils (.int .i64 (Int.negSucc j)))) m s = .norm (A5 .nils (.int .i64 (Int.negSucc j))) m s := by kernel_rfl
theorem A5_a : nth (A5 (LL l k) (.int .i64 (Int.ofNat j))) 13 = some (.bool (leI (Int.ofNat l.length) (Int.ofNat j))) := by kernel_rfl
theorem A5_b : nth (A5 (LL l k) (.int .i64 (Int.negSucc j))) 13 = some (.bool true) := by kernel_rfl
theorem A5_c : nth (A5 .nils (.int .i64 (Int.ofNat j))) 13 = some (.bool (leI (Int.ofNat 0) (Int.ofNat j))) := by kernel_rfl
theorem A5_d : nth (A5 .nils (.int .i64 (Int.negSucc j))) 13 = some (.bool true) := by kernel_rfl
theorem A5_Ta : A5 (LL l k) (.int .i64 (Int.ofNat j)) = T5 (LL l k) (.int .i64 (Int.ofNat j)) (getV (A5 (LL l k) (.int .i64 (Int.ofNat j)))) := by kernel_rfl
theorem A5_Tb : A5 (LL l k) (.int .i64 (Int.negSucc j)) = T5 (LL l k) (.int .i64 (Int.negSucc j)) (getV (A5 (LL l k) (.int .i64 (Int.negSucc j)))) := by kernel_rfl
theorem A5_Tc : A5 .nils (.int .i64 (Int.ofNat j)) = T5 .nils (.int .i64 (Int.ofNat j)) (getV (A5 .nils (.int .i64 (Int.ofNat j)))) := by kernel_rfl
theorem A5_Td : A5 .nils (.int .i64 (Int.negSucc j)) = T5 .nils (.int .i64 (Int.negSucc j)) (getV (A5 .nils (.int .i64 (Int.negSucc j)))) := by kernel_rfl
theorem p52_is : exec (.seq p52 .ret) EZ rc (T5 L v f) m s = .ret (regT p52 (T5 L v f)) m s := by kernel_rfl
theorem p52_4 : nth (regT p52 (T5 L v f)) 4 = some (.int .i64 0) := by kernel_rfl
theorem p52_5 : nth (regT p52 (T5 L v f)) 5 = some (.int .i64 1) := by kernel_rfl
theorem end5 : bodyEnd EZ rc Tryz.f5 (.ret T (bodyM false none) s) = optC (consO (nth T 4) (consO (nth T 5) (some []))) .fail (fun l => .ret (tupled l) s false) := by kernel_rfl
theorem do5 : doBody EZ rc 5 [L, v] false none s = bodyEnd EZ rc Tryz.f5 (exec b5 EZ rc (F5 L v) (bodyM false none) s) := by kernel_rfl
theorem call5 (args : List V) : doCall EZ rc 5 args s = doBody EZ rc 5 args false none s := by kernel_rfl
end
theorem b5_run (rc : Rec) (T : List V) (m : M) (s : S) : exec b5 EZ rc T m s = thenK (exec p50 EZ rc T m s) (fun T m s => thenK (thenK (exec p51 EZ rc T m s) (exec (.cond (.tmp 13) (.seq p52 .ret) .skip) EZ rc)) (exec p5R EZ rc)) := by
  rw [b5_is]; rfl
/-- No such event. -/
theorem bad5 {L v : V} {rc : Rec} (s : S) (h1 : exec p51 EZ rc (regT p50 (F5 L v)) (bodyM false none) s = .norm (A5 L v) (bodyM false none) s) (h2 : nth (A5 L v) 13 = some (.bool true)) (h3 : A5 L v = T5 L v (getV (A5 L v))) :
    doCall EZ rc 5 [L, v] s = .ret (.tup [.int .i64 0, .int .i64 1]) s false := by
  rw [call5, do5, b5_run, p50_is]
  show bodyEnd EZ rc Tryz.f5 (thenK (thenK (exec p51 EZ rc (regT p50 (F5 L v)) (bodyM false none) s) (exec (.cond (.tmp 13) (.seq p52 .ret) .skip) EZ rc)) (exec p5R EZ rc)) = _
  rw [h1]
  show bodyEnd EZ rc Tryz.f5 (thenK (exec (.cond (.tmp 13) (.seq p52 .ret) .skip) EZ rc (A5 L v) (bodyM false none) s) (exec p5R EZ rc)) = _
  rw [exec_cond h2, if_pos rfl]
  have e : exec (.seq p52 .ret) EZ rc (A5 L v) (bodyM false none) s = .ret (regT p52 (T5 L v (getV (A5 L v)))) (bodyM false none) s := (congrArg (fun T => exec (.seq p52 .ret) EZ rc T (bodyM false none) s) h3).trans (p52_is ..)
  rw [e]
  show bodyEnd EZ rc Tryz.f5 (.ret _ (bodyM false none) s) = _
  rw [end5, p52_4, p52_5]; rfl
/-- There is: on to the rest. -/
theorem good5 {l : List Ev} {k : Bool} {j : Nat} {rc : Rec} (s : S) (hj : j < l.length) :
    ∃ f, doCall EZ rc 5 [LL l k, .int .i64 (Int.ofNat j)] s = bodyEnd EZ rc Tryz.f5 (exec p5R EZ rc (T5 (LL l k) (.int .i64 (Int.ofNat j)) f) (bodyM false none) s) := by
  refine ⟨getV (A5 (LL l k) (.int .i64 (Int.ofNat j))), ?_⟩
  have hb : leI (Int.ofNat l.length) (Int.ofNat j) = false := by
    have : ¬ (Int.ofNat l.length ≤ Int.ofNat j) := by
      show ¬ ((l.length : Int) ≤ (j : Int)); omega
    rw [leI_eq, decide_eq_false this]
  rw [call5, do5, b5_run, p50_is]
  show bodyEnd EZ rc Tryz.f5 (thenK (thenK (exec p51 EZ rc (regT p50 (F5 (LL l k) (.int .i64 (Int.ofNat j)))) (bodyM false none) s) (exec (.cond (.tmp 13) (.seq p52 .ret) .skip) EZ rc)) (exec p5R EZ rc)) = _
  rw [p51_a]
  show bodyEnd EZ rc Tryz.f5 (thenK (exec (.cond (.tmp 13) (.seq p52 .ret) .skip) EZ rc (A5 (LL l k) (.int .i64 (Int.ofNat j))) (bodyM false none) s) (exec p5R EZ rc)) = _
  rw [exec_cond (A5_a ..), if_neg (by rw [hb]; decide)]
  exact congrArg (fun T => bodyEnd EZ rc Tryz.f5 (exec p5R EZ rc T (bodyM false none) s)) (A5_Ta ..)
/-- All ways to have no such event. -/
theorem none5 (rc : Rec) (s : S) : (∀ (l : List Ev) (k : Bool) (a : Int), (a < 0 ∨ (l.length : Int) ≤ a) → doCall EZ rc 5 [LL l k, .int .i64 a] s = .ret (.tup [.int .i64 0, .int .i64 1]) s false) ∧ (∀ a : Int, doCall EZ rc 5 [.nils, .int .i64 a] s = .ret (.tup [.int .i64 0, .int .i64 1]) s false) := by
  refine ⟨fun l k a h => ?_, fun a => ?_⟩
  · cases a with
    | ofNat j =>
      refine bad5 s (p51_a ..) ((A5_a ..).trans ?_) (A5_Ta ..)
      have : Int.ofNat l.length ≤ Int.ofNat j := by
        rcases h with h | h
        · exact absurd h (by show ¬ ((j : Int) < 0); omega)
        · exact h
      rw [leI_eq, decide_eq_true this]
    | negSucc j => exact bad5 s (p51_b ..) (A5_b ..) (A5_Tb ..)
  · cases a with
    | ofNat j =>
      refine bad5 s (p51_c ..) ((A5_c ..).trans ?_) (A5_Tc ..)
      have : Int.ofNat 0 ≤ Int.ofNat j := by show (0 : Int) ≤ (j : Int); omega
      rw [leI_eq, decide_eq_true this]
    | negSucc j => exact bad5 s (p51_d ..) (A5_d ..) (A5_Td ..)
noncomputable def q5C : Code := sl p5R
noncomputable def q5o : List Oper := opsL q5C
section
variable (L v : V) (f : Nat → V) (rc : Rec) (m : M) (s : S) (e : Ev) (r : List Ev) (a b : V)
noncomputable def q5Z : List V := opsT (takeB 4 q5o) q5o (T5 L v f)
theorem q51 : exec q5C EZ rc (T5 L v f) m s = optC (oIndexAddr 22 (.tmp 16) (.tmp 17) EZ (q5Z L v f) s) .fail (fun p => runE' (dropN 5 q5o) q5o rc (setD (q5Z L v f) (some 18) p.1) m p.2) := by kernel_rfl
theorem q5x : opv EZ (q5Z L v f) (.tmp 16) = some L := by kernel_rfl
theorem q5i : opv EZ (q5Z L v f) (.tmp 17) = some v := by kernel_rfl
noncomputable def q5Y : List V := opsT (takeB 2 (dropN 5 q5o)) q5o (setD (q5Z L v f) (some 18) (.lptr (flat (e :: r))))
theorem q52 : runE' (dropN 5 q5o) q5o rc (setD (q5Z L v f) (some 18) (.lptr (flat (e :: r)))) m s = calledK (rc.call 10 [L, v, .int .i64 e.d] s) (q5Y L v f e r) m (fun w m s => runE' (dropN 8 q5o) q5o rc (setD (q5Y L v f e r) (some 21) w) m s) := by kernel_rfl
noncomputable def q5Q : List V := opsT (dropN 8 q5o) q5o (setD (q5Y L v f e r) (some 21) (.tup [a, b]))
theorem q53 : runE' (dropN 8 q5o) q5o rc (setD (q5Y L v f e r) (some 21) (.tup [a, b])) m s = .norm (q5Q L v f e r a b) m s := by kernel_rfl
theorem q54 : nth (q5Q L v f e r a b) 4 = some a := by kernel_rfl
theorem q55 : nth (q5Q L v f e r a b) 5 = some b := by kernel_rfl
end
theorem tail5 {l : List Ev} {k : Bool} {j N : Nat} {e : Ev} {r : List Ev} (f : Nat → V) (s : S) (hd : l.drop j = e :: r) (hl : l.length < 500000) (ho : okE l) (hN : l.length < N) (hlo : s.lo ≤ s.next) :
    ∃ s', Gr s s' ∧ bodyEnd EZ (recN EZ (N + 3)) Tryz.f5 (thenK (exec q5C EZ (recN EZ (N + 3)) (T5 (LL l k) (.int .i64 (Int.ofNat j)) f) (bodyM false none) s) (exec .ret EZ (recN EZ (N + 3)))) = .ret (resP (fnd (e.d) (l.drop j) j)) s' false := by
  obtain ⟨s', hg, hc⟩ := endOk10 l k (e.d) j N s hl ho (Nat.le_of_lt (drop_lt hd)) hN hlo
  refine ⟨s', hg, ?_⟩
  generalize hrc : recN EZ (N + 3) = rc
  have hcall : rc.call 10 [LL l k, .int .i64 (Int.ofNat j), .int .i64 e.d] s = .ret (resP (fnd (e.d) (l.drop j) j)) s' false := by
    rw [← hrc]; exact hc
  rw [q51, idx_at (q5x ..) (q5i ..) hd, optC_some]
  show bodyEnd EZ rc Tryz.f5 (thenK (runE' (dropN 5 q5o) q5o rc (setD (q5Z (LL l k) (.int .i64 (Int.ofNat j)) f) (some 18) (.lptr (flat (e :: r)))) (bodyM false none) s) (exec .ret EZ rc)) = _
  rw [q52, hcall]
  have key : ∀ a b, bodyEnd EZ rc Tryz.f5 (thenK (calledK (.ret (.tup [a, b]) s' false) (q5Y (LL l k) (.int .i64 (Int.ofNat j)) f e r) (bodyM false none) (fun w m s => runE' (dropN 8 q5o) q5o rc (setD (q5Y (LL l k) (.int .i64 (Int.ofNat j)) f e r) (some 21) w) m s)) (exec .ret EZ rc)) = .ret (.tup [a, b]) s' false := by
    intro a b
    show bodyEnd EZ rc Tryz.f5 (thenK (runE' (dropN 8 q5o) q5o rc (setD (q5Y (LL l k) (.int .i64 (Int.ofNat j)) f e r) (some 21) (.tup [a, b])) (bodyM false none) s') (exec .ret EZ rc)) = _
    rw [q53]
    show bodyEnd EZ rc Tryz.f5 (.ret _ (bodyM false none) s') = _
    rw [end5, q54, q55]; rfl
  cases fnd (e.d) (l.drop j) j <;> exact key _ _
theorem p5R_is : p5R = .seq q5C .ret := by kernel_rfl
theorem whole5 {l : List Ev} {k : Bool} {j N : Nat} {e : Ev} {r : List Ev} (s : S) (hd : l.drop j = e :: r) (hl : l.length < 500000) (ho : okE l) (hN : l.length < N) (hlo : s.lo ≤ s.next) :
    ∃ s', Gr s s' ∧ doCall EZ (recN EZ (N + 3)) 5 [LL l k, .int .i64 (Int.ofNat j)] s = .ret (resP (fnd e.d (l.drop j) j)) s' false := by
  obtain ⟨f, h⟩ := good5 (rc := recN EZ (N + 3)) (k := k) s (drop_lt hd)
  obtain ⟨s', hg, h'⟩ := tail5 (k := k) f s hd hl ho hN hlo
  refine ⟨s', hg, ?_⟩
  rw [h, p5R_is]
  exact h'
/-! ### function 6 -/
noncomputable def b6 : Code := match Tryz.f6.body with | some c => c | none => .skip
noncomputable def p60 : Code := sl b6
noncomputable def p61 : Code := sl (sl (sr b6))
noncomputable def p62 : Code := match sr (sl (sr b6)) with | .cond _ a _ => sl a | c => c
noncomputable def p6R : Code := sr (sr b6)
noncomputable def lit6 (L v : V) : List (Option V) := some L :: some v :: none :: none :: some (.int .i64 0) :: some (.int .i64 0) :: nones (Tryz.f6.ntmps - 6)
noncomputable def T6 (L v : V) (f : Nat → V) : List V := fillT (lit6 L v) f 0
section
variable (L v : V) (f : Nat → V) (rc : Rec) (m : M) (s : S) (T : List V) (l : List Ev) (k : Bool) (j : Nat)
noncomputable def F6 : List V := frame0 Tryz.f6 [L, v]
noncomputable def A6 : List V := regT p61 (regT p60 (F6 L v))
theorem b6_is : b6 = .seq p60 (.seq (.seq p61 (.cond (.tmp 13) (.seq p62 .ret) .skip)) p6R) := by kernel_rfl
theorem p60_is : exec p60 EZ rc (F6 L v) m s = .norm (regT p60 (F6 L v)) m s := by kernel_rfl
theorem p61_a : exec p61 EZ rc (regT p60 (F6 (LL l k) (.int .i64 (Int.ofNat j)))) m s = .norm (A6 (LL l k) (.int .i64 (Int.ofNat j))) m s := by kernel_rfl
theorem p61_b : exec p61 EZ rc (regT p60 (F6 (LL l k) (.int .i64 (Int.negSucc j)))) m s = .norm (A6 (LL l k) (.int .i64 (Int.negSucc j))) m s := by kernel_rfl
theorem p61_c : exec p61 EZ rc (regT p60 (F6 .nils (.int .i64 (Int.ofNat j)))) m s = .norm (A6 .nils (.int .i64 (Int.ofNat j))) m s := by kernel_rfl
theorem p61_d : exec p61 EZ rc (regT p60 (F6 .nils (.int .i64 (Int.negSucc j)))) m s = .norm (A6 .nils (.int .i64 (Int.negSucc j))) m s := by kernel_rfl
theorem A6_a : nth (A6 (LL l k) (.int .i64 (Int.ofNat j))) 13 = some (.bool (leI (Int.ofNat l.length) (Int.ofNat j))) := by kernel_rfl
theorem A6_b : nth (A6 (LL l k) (.int .i64 (Int.negSucc j))) 13 = some (.bool true) := by kernel_rfl
theorem A6_c : nth (A6 .nils (.int .i64 (Int.ofNat j))) 13 = some (.bool (leI (Int.ofNat 0) (Int.ofNat j))) := by kernel_rfl
theorem A6_d : nth (A6 .nils (.int .i64 (Int.negSucc j))) 13 = some (.bool true) := by kernel_rfl
theorem A6_Ta : A6 (LL l k) (.int .i64 (Int.ofNat j)) = T6 (LL l k) (.int .i64 (Int.ofNat j)) (getV (A6 (LL l k) (.int .i64 (Int.ofNat j)))) := by kernel_rfl
theorem A6_Tb : A6 (LL l k) (.int .i64 (Int.negSucc j)) = T6 (LL l k) (.int .i64 (Int.negSucc j)) (getV (A6 (LL l k) (.int .i64 (Int.negSucc j)))) := by kernel_rfl
theorem A6_Tc : A6 .nils (.int .i64 (Int.ofNat j)) = T6 .nils (.int .i64 (Int.ofNat j)) (getV (A6 .nils (.int .i64 (Int.ofNat j)))) := by kernel_rfl
theorem A6_Td : A6 .nils (.int .i64 (Int.negSucc j)) = T6 .nils (.int .i64 (Int.negSucc j)) (getV (A6 .nils (.int .i64 (Int.negSucc j)))) := by kernel_rfl
theorem p62_is : exec (.seq p62 .ret) EZ rc (T6 L v f) m s = .ret (regT p62 (T6 L v f)) m s := by kernel_rfl
theorem p62_4 : nth (regT p62 (T6 L v f)) 4 = some (.int .i64 0) := by kernel_rfl
theorem p62_5 : nth (regT p62 (T6 L v f)) 5 = some (.int .i64 1) := by kernel_rfl
theorem end6 : bodyEnd EZ rc Tryz.f6 (.ret T (bodyM false none) s) = optC (consO (nth T 4) (consO (nth T 5) (some []))) .fail (fun l => .ret (tupled l) s false) := by kernel_rfl
theorem do6 : doBody EZ rc 6 [L, v] false none s = bodyEnd EZ rc Tryz.f6 (exec b6 EZ rc (F6 L v) (bodyM false none) s) := by kernel_rfl
theorem call6 (args : List V) : doCall EZ rc 6 args s = doBody EZ rc 6 args false none s := by kernel_rfl
end
theorem b6_run (rc : Rec) (T : List V) (m : M) (s : S) : exec b6 EZ rc T m s = thenK (exec p60 EZ rc T m s) (fun T m s => thenK (thenK (exec p61 EZ rc T m s) (exec (.cond (.tmp 13) (.seq p62 .ret) .skip) EZ rc)) (exec p6R EZ rc)) := by
  rw [b6_is]; rfl
/-- No such event. -/
theorem bad6 {L v : V} {rc : Rec} (s : S) (h1 : exec p61 EZ rc (regT p60 (F6 L v)) (bodyM false none) s = .norm (A6 L v) (bodyM false none) s) (h2 : nth (A6 L v) 13 = some (.bool true)) (h3 : A6 L v = T6 L v (getV (A6 L v))) :
    doCall EZ rc 6 [L, v] s = .ret (.tup [.int .i64 0, .int .i64 1]) s false := by
  rw [call6, do6, b6_run, p60_is]
  show bodyEnd EZ rc Tryz.f6 (thenK (thenK (exec p61 EZ rc (regT p60 (F6 L v)) (bodyM false none) s) (exec (.cond (.tmp 13) (.seq p62 .ret) .skip) EZ rc)) (exec p6R EZ rc)) = _
  rw [h1]
  show bodyEnd EZ rc Tryz.f6 (thenK (exec (.cond (.tmp 13) (.seq p62 .ret) .skip) EZ rc (A6 L v) (bodyM false none) s) (exec p6R EZ rc)) = _
  rw [exec_cond h2, if_pos rfl]
  have e : exec (.seq p62 .ret) EZ rc (A6 L v) (bodyM false none) s = .ret (regT p62 (T6 L v (getV (A6 L v)))) (bodyM false none) s := (congrArg (fun T => exec (.seq p62 .ret) EZ rc T (bodyM false none) s) h3).trans (p62_is ..)
  rw [e]
  show bodyEnd EZ rc Tryz.f6 (.ret _ (bodyM false none) s) = _
  rw [end6, p62_4, p62_5]; rfl
/-- There is: on to the rest. -/
theorem good6 {l : List Ev} {k : Bool} {j : Nat} {rc : Rec} (s : S) (hj : j < l.length) :
    ∃ f, doCall EZ rc 6 [LL l k, .int .i64 (Int.ofNat j)] s = bodyEnd EZ rc Tryz.f6 (exec p6R EZ rc (T6 (LL l k) (.int .i64 (Int.ofNat j)) f) (bodyM false none) s) := by
  refine ⟨getV (A6 (LL l k) (.int .i64 (Int.ofNat j))), ?_⟩
  have hb : leI (Int.ofNat l.length) (Int.ofNat j) = false := by
    have : ¬ (Int.ofNat l.length ≤ Int.ofNat j) := by
      show ¬ ((l.length : Int) ≤ (j : Int)); omega
    rw [leI_eq, decide_eq_false this]
  rw [call6, do6, b6_run, p60_is]
  show bodyEnd EZ rc Tryz.f6 (thenK (thenK (exec p61 EZ rc (regT p60 (F6 (LL l k) (.int .i64 (Int.ofNat j)))) (bodyM false none) s) (exec (.cond (.tmp 13) (.seq p62 .ret) .skip) EZ rc)) (exec p6R EZ rc)) = _
  rw [p61_a]
  show bodyEnd EZ rc Tryz.f6 (thenK (exec (.cond (.tmp 13) (.seq p62 .ret) .skip) EZ rc (A6 (LL l k) (.int .i64 (Int.ofNat j))) (bodyM false none) s) (exec p6R EZ rc)) = _
  rw [exec_cond (A6_a ..), if_neg (by rw [hb]; decide)]
  exact congrArg (fun T => bodyEnd EZ rc Tryz.f6 (exec p6R EZ rc T (bodyM false none) s)) (A6_Ta ..)
/-- All ways to have no such event. -/
theorem none6 (rc : Rec) (s : S) : (∀ (l : List Ev) (k : Bool) (a : Int), (a < 0 ∨ (l.length : Int) ≤ a) → doCall EZ rc 6 [LL l k, .int .i64 a] s = .ret (.tup [.int .i64 0, .int .i64 1]) s false) ∧ (∀ a : Int, doCall EZ rc 6 [.nils, .int .i64 a] s = .ret (.tup [.int .i64 0, .int .i64 1]) s false) := by
  refine ⟨fun l k a h => ?_, fun a => ?_⟩
  · cases a with
    | ofNat j =>
      refine bad6 s (p61_a ..) ((A6_a ..).trans ?_) (A6_Ta ..)
      have : Int.ofNat l.length ≤ Int.ofNat j := by
        rcases h with h | h
        · exact absurd h (by show ¬ ((j : Int) < 0); omega)
        · exact h
      rw [leI_eq, decide_eq_true this]
    | negSucc j => exact bad6 s (p61_b ..) (A6_b ..) (A6_Tb ..)
  · cases a with
    | ofNat j =>
      refine bad6 s (p61_c ..) ((A6_c ..).trans ?_) (A6_Tc ..)
      have : Int.ofNat 0 ≤ Int.ofNat j := by show (0 : Int) ≤ (j : Int); omega
      rw [leI_eq, decide_eq_true this]
    | negSucc j => exact bad6 s (p61_d ..) (A6_d ..) (A6_Td ..)
noncomputable def q6C : Code := sl p6R
noncomputable def q6o : List Oper := opsL q6C
section
variable (L v : V) (f : Nat → V) (rc : Rec) (m : M) (s : S) (e : Ev) (r : List Ev) (a b : V)
noncomputable def q6Z : List V := opsT (takeB 4 q6o) q6o (T6 L v f)
theorem q61 : exec q6C EZ rc (T6 L v f) m s = optC (oIndexAddr 22 (.tmp 16) (.tmp 17) EZ (q6Z L v f) s) .fail (fun p => runE' (dropN 5 q6o) q6o rc (setD (q6Z L v f) (some 18) p.1) m p.2) := by kernel_rfl
theorem q6x : opv EZ (q6Z L v f) (.tmp 16) = some L := by kernel_rfl
theorem q6i : opv EZ (q6Z L v f) (.tmp 17) = some v := by kernel_rfl
noncomputable def q6Y : List V := opsT (takeB 2 (dropN 5 q6o)) q6o (setD (q6Z L v f) (some 18) (.lptr (flat (e :: r))))
theorem q62 : runE' (dropN 5 q6o) q6o rc (setD (q6Z L v f) (some 18) (.lptr (flat (e :: r)))) m s = calledK (rc.call 11 [L, v, .int .i64 e.d] s) (q6Y L v f e r) m (fun w m s => runE' (dropN 8 q6o) q6o rc (setD (q6Y L v f e r) (some 21) w) m s) := by kernel_rfl
noncomputable def q6Q : List V := opsT (dropN 8 q6o) q6o (setD (q6Y L v f e r) (some 21) (.tup [a, b]))
theorem q63 : runE' (dropN 8 q6o) q6o rc (setD (q6Y L v f e r) (some 21) (.tup [a, b])) m s = .norm (q6Q L v f e r a b) m s := by kernel_rfl
theorem q64 : nth (q6Q L v f e r a b) 4 = some a := by kernel_rfl
theorem q65 : nth (q6Q L v f e r a b) 5 = some b := by kernel_rfl
end
theorem tail6 {l : List Ev} {k : Bool} {j N : Nat} {e : Ev} {r : List Ev} (f : Nat → V) (s : S) (hd : l.drop j = e :: r) (hl : l.length < 500000) (ho : okE l) (hN : l.length < N) (hlo : s.lo ≤ s.next) :
    ∃ s', Gr s s' ∧ bodyEnd EZ (recN EZ (N + 3)) Tryz.f6 (thenK (exec q6C EZ (recN EZ (N + 3)) (T6 (LL l k) (.int .i64 (Int.ofNat j)) f) (bodyM false none) s) (exec .ret EZ (recN EZ (N + 3)))) = .ret (resP (fnd (e.d) (l.drop j) j)) s' false := by
  obtain ⟨s', hg, hc⟩ := endOk11 l k (e.d) j N s hl ho (Nat.le_of_lt (drop_lt hd)) hN hlo
  refine ⟨s', hg, ?_⟩
  generalize hrc : recN EZ (N + 3) = rc
  have hcall : rc.call 11 [LL l k, .int .i64 (Int.ofNat j), .int .i64 e.d] s = .ret (resP (fnd (e.d) (l.drop j) j)) s' false := by
    rw [← hrc]; exact hc
  rw [q61, idx_at (q6x ..) (q6i ..) hd, optC_some]
  show bodyEnd EZ rc Tryz.f6 (thenK (runE' (dropN 5 q6o) q6o rc (setD (q6Z (LL l k) (.int .i64 (Int.ofNat j)) f) (some 18) (.lptr (flat (e :: r)))) (bodyM false none) s) (exec .ret EZ rc)) = _
  rw [q62, hcall]
  have key : ∀ a b, bodyEnd EZ rc Tryz.f6 (thenK (calledK (.ret (.tup [a, b]) s' false) (q6Y (LL l k) (.int .i64 (Int.ofNat j)) f e r) (bodyM false none) (fun w m s => runE' (dropN 8 q6o) q6o rc (setD (q6Y (LL l k) (.int .i64 (Int.ofNat j)) f e r) (some 21) w) m s)) (exec .ret EZ rc)) = .ret (.tup [a, b]) s' false := by
    intro a b
    show bodyEnd EZ rc Tryz.f6 (thenK (runE' (dropN 8 q6o) q6o rc (setD (q6Y (LL l k) (.int .i64 (Int.ofNat j)) f e r) (some 21) (.tup [a, b])) (bodyM false none) s') (exec .ret EZ rc)) = _
    rw [q63]
    show bodyEnd EZ rc Tryz.f6 (.ret _ (bodyM false none) s') = _
    rw [end6, q64, q65]; rfl
  cases fnd (e.d) (l.drop j) j <;> exact key _ _
theorem p6R_is : p6R = .seq q6C .ret := by kernel_rfl
theorem whole6 {l : List Ev} {k : Bool} {j N : Nat} {e : Ev} {r : List Ev} (s : S) (hd : l.drop j = e :: r) (hl : l.length < 500000) (ho : okE l) (hN : l.length < N) (hlo : s.lo ≤ s.next) :
    ∃ s', Gr s s' ∧ doCall EZ (recN EZ (N + 3)) 6 [LL l k, .int .i64 (Int.ofNat j)] s = .ret (resP (fnd e.d (l.drop j) j)) s' false := by
  obtain ⟨f, h⟩ := good6 (rc := recN EZ (N + 3)) (k := k) s (drop_lt hd)
  obtain ⟨s', hg, h'⟩ := tail6 (k := k) f s hd hl ho hN hlo
  refine ⟨s', hg, ?_⟩
  rw [h, p6R_is]
  exact h'
/-! ### function 7 -/
noncomputable def b7 : Code := match Tryz.f7.body with | some c => c | none => .skip
noncomputable def p70 : Code := sl b7
noncomputable def p71 : Code := sl (sl (sr b7))
noncomputable def p72 : Code := match sr (sl (sr b7)) with | .cond _ a _ => sl a | c => c
noncomputable def p7R : Code := sr (sr b7)
noncomputable def lit7 (L v : V) : List (Option V) := some L :: some v :: none :: none :: some (.int .i64 0) :: some (.int .i64 0) :: nones (Tryz.f7.ntmps - 6)
noncomputable def T7 (L v : V) (f : Nat → V) : List V := fillT (lit7 L v) f 0
section
variable (L v : V) (f : Nat → V) (rc : Rec) (m : M) (s : S) (T : List V) (l : List Ev) (k : Bool) (j : Nat)
noncomputable def F7 : List V := frame0 Tryz.f7 [L, v]
noncomputable def A7 : List V := regT p71 (regT p70 (F7 L v))
theorem b7_is : b7 = .seq p70 (.seq (.seq p71 (.cond (.tmp 13) (.seq p72 .ret) .skip)) p7R) := by kernel_rfl
theorem p70_is : exec p70 EZ rc (F7 L v) m s = .norm (regT p70 (F7 L v)) m s := by kernel_rfl
theorem p71_a : exec p71 EZ rc (regT p70 (F7 (LL l k) (.int .i64 (Int.ofNat j)))) m s = .norm (A7 (LL l k) (.int .i64 (Int.ofNat j))) m s := by kernel_rfl
theorem p71_b : exec p71 EZ rc (regT p70 (F7 (LL l k) (.int .i64 (Int.negSucc j)))) m s = .norm (A7 (LL l k) (.int .i64 (Int.negSucc j))) m s := by kernel_rfl
theorem p71_c : exec p71 EZ rc (regT p70 (F7 .nils (.int .i64 (Int.ofNat j)))) m s = .norm (A7 .nils (.int .i64 (Int.ofNat j))) m s := by kernel_rfl
theorem p71_d : exec p71 EZ rc (regT p70 (F7 .nils (.int .i64 (Int.negSucc j)))) m s = .norm (A7 .nils (.int .i64 (Int.negSucc j))) m s := by kernel_rfl
theorem A7_a : nth (A7 (LL l k) (.int .i64 (Int.ofNat j))) 13 = some (.bool (leI (Int.ofNat l.length) (Int.ofNat j))) := by kernel_rfl
theorem A7_b : nth (A7 (LL l k) (.int .i64 (Int.negSucc j))) 13 = some (.bool true) := by kernel_rfl
theorem A7_c : nth (A7 .nils (.int .i64 (Int.ofNat j))) 13 = some (.bool (leI (Int.ofNat 0) (Int.ofNat j))) := by kernel_rfl
theorem A7_d : nth (A7 .nils (.int .i64 (Int.negSucc j))) 13 = some (.bool true) := by kernel_rfl
theorem A7_Ta : A7 (LL l k) (.int .i64 (Int.ofNat j)) = T7 (LL l k) (.int .i64 (Int.ofNat j)) (getV (A7 (LL l k) (.int .i64 (Int.ofNat j)))) := by kernel_rfl
theorem A7_Tb : A7 (LL l k) (.int .i64 (Int.negSucc j)) = T7 (LL l k) (.int .i64 (Int.negSucc j)) (getV (A7 (LL l k) (.int .i64 (Int.negSucc j)))) := by kernel_rfl
theorem A7_Tc : A7 .nils (.int .i64 (Int.ofNat j)) = T7 .nils (.int .i64 (Int.ofNat j)) (getV (A7 .nils (.int .i64 (Int.ofNat j)))) := by kernel_rfl
theorem A7_Td : A7 .nils (.int .i64 (Int.negSucc j)) = T7 .nils (.int .i64 (Int.negSucc j)) (getV (A7 .nils (.int .i64 (Int.negSucc j)))) := by kernel_rfl
theorem p72_is : exec (.seq p72 .ret) EZ rc (T7 L v f) m s = .ret (regT p72 (T7 L v f)) m s := by kernel_rfl
theorem p72_4 : nth (regT p72 (T7 L v f)) 4 = some (.int .i64 0) := by kernel_rfl
theorem p72_5 : nth (regT p72 (T7 L v f)) 5 = some (.int .i64 1) := by kernel_rfl
theorem end7 : bodyEnd EZ rc Tryz.f7 (.ret T (bodyM false none) s) = optC (consO (nth T 4) (consO (nth T 5) (some []))) .fail (fun l => .ret (tupled l) s false) := by kernel_rfl
theorem do7 : doBody EZ rc 7 [L, v] false none s = bodyEnd EZ rc Tryz.f7 (exec b7 EZ rc (F7 L v) (bodyM false none) s) := by kernel_rfl
theorem call7 (args : List V) : doCall EZ rc 7 args s = doBody EZ rc 7 args false none s := by kernel_rfl
end
theorem b7_run (rc : Rec) (T : List V) (m : M) (s : S) : exec b7 EZ rc T m s = thenK (exec p70 EZ rc T m s) (fun T m s => thenK (thenK (exec p71 EZ rc T m s) (exec (.cond (.tmp 13) (.seq p72 .ret) .skip) EZ rc)) (exec p7R EZ rc)) := by
  rw [b7_is]; rfl
/-- No such event. -/
theorem bad7 {L v : V} {rc : Rec} (s : S) (h1 : exec p71 EZ rc (regT p70 (F7 L v)) (bodyM false none) s = .norm (A7 L v) (bodyM false none) s) (h2 : nth (A7 L v) 13 = some (.bool true)) (h3 : A7 L v = T7 L v (getV (A7 L v))) :
    doCall EZ rc 7 [L, v] s = .ret (.tup [.int .i64 0, .int .i64 1]) s false := by
  rw [call7, do7, b7_run, p70_is]
  show bodyEnd EZ rc Tryz.f7 (thenK (thenK (exec p71 EZ rc (regT p70 (F7 L v)) (bodyM false none) s) (exec (.cond (.tmp 13) (.seq p72 .ret) .skip) EZ rc)) (exec p7R EZ rc)) = _
  rw [h1]
  show bodyEnd EZ rc Tryz.f7 (thenK (exec (.cond (.tmp 13) (.seq p72 .ret) .skip) EZ rc (A7 L v) (bodyM false none) s) (exec p7R EZ rc)) = _
  rw [exec_cond h2, if_pos rfl]
  have e : exec (.seq p72 .ret) EZ rc (A7 L v) (bodyM false none) s = .ret (regT p72 (T7 L v (getV (A7 L v)))) (bodyM false none) s := (congrArg (fun T => exec (.seq p72 .ret) EZ rc T (bodyM false none) s) h3).trans (p72_is ..)
  rw [e]
  show bodyEnd EZ rc Tryz.f7 (.ret _ (bodyM false none) s) = _
  rw [end7, p72_4, p72_5]; rfl
/-- There is: on to the rest. -/
theorem good7 {l : List Ev} {k : Bool} {j : Nat} {rc : Rec} (s : S) (hj : j < l.length) :
    ∃ f, doCall EZ rc 7 [LL l k, .int .i64 (Int.ofNat j)] s = bodyEnd EZ rc Tryz.f7 (exec p7R EZ rc (T7 (LL l k) (.int .i64 (Int.ofNat j)) f) (bodyM false none) s) := by
  refine ⟨getV (A7 (LL l k) (.int .i64 (Int.ofNat j))), ?_⟩
  have hb : leI (Int.ofNat l.length) (Int.ofNat j) = false := by
    have : ¬ (Int.ofNat l.length ≤ Int.ofNat j) := by
      show ¬ ((l.length : Int) ≤ (j : Int)); omega
    rw [leI_eq, decide_eq_false this]
  rw [call7, do7, b7_run, p70_is]
  show bodyEnd EZ rc Tryz.f7 (thenK (thenK (exec p71 EZ rc (regT p70 (F7 (LL l k) (.int .i64 (Int.ofNat j)))) (bodyM false none) s) (exec (.cond (.tmp 13) (.seq p72 .ret) .skip) EZ rc)) (exec p7R EZ rc)) = _
  rw [p71_a]
  show bodyEnd EZ rc Tryz.f7 (thenK (exec (.cond (.tmp 13) (.seq p72 .ret) .skip) EZ rc (A7 (LL l k) (.int .i64 (Int.ofNat j))) (bodyM false none) s) (exec p7R EZ rc)) = _
  rw [exec_cond (A7_a ..), if_neg (by rw [hb]; decide)]
  exact congrArg (fun T => bodyEnd EZ rc Tryz.f7 (exec p7R EZ rc T (bodyM false none) s)) (A7_Ta ..)
/-- All ways to have no such event. -/
theorem none7 (rc : Rec) (s : S) : (∀ (l : List Ev) (k : Bool) (a : Int), (a < 0 ∨ (l.length : Int) ≤ a) → doCall EZ rc 7 [LL l k, .int .i64 a] s = .ret (.tup [.int .i64 0, .int .i64 1]) s false) ∧ (∀ a : Int, doCall EZ rc 7 [.nils, .int .i64 a] s = .ret (.tup [.int .i64 0, .int .i64 1]) s false) := by
  refine ⟨fun l k a h => ?_, fun a => ?_⟩
  · cases a with
    | ofNat j =>
      refine bad7 s (p71_a ..) ((A7_a ..).trans ?_) (A7_Ta ..)
      have : Int.ofNat l.length ≤ Int.ofNat j := by
        rcases h with h | h
        · exact absurd h (by show ¬ ((j : Int) < 0); omega)
        · exact h
      rw [leI_eq, decide_eq_true this]
    | negSucc j => exact bad7 s (p71_b ..) (A7_b ..) (A7_Tb ..)
  · cases a with
    | ofNat j =>
      refine bad7 s (p71_c ..) ((A7_c ..).trans ?_) (A7_Tc ..)
      have : Int.ofNat 0 ≤ Int.ofNat j := by show (0 : Int) ≤ (j : Int); omega
      rw [leI_eq, decide_eq_true this]
    | negSucc j => exact bad7 s (p71_d ..) (A7_d ..) (A7_Td ..)
noncomputable def q7C : Code := sl (sr p7R)
noncomputable def q7o : List Oper := opsL q7C
section
variable (L v : V) (f : Nat → V) (rc : Rec) (m : M) (s : S) (e : Ev) (r : List Ev) (a b : V)
noncomputable def q7Z : List V := opsT (takeB 4 q7o) q7o (T7 L v f)
theorem q71 : exec q7C EZ rc (T7 L v f) m s = optC (oIndexAddr 22 (.tmp 22) (.tmp 23) EZ (q7Z L v f) s) .fail (fun p => runE' (dropN 5 q7o) q7o rc (setD (q7Z L v f) (some 24) p.1) m p.2) := by kernel_rfl
theorem q7x : opv EZ (q7Z L v f) (.tmp 22) = some L := by kernel_rfl
theorem q7i : opv EZ (q7Z L v f) (.tmp 23) = some v := by kernel_rfl
noncomputable def q7Y : List V := opsT (takeB 3 (dropN 5 q7o)) q7o (setD (q7Z L v f) (some 24) (.lptr (flat (e :: r))))
theorem q72 : runE' (dropN 5 q7o) q7o rc (setD (q7Z L v f) (some 24) (.lptr (flat (e :: r)))) m s = calledK (rc.call 10 [L, v, .int .i64 (wrap .i64 (e.d - 1))] s) (q7Y L v f e r) m (fun w m s => runE' (dropN 9 q7o) q7o rc (setD (q7Y L v f e r) (some 28) w) m s) := by kernel_rfl
noncomputable def q7Q : List V := opsT (dropN 9 q7o) q7o (setD (q7Y L v f e r) (some 28) (.tup [a, b]))
theorem q73 : runE' (dropN 9 q7o) q7o rc (setD (q7Y L v f e r) (some 28) (.tup [a, b])) m s = .norm (q7Q L v f e r a b) m s := by kernel_rfl
theorem q74 : nth (q7Q L v f e r a b) 4 = some a := by kernel_rfl
theorem q75 : nth (q7Q L v f e r a b) 5 = some b := by kernel_rfl
end
theorem tail7 {l : List Ev} {k : Bool} {j N : Nat} {e : Ev} {r : List Ev} (f : Nat → V) (s : S) (hd : l.drop j = e :: r) (hl : l.length < 500000) (ho : okE l) (hN : l.length < N) (hlo : s.lo ≤ s.next) :
    ∃ s', Gr s s' ∧ bodyEnd EZ (recN EZ (N + 3)) Tryz.f7 (thenK (exec q7C EZ (recN EZ (N + 3)) (T7 (LL l k) (.int .i64 (Int.ofNat j)) f) (bodyM false none) s) (exec .ret EZ (recN EZ (N + 3)))) = .ret (resP (fnd (wrap .i64 (e.d - 1)) (l.drop j) j)) s' false := by
  obtain ⟨s', hg, hc⟩ := endOk10 l k (wrap .i64 (e.d - 1)) j N s hl ho (Nat.le_of_lt (drop_lt hd)) hN hlo
  refine ⟨s', hg, ?_⟩
  generalize hrc : recN EZ (N + 3) = rc
  have hcall : rc.call 10 [LL l k, .int .i64 (Int.ofNat j), .int .i64 (wrap .i64 (e.d - 1))] s = .ret (resP (fnd (wrap .i64 (e.d - 1)) (l.drop j) j)) s' false := by
    rw [← hrc]; exact hc
  rw [q71, idx_at (q7x ..) (q7i ..) hd, optC_some]
  show bodyEnd EZ rc Tryz.f7 (thenK (runE' (dropN 5 q7o) q7o rc (setD (q7Z (LL l k) (.int .i64 (Int.ofNat j)) f) (some 24) (.lptr (flat (e :: r)))) (bodyM false none) s) (exec .ret EZ rc)) = _
  rw [q72, hcall]
  have key : ∀ a b, bodyEnd EZ rc Tryz.f7 (thenK (calledK (.ret (.tup [a, b]) s' false) (q7Y (LL l k) (.int .i64 (Int.ofNat j)) f e r) (bodyM false none) (fun w m s => runE' (dropN 9 q7o) q7o rc (setD (q7Y (LL l k) (.int .i64 (Int.ofNat j)) f e r) (some 28) w) m s)) (exec .ret EZ rc)) = .ret (.tup [a, b]) s' false := by
    intro a b
    show bodyEnd EZ rc Tryz.f7 (thenK (runE' (dropN 9 q7o) q7o rc (setD (q7Y (LL l k) (.int .i64 (Int.ofNat j)) f e r) (some 28) (.tup [a, b])) (bodyM false none) s') (exec .ret EZ rc)) = _
    rw [q73]
    show bodyEnd EZ rc Tryz.f7 (.ret _ (bodyM false none) s') = _
    rw [end7, q74, q75]; rfl
  cases fnd (wrap .i64 (e.d - 1)) (l.drop j) j <;> exact key _ _
noncomputable def h7C : Code := sl (sl p7R)
noncomputable def h74c : Code := match sr (sl p7R) with | .cond _ a _ => sl a | c => c
noncomputable def h7o : List Oper := opsL h7C
theorem p7R_is : p7R = .seq (.seq h7C (.cond (.tmp 19) (.seq h74c .ret) .skip)) (.seq q7C .ret) := by kernel_rfl
section
variable (L v : V) (f : Nat → V) (rc : Rec) (m : M) (s : S) (e : Ev) (r : List Ev) (a b : V)
noncomputable def h7Z : List V := opsT (takeB 2 h7o) h7o (T7 L v f)
theorem h7x : opv EZ (h7Z L v f) (.tmp 14) = some L := by kernel_rfl
theorem h7i : opv EZ (h7Z L v f) (.tmp 15) = some v := by kernel_rfl
theorem h71 : exec h7C EZ rc (T7 L v f) m s = optC (oIndexAddr 22 (.tmp 14) (.tmp 15) EZ (h7Z L v f) s) .fail (fun p => runE' (dropN 3 h7o) h7o rc (setD (h7Z L v f) (some 16) p.1) m p.2) := by kernel_rfl
noncomputable def h7Y : List V := opsT (dropN 3 h7o) h7o (setD (h7Z L v f) (some 16) (.lptr (flat (e :: r))))
theorem h72 : runE' (dropN 3 h7o) h7o rc (setD (h7Z L v f) (some 16) (.lptr (flat (e :: r)))) m s = .norm (h7Y L v f e r) m s := by kernel_rfl
theorem h7Y_t : nth (h7Y L v f e r) 19 = some (.bool (eqI e.d (-9223372036854775808))) := by kernel_rfl
theorem h7Y_T : h7Y L v f e r = T7 L v (getV (h7Y L v f e r)) := by kernel_rfl
theorem h74_is : exec (.seq h74c .ret) EZ rc (T7 L v f) m s = .ret (regT h74c (T7 L v f)) m s := by kernel_rfl
theorem h74_4 : nth (regT h74c (T7 L v f)) 4 = some (.int .i64 0) := by kernel_rfl
theorem h74_5 : nth (regT h74c (T7 L v f)) 5 = some (.int .i64 3) := by kernel_rfl
end
theorem whole7 {l : List Ev} {k : Bool} {j N : Nat} {e : Ev} {r : List Ev} (s : S) (hd : l.drop j = e :: r) (hl : l.length < 500000) (ho : okE l) (hN : l.length < N) (hlo : s.lo ≤ s.next) :
    ∃ s', Gr s s' ∧ doCall EZ (recN EZ (N + 3)) 7 [LL l k, .int .i64 (Int.ofNat j)] s = .ret (if (eqI e.d (-9223372036854775808)) = true then resP none else resP (fnd (wrap .i64 (e.d - 1)) (l.drop j) j)) s' false := by
  obtain ⟨f, h⟩ := good7 (rc := recN EZ (N + 3)) (k := k) s (drop_lt hd)
  obtain ⟨s', hg, h'⟩ := tail7 (k := k) (getV (h7Y (LL l k) (.int .i64 (Int.ofNat j)) f e r)) s hd hl ho hN hlo
  generalize recN EZ (N + 3) = rc at h h'
  have e1 : exec h7C EZ rc (T7 (LL l k) (.int .i64 (Int.ofNat j)) f) (bodyM false none) s = .norm (h7Y (LL l k) (.int .i64 (Int.ofNat j)) f e r) (bodyM false none) s := by
    rw [h71, idx_at (h7x ..) (h7i ..) hd, optC_some]
    exact h72 ..
  have e2 : exec p7R EZ rc (T7 (LL l k) (.int .i64 (Int.ofNat j)) f) (bodyM false none) s = thenK (thenK (exec h7C EZ rc (T7 (LL l k) (.int .i64 (Int.ofNat j)) f) (bodyM false none) s) (exec (.cond (.tmp 19) (.seq h74c .ret) .skip) EZ rc)) (exec (.seq q7C .ret) EZ rc) := by
    rw [p7R_is]; rfl
  rw [h, e2, e1]
  show ∃ s', Gr s s' ∧ bodyEnd EZ rc Tryz.f7 (thenK (exec (.cond (.tmp 19) (.seq h74c .ret) .skip) EZ rc (h7Y (LL l k) (.int .i64 (Int.ofNat j)) f e r) (bodyM false none) s) (exec (.seq q7C .ret) EZ rc)) = _
  rw [exec_cond (h7Y_t ..)]
  by_cases ht : (eqI e.d (-9223372036854775808)) = true
  · refine ⟨s, Gr.refl s, ?_⟩
    rw [if_pos ht, if_pos ht]
    have e3 : exec (.seq h74c .ret) EZ rc (h7Y (LL l k) (.int .i64 (Int.ofNat j)) f e r) (bodyM false none) s = .ret (regT h74c (T7 (LL l k) (.int .i64 (Int.ofNat j)) (getV (h7Y (LL l k) (.int .i64 (Int.ofNat j)) f e r)))) (bodyM false none) s := (congrArg (fun T => exec (.seq h74c .ret) EZ rc T (bodyM false none) s) (h7Y_T ..)).trans (h74_is ..)
    rw [e3]
    show bodyEnd EZ rc Tryz.f7 (.ret _ (bodyM false none) s) = _
    rw [end7, h74_4, h74_5]; rfl
  · refine ⟨s', hg, ?_⟩
    rw [if_neg ht, if_neg ht]
    have e4 : exec q7C EZ rc (h7Y (LL l k) (.int .i64 (Int.ofNat j)) f e r) (bodyM false none) s = exec q7C EZ rc (T7 (LL l k) (.int .i64 (Int.ofNat j)) (getV (h7Y (LL l k) (.int .i64 (Int.ofNat j)) f e r))) (bodyM false none) s := congrArg (fun T => exec q7C EZ rc T (bodyM false none) s) (h7Y_T ..)
    show bodyEnd EZ rc Tryz.f7 (thenK (exec q7C EZ rc (h7Y (LL l k) (.int .i64 (Int.ofNat j)) f e r) (bodyM false none) s) (exec .ret EZ rc)) = _
    rw [e4]
    exact h'
/-! ### function 8 -/
noncomputable def b8 : Code := match Tryz.f8.body with | some c => c | none => .skip
noncomputable def p80 : Code := sl b8
noncomputable def p81 : Code := sl (sl (sr b8))
noncomputable def p82 : Code := match sr (sl (sr b8)) with | .cond _ a _ => sl a | c => c
noncomputable def p8R : Code := sr (sr b8)
noncomputable def lit8 (L v : V) : List (Option V) := some L :: some v :: none :: none :: some (.int .i64 0) :: some (.int .i64 0) :: nones (Tryz.f8.ntmps - 6)
noncomputable def T8 (L v : V) (f : Nat → V) : List V := fillT (lit8 L v) f 0
section
variable (L v : V) (f : Nat → V) (rc : Rec) (m : M) (s : S) (T : List V) (l : List Ev) (k : Bool) (j : Nat)
noncomputable def F8 : List V := frame0 Tryz.f8 [L, v]
noncomputable def A8 : List V := regT p81 (regT p80 (F8 L v))
theorem b8_is : b8 = .seq p80 (.seq (.seq p81 (.cond (.tmp 13) (.seq p82 .ret) .skip)) p8R) := by kernel_rfl
theorem p80_is : exec p80 EZ rc (F8 L v) m s = .norm (regT p80 (F8 L v)) m s := by kernel_rfl
theorem p81_a : exec p81 EZ rc (regT p80 (F8 (LL l k) (.int .i64 (Int.ofNat j)))) m s = .norm (A8 (LL l k) (.int .i64 (Int.ofNat j))) m s := by kernel_rfl
theorem p81_b : exec p81 EZ rc (regT p80 (F8 (LL l k) (.int .i64 (Int.negSucc j)))) m s = .norm (A8 (LL l k) (.int .i64 (Int.negSucc j))) m s := by kernel_rfl
theorem p81_c : exec p81 EZ rc (regT p80 (F8 .nils (.int .i64 (Int.ofNat j)))) m s = .norm (A8 .nils (.int .i64 (Int.ofNat j))) m s := by kernel_rfl
theorem p81_d : exec p81 EZ rc (regT p80 (F8 .nils (.int .i64 (Int.negSucc j)))) m s = .norm (A8 .nils (.int .i64 (Int.negSucc j))) m s := by kernel_rfl
theorem A8_a : nth (A8 (LL l k) (.int .i64 (Int.ofNat j))) 13 = some (.bool (leI (Int.ofNat l.length) (Int.ofNat j))) := by kernel_rfl
theorem A8_b : nth (A8 (LL l k) (.int .i64 (Int.negSucc j))) 13 = some (.bool true) := by kernel_rfl
theorem A8_c : nth (A8 .nils (.int .i64 (Int.ofNat j))) 13 = some (.bool (leI (Int.ofNat 0) (Int.ofNat j))) := by kernel_rfl
theorem A8_d : nth (A8 .nils (.int .i64 (Int.negSucc j))) 13 = some (.bool true) := by kernel_rfl
theorem A8_Ta : A8 (LL l k) (.int .i64 (Int.ofNat j)) = T8 (LL l k) (.int .i64 (Int.ofNat j)) (getV (A8 (LL l k) (.int .i64 (Int.ofNat j)))) := by kernel_rfl
theorem A8_Tb : A8 (LL l k) (.int .i64 (Int.negSucc j)) = T8 (LL l k) (.int .i64 (Int.negSucc j)) (getV (A8 (LL l k) (.int .i64 (Int.negSucc j)))) := by kernel_rfl
theorem A8_Tc : A8 .nils (.int .i64 (Int.ofNat j)) = T8 .nils (.int .i64 (Int.ofNat j)) (getV (A8 .nils (.int .i64 (Int.ofNat j)))) := by kernel_rfl
theorem A8_Td : A8 .nils (.int .i64 (Int.negSucc j)) = T8 .nils (.int .i64 (Int.negSucc j)) (getV (A8 .nils (.int .i64 (Int.negSucc j)))) := by kernel_rfl
theorem p82_is : exec (.seq p82 .ret) EZ rc (T8 L v f) m s = .ret (regT p82 (T8 L v f)) m s := by kernel_rfl
theorem p82_4 : nth (regT p82 (T8 L v f)) 4 = some (.int .i64 0) := by kernel_rfl
theorem p82_5 : nth (regT p82 (T8 L v f)) 5 = some (.int .i64 1) := by kernel_rfl
theorem end8 : bodyEnd EZ rc Tryz.f8 (.ret T (bodyM false none) s) = optC (consO (nth T 4) (consO (nth T 5) (some []))) .fail (fun l => .ret (tupled l) s false) := by kernel_rfl
theorem do8 : doBody EZ rc 8 [L, v] false none s = bodyEnd EZ rc Tryz.f8 (exec b8 EZ rc (F8 L v) (bodyM false none) s) := by kernel_rfl
theorem call8 (args : List V) : doCall EZ rc 8 args s = doBody EZ rc 8 args false none s := by kernel_rfl
end
theorem b8_run (rc : Rec) (T : List V) (m : M) (s : S) : exec b8 EZ rc T m s = thenK (exec p80 EZ rc T m s) (fun T m s => thenK (thenK (exec p81 EZ rc T m s) (exec (.cond (.tmp 13) (.seq p82 .ret) .skip) EZ rc)) (exec p8R EZ rc)) := by
  rw [b8_is]; rfl
/-- No such event. -/
theorem bad8 {L v : V} {rc : Rec} (s : S) (h1 : exec p81 EZ rc (regT p80 (F8 L v)) (bodyM false none) s = .norm (A8 L v) (bodyM false none) s) (h2 : nth (A8 L v) 13 = some (.bool true)) (h3 : A8 L v = T8 L v (getV (A8 L v))) :
    doCall EZ rc 8 [L, v] s = .ret (.tup [.int .i64 0, .int .i64 1]) s false := by
  rw [call8, do8, b8_run, p80_is]
  show bodyEnd EZ rc Tryz.f8 (thenK (thenK (exec p81 EZ rc (regT p80 (F8 L v)) (bodyM false none) s) (exec (.cond (.tmp 13) (.seq p82 .ret) .skip) EZ rc)) (exec p8R EZ rc)) = _
  rw [h1]
  show bodyEnd EZ rc Tryz.f8 (thenK (exec (.cond (.tmp 13) (.seq p82 .ret) .skip) EZ rc (A8 L v) (bodyM false none) s) (exec p8R EZ rc)) = _
  rw [exec_cond h2, if_pos rfl]
  have e : exec (.seq p82 .ret) EZ rc (A8 L v) (bodyM false none) s = .ret (regT p82 (T8 L v (getV (A8 L v)))) (bodyM false none) s := (congrArg (fun T => exec (.seq p82 .ret) EZ rc T (bodyM false none) s) h3).trans (p82_is ..)
  rw [e]
  show bodyEnd EZ rc Tryz.f8 (.ret _ (bodyM false none) s) = _
  rw [end8, p82_4, p82_5]; rfl
/-- There is: on to the rest. -/
theorem good8 {l : List Ev} {k : Bool} {j : Nat} {rc : Rec} (s : S) (hj : j < l.length) :
    ∃ f, doCall EZ rc 8 [LL l k, .int .i64 (Int.ofNat j)] s = bodyEnd EZ rc Tryz.f8 (exec p8R EZ rc (T8 (LL l k) (.int .i64 (Int.ofNat j)) f) (bodyM false none) s) := by
  refine ⟨getV (A8 (LL l k) (.int .i64 (Int.ofNat j))), ?_⟩
  have hb : leI (Int.ofNat l.length) (Int.ofNat j) = false := by
    have : ¬ (Int.ofNat l.length ≤ Int.ofNat j) := by
      show ¬ ((l.length : Int) ≤ (j : Int)); omega
    rw [leI_eq, decide_eq_false this]
  rw [call8, do8, b8_run, p80_is]
  show bodyEnd EZ rc Tryz.f8 (thenK (thenK (exec p81 EZ rc (regT p80 (F8 (LL l k) (.int .i64 (Int.ofNat j)))) (bodyM false none) s) (exec (.cond (.tmp 13) (.seq p82 .ret) .skip) EZ rc)) (exec p8R EZ rc)) = _
  rw [p81_a]
  show bodyEnd EZ rc Tryz.f8 (thenK (exec (.cond (.tmp 13) (.seq p82 .ret) .skip) EZ rc (A8 (LL l k) (.int .i64 (Int.ofNat j))) (bodyM false none) s) (exec p8R EZ rc)) = _
  rw [exec_cond (A8_a ..), if_neg (by rw [hb]; decide)]
  exact congrArg (fun T => bodyEnd EZ rc Tryz.f8 (exec p8R EZ rc T (bodyM false none) s)) (A8_Ta ..)
/-- All ways to have no such event. -/
theorem none8 (rc : Rec) (s : S) : (∀ (l : List Ev) (k : Bool) (a : Int), (a < 0 ∨ (l.length : Int) ≤ a) → doCall EZ rc 8 [LL l k, .int .i64 a] s = .ret (.tup [.int .i64 0, .int .i64 1]) s false) ∧ (∀ a : Int, doCall EZ rc 8 [.nils, .int .i64 a] s = .ret (.tup [.int .i64 0, .int .i64 1]) s false) := by
  refine ⟨fun l k a h => ?_, fun a => ?_⟩
  · cases a with
    | ofNat j =>
      refine bad8 s (p81_a ..) ((A8_a ..).trans ?_) (A8_Ta ..)
      have : Int.ofNat l.length ≤ Int.ofNat j := by
        rcases h with h | h
        · exact absurd h (by show ¬ ((j : Int) < 0); omega)
        · exact h
      rw [leI_eq, decide_eq_true this]
    | negSucc j => exact bad8 s (p81_b ..) (A8_b ..) (A8_Tb ..)
  · cases a with
    | ofNat j =>
      refine bad8 s (p81_c ..) ((A8_c ..).trans ?_) (A8_Tc ..)
      have : Int.ofNat 0 ≤ Int.ofNat j := by show (0 : Int) ≤ (j : Int); omega
      rw [leI_eq, decide_eq_true this]
    | negSucc j => exact bad8 s (p81_d ..) (A8_d ..) (A8_Td ..)
noncomputable def q8C : Code := sl (sr p8R)
noncomputable def q8o : List Oper := opsL q8C
section
variable (L v : V) (f : Nat → V) (rc : Rec) (m : M) (s : S) (e : Ev) (r : List Ev) (a b : V)
noncomputable def q8Z : List V := opsT (takeB 4 q8o) q8o (T8 L v f)
theorem q81 : exec q8C EZ rc (T8 L v f) m s = optC (oIndexAddr 22 (.tmp 28) (.tmp 29) EZ (q8Z L v f) s) .fail (fun p => runE' (dropN 5 q8o) q8o rc (setD (q8Z L v f) (some 30) p.1) m p.2) := by kernel_rfl
theorem q8x : opv EZ (q8Z L v f) (.tmp 28) = some L := by kernel_rfl
theorem q8i : opv EZ (q8Z L v f) (.tmp 29) = some v := by kernel_rfl
noncomputable def q8Y : List V := opsT (takeB 3 (dropN 5 q8o)) q8o (setD (q8Z L v f) (some 30) (.lptr (flat (e :: r))))
theorem q82 : runE' (dropN 5 q8o) q8o rc (setD (q8Z L v f) (some 30) (.lptr (flat (e :: r)))) m s = calledK (rc.call 11 [L, v, .int .i64 (wrap .i64 (e.d - 1))] s) (q8Y L v f e r) m (fun w m s => runE' (dropN 9 q8o) q8o rc (setD (q8Y L v f e r) (some 34) w) m s) := by kernel_rfl
noncomputable def q8Q : List V := opsT (dropN 9 q8o) q8o (setD (q8Y L v f e r) (some 34) (.tup [a, b]))
theorem q83 : runE' (dropN 9 q8o) q8o rc (setD (q8Y L v f e r) (some 34) (.tup [a, b])) m s = .norm (q8Q L v f e r a b) m s := by kernel_rfl
theorem q84 : nth (q8Q L v f e r a b) 4 = some a := by kernel_rfl
theorem q85 : nth (q8Q L v f e r a b) 5 = some b := by kernel_rfl
end
theorem tail8 {l : List Ev} {k : Bool} {j N : Nat} {e : Ev} {r : List Ev} (f : Nat → V) (s : S) (hd : l.drop j = e :: r) (hl : l.length < 500000) (ho : okE l) (hN : l.length < N) (hlo : s.lo ≤ s.next) :
    ∃ s', Gr s s' ∧ bodyEnd EZ (recN EZ (N + 3)) Tryz.f8 (thenK (exec q8C EZ (recN EZ (N + 3)) (T8 (LL l k) (.int .i64 (Int.ofNat j)) f) (bodyM false none) s) (exec .ret EZ (recN EZ (N + 3)))) = .ret (resP (fnd (wrap .i64 (e.d - 1)) (l.drop j) j)) s' false := by
  obtain ⟨s', hg, hc⟩ := endOk11 l k (wrap .i64 (e.d - 1)) j N s hl ho (Nat.le_of_lt (drop_lt hd)) hN hlo
  refine ⟨s', hg, ?_⟩
  generalize hrc : recN EZ (N + 3) = rc
  have hcall : rc.call 11 [LL l k, .int .i64 (Int.ofNat j), .int .i64 (wrap .i64 (e.d - 1))] s = .ret (resP (fnd (wrap .i64 (e.d - 1)) (l.drop j) j)) s' false := by
    rw [← hrc]; exact hc
  rw [q81, idx_at (q8x ..) (q8i ..) hd, optC_some]
  show bodyEnd EZ rc Tryz.f8 (thenK (runE' (dropN 5 q8o) q8o rc (setD (q8Z (LL l k) (.int .i64 (Int.ofNat j)) f) (some 30) (.lptr (flat (e :: r)))) (bodyM false none) s) (exec .ret EZ rc)) = _
  rw [q82, hcall]
  have key : ∀ a b, bodyEnd EZ rc Tryz.f8 (thenK (calledK (.ret (.tup [a, b]) s' false) (q8Y (LL l k) (.int .i64 (Int.ofNat j)) f e r) (bodyM false none) (fun w m s => runE' (dropN 9 q8o) q8o rc (setD (q8Y (LL l k) (.int .i64 (Int.ofNat j)) f e r) (some 34) w) m s)) (exec .ret EZ rc)) = .ret (.tup [a, b]) s' false := by
    intro a b
    show bodyEnd EZ rc Tryz.f8 (thenK (runE' (dropN 9 q8o) q8o rc (setD (q8Y (LL l k) (.int .i64 (Int.ofNat j)) f e r) (some 34) (.tup [a, b])) (bodyM false none) s') (exec .ret EZ rc)) = _
    rw [q83]
    show bodyEnd EZ rc Tryz.f8 (.ret _ (bodyM false none) s') = _
    rw [end8, q84, q85]; rfl
  cases fnd (wrap .i64 (e.d - 1)) (l.drop j) j <;> exact key _ _
noncomputable def h8C : Code := sl (sl p8R)
noncomputable def h84c : Code := match sr (sl p8R) with | .cond _ a _ => sl a | c => c
noncomputable def h8o : List Oper := opsL h8C
theorem p8R_is : p8R = .seq (.seq h8C (.cond (.tmp 25) (.seq h84c .ret) .skip)) (.seq q8C .ret) := by kernel_rfl
section
variable (L v : V) (f : Nat → V) (rc : Rec) (m : M) (s : S) (e : Ev) (r : List Ev) (a b : V)
noncomputable def h8Z : List V := opsT (takeB 2 h8o) h8o (T8 L v f)
theorem h8x : opv EZ (h8Z L v f) (.tmp 14) = some L := by kernel_rfl
theorem h8i : opv EZ (h8Z L v f) (.tmp 15) = some v := by kernel_rfl
theorem h8d : exec h8C EZ rc (T8 L v f) m s = runD EZ rc h8o (planOf h8o) [] (T8 L v f) m s := by kernel_rfl
theorem h8p : (planOf h8o).map (fun e => e.o) = h8o := by kernel_rfl
theorem h8k : ((planOf h8o).all fun e => Nat.ble 2 e.cls && Nat.beq e.cls (cls e.o.op) && e.o.guard.isNone) = true := by kernel_rfl
theorem h81 : runOps h8o h8o EZ rc (T8 L v f) m s = optC (oIndexAddr 22 (.tmp 14) (.tmp 15) EZ (h8Z L v f) s) .fail (fun p => runE' (dropN 3 h8o) h8o rc (setD (h8Z L v f) (some 16) p.1) m p.2) := by kernel_rfl
noncomputable def h8X : List V := opsT (takeB 5 (dropN 3 h8o)) h8o (setD (h8Z L v f) (some 16) (.lptr (flat (e :: r))))
theorem h81b : runE' (dropN 3 h8o) h8o rc (setD (h8Z L v f) (some 16) (.lptr (flat (e :: r)))) m s = optC (oIndexAddr 22 (.tmp 20) (.tmp 21) EZ (h8X L v f e r) s) .fail (fun p => runE' (dropN 9 h8o) h8o rc (setD (h8X L v f e r) (some 22) p.1) m p.2) := by kernel_rfl
theorem h8x2 : opv EZ (h8X L v f e r) (.tmp 20) = some L := by kernel_rfl
theorem h8i2 : opv EZ (h8X L v f e r) (.tmp 21) = some v := by kernel_rfl
noncomputable def h8Y : List V := opsT (dropN 9 h8o) h8o (setD (h8X L v f e r) (some 22) (.lptr (flat (e :: r))))
theorem h82 : runE' (dropN 9 h8o) h8o rc (setD (h8X L v f e r) (some 22) (.lptr (flat (e :: r)))) m s = .norm (h8Y L v f e r) m s := by kernel_rfl
theorem h8Y_t : nth (h8Y L v f e r) 25 = some (.bool (!leI (wrap .i64 (e.d - 1)) e.d)) := by kernel_rfl
theorem h8Y_T : h8Y L v f e r = T8 L v (getV (h8Y L v f e r)) := by kernel_rfl
theorem h84_is : exec (.seq h84c .ret) EZ rc (T8 L v f) m s = .ret (regT h84c (T8 L v f)) m s := by kernel_rfl
theorem h84_4 : nth (regT h84c (T8 L v f)) 4 = some (.int .i64 0) := by kernel_rfl
theorem h84_5 : nth (regT h84c (T8 L v f)) 5 = some (.int .i64 3) := by kernel_rfl
end
theorem whole8 {l : List Ev} {k : Bool} {j N : Nat} {e : Ev} {r : List Ev} (s : S) (hd : l.drop j = e :: r) (hl : l.length < 500000) (ho : okE l) (hN : l.length < N) (hlo : s.lo ≤ s.next) :
    ∃ s', Gr s s' ∧ doCall EZ (recN EZ (N + 3)) 8 [LL l k, .int .i64 (Int.ofNat j)] s = .ret (if (!leI (wrap .i64 (e.d - 1)) e.d) = true then resP none else resP (fnd (wrap .i64 (e.d - 1)) (l.drop j) j)) s' false := by
  obtain ⟨f, h⟩ := good8 (rc := recN EZ (N + 3)) (k := k) s (drop_lt hd)
  obtain ⟨s', hg, h'⟩ := tail8 (k := k) (getV (h8Y (LL l k) (.int .i64 (Int.ofNat j)) f e r)) s hd hl ho hN hlo
  generalize recN EZ (N + 3) = rc at h h'
  have e1 : exec h8C EZ rc (T8 (LL l k) (.int .i64 (Int.ofNat j)) f) (bodyM false none) s = .norm (h8Y (LL l k) (.int .i64 (Int.ofNat j)) f e r) (bodyM false none) s := by
    rw [h8d]
    have h : runOps h8o h8o EZ rc (T8 (LL l k) (.int .i64 (Int.ofNat j)) f) (bodyM false none) s = .norm (h8Y (LL l k) (.int .i64 (Int.ofNat j)) f e r) (bodyM false none) s := by
      rw [h81, idx_at (h8x ..) (h8i ..) hd, optC_some]
      refine (h81b ..).trans ?_
      rw [idx_at (h8x2 ..) (h8i2 ..) hd, optC_some]
      exact h82 ..
    have hk := List.all_eq_true.1 h8k
    have hk' : ∀ e ∈ planOf h8o, 2 ≤ e.cls ∧ e.cls = cls e.o.op ∧ e.o.guard = none := by
      intro e he
      have := hk e he
      rw [Bool.and_eq_true, Bool.and_eq_true] at this
      exact ⟨Nat.le_of_ble_eq_true this.1.1, Nat.eq_of_beq_eq_true this.1.2, by simpa using this.2⟩
    refine runD_pure _ _ _ _ _ hk' ?_
    rw [h8p]
    refine runOps_runI (fun o ho => ?_) h
    rw [← h8p] at ho
    obtain ⟨e, he, rfl⟩ := List.mem_map.1 ho
    exact (hk' e he).2.2
  have e2 : exec p8R EZ rc (T8 (LL l k) (.int .i64 (Int.ofNat j)) f) (bodyM false none) s = thenK (thenK (exec h8C EZ rc (T8 (LL l k) (.int .i64 (Int.ofNat j)) f) (bodyM false none) s) (exec (.cond (.tmp 25) (.seq h84c .ret) .skip) EZ rc)) (exec (.seq q8C .ret) EZ rc) := by
    rw [p8R_is]; rfl
  rw [h, e2, e1]
  show ∃ s', Gr s s' ∧ bodyEnd EZ rc Tryz.f8 (thenK (exec (.cond (.tmp 25) (.seq h84c .ret) .skip) EZ rc (h8Y (LL l k) (.int .i64 (Int.ofNat j)) f e r) (bodyM false none) s) (exec (.seq q8C .ret) EZ rc)) = _
  rw [exec_cond (h8Y_t ..)]
  by_cases ht : (!leI (wrap .i64 (e.d - 1)) e.d) = true
  · refine ⟨s, Gr.refl s, ?_⟩
    rw [if_pos ht, if_pos ht]
    have e3 : exec (.seq h84c .ret) EZ rc (h8Y (LL l k) (.int .i64 (Int.ofNat j)) f e r) (bodyM false none) s = .ret (regT h84c (T8 (LL l k) (.int .i64 (Int.ofNat j)) (getV (h8Y (LL l k) (.int .i64 (Int.ofNat j)) f e r)))) (bodyM false none) s := (congrArg (fun T => exec (.seq h84c .ret) EZ rc T (bodyM false none) s) (h8Y_T ..)).trans (h84_is ..)
    rw [e3]
    show bodyEnd EZ rc Tryz.f8 (.ret _ (bodyM false none) s) = _
    rw [end8, h84_4, h84_5]; rfl
  · refine ⟨s', hg, ?_⟩
    rw [if_neg ht, if_neg ht]
    have e4 : exec q8C EZ rc (h8Y (LL l k) (.int .i64 (Int.ofNat j)) f e r) (bodyM false none) s = exec q8C EZ rc (T8 (LL l k) (.int .i64 (Int.ofNat j)) (getV (h8Y (LL l k) (.int .i64 (Int.ofNat j)) f e r))) (bodyM false none) s := congrArg (fun T => exec q8C EZ rc T (bodyM false none) s) (h8Y_T ..)
    show bodyEnd EZ rc Tryz.f8 (thenK (exec q8C EZ rc (h8Y (LL l k) (.int .i64 (Int.ofNat j)) f e r) (bodyM false none) s) (exec .ret EZ rc)) = _
    rw [e4]
    exact h'
end
end Go.AM.L40.Sy
