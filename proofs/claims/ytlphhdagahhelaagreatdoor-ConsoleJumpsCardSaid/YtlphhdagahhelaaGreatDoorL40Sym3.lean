import Derived.Test.YtlphhdagahhelaaGreatDoorL40Sym2
set_option linter.all false
/- The law's own part: find over events, ended. -/
set_option maxRecDepth 100000
namespace Go.AM.L40.Sy
open Go Go.Proofs
noncomputable section
noncomputable def b14 : Code := match Tryz.f14.body with | some c => c | none => .skip
noncomputable def H0 : Code := sl b14
noncomputable def H1 : Code := sl (sl (sr b14))
noncomputable def B14 : Code := unL (unB (sr (sl (sr b14))))
noncomputable def H7 : Code := sl (sr (sr b14))
noncomputable def H2 : Code := sl B14
noncomputable def In14 : Code := unB (sl (sr (sr B14)))
noncomputable def H3 : Code := sl In14
noncomputable def H4 : Code := sl (sr In14)
noncomputable def H5 : Code := match sr (sr In14) with | .cond _ a _ => sl a | c => c
noncomputable def H6 : Code := sr (sr (sr B14))
noncomputable def opsH3 : List Oper := opsL H3
noncomputable def opsH4 : List Oper := opsL H4
noncomputable def lit14 (L fv nv v : V) : List (Option V) := some L :: some fv :: none :: none :: some (.int .i64 0) :: some (.bool false) :: none :: none :: some L :: some nv :: some v :: nones (Tryz.f14.ntmps - 11)
noncomputable def T14 (L fv nv v : V) (f : Nat → V) : List V := fillT (lit14 L fv nv v) f 0
noncomputable def clo (pb : Nat) : V := .fn (.func 15) [] [.ptr pb 0]
section
variable (L fv nv v : V) (pb i : Nat) (f : Nat → V) (rc : Rec) (m : M) (s : S) (T : List V) (e : Ev) (r : List Ev)
theorem B14_is : B14 = .seq H2 (.seq (.cond (.tmp 11) .skip (.exit 0)) (.seq (.block 1 (.seq H3 (.seq H4 (.cond (.tmp 17) (.seq H5 .ret) .skip)))) H6)) := by kernel_rfl
theorem b14_is : b14 = .seq H0 (.seq (.seq H1 (.block 0 (.loop B14))) (.seq H7 .ret)) := by kernel_rfl
variable (n : Nat)
theorem h2_is : exec H2 EZ rc (T14 L fv (.int .i64 (Int.ofNat n)) (.int .i64 (Int.ofNat i)) f) m s = .norm (regT H2 (T14 L fv (.int .i64 (Int.ofNat n)) (.int .i64 (Int.ofNat i)) f)) m s := by kernel_rfl
theorem h2_11 : nth (regT H2 (T14 L fv (.int .i64 (Int.ofNat n)) (.int .i64 (Int.ofNat i)) f)) 11 = some (.bool (!leI (Int.ofNat n) (Int.ofNat i))) := by kernel_rfl
theorem h2_T : regT H2 (T14 L fv (.int .i64 (Int.ofNat n)) (.int .i64 (Int.ofNat i)) f) = T14 L fv (.int .i64 (Int.ofNat n)) (.int .i64 (Int.ofNat i)) (getV (regT H2 (T14 L fv (.int .i64 (Int.ofNat n)) (.int .i64 (Int.ofNat i)) f))) := by kernel_rfl
noncomputable def X1 : List V := opsT (takeB 1 opsH3) opsH3 (T14 L fv nv v f)
theorem h3_is : exec H3 EZ rc (T14 L fv nv v f) m s = optC (oIndexAddr 22 (.tmp 8) (.tmp 10) EZ (X1 L fv nv v f) s) .fail (fun p => runE' (dropN 2 opsH3) opsH3 rc (setD (X1 L fv nv v f) (some 13) p.1) m p.2) := by kernel_rfl
theorem x1_8 : opv EZ (X1 L fv nv v f) (.tmp 8) = some L := by kernel_rfl
theorem x1_10 : opv EZ (X1 L fv nv v f) (.tmp 10) = some v := by kernel_rfl
noncomputable def X2' : List V := setD (X1 L fv nv v f) (some 13) (.lptr (flat (e :: r)))
noncomputable def X3 : List V := opsTs (takeB 3 (dropN 2 opsH3)) opsH3 (X2' L fv nv v f e r) s
theorem h3_2 : runE' (dropN 2 opsH3) opsH3 rc (setD (X1 L fv nv v f) (some 13) (.lptr (flat (e :: r)))) m s = optC (oStore 37 (.tmp 7) (.tmp 14) EZ (X3 L fv nv v f s e r) (s.new (.cells true 38 ti37.zero))) .fail (fun p => .norm (X3 L fv nv v f s e r) m p.2) := by kernel_rfl
theorem x3_7 : opv EZ (X3 L fv nv v f s e r) (.tmp 7) = some (.ptr s.next 0) := by kernel_rfl
theorem x3_14 : opv EZ (X3 L fv nv v f s e r) (.tmp 14) = some (.agg (cellsE e)) := by kernel_rfl
noncomputable def X4 : List V := opsT (takeB 1 opsH4) opsH4 (X3 L fv nv v f s e r)
variable (s' : S)
theorem h4_is : exec H4 EZ rc (X3 L fv nv v f s e r) m s' = optC (oLoad 37 (.tmp 7) EZ (X4 L fv nv v f s e r) s') .fail (fun q => runE' (dropN 2 opsH4) opsH4 rc (setD (X4 L fv nv v f s e r) (some 16) q.1) m q.2) := by kernel_rfl
theorem x4_7 : opv EZ (X4 L fv nv v f s e r) (.tmp 7) = some (.ptr s.next 0) := by kernel_rfl
noncomputable def X5 : List V := setD (X4 L (clo pb) nv v f s e r) (some 16) (.agg (cellsE e))
theorem h4_3 : runE' (dropN 2 opsH4) opsH4 rc (X5 L nv v pb f s e r) m s' = calledK (rc.call 15 [.agg (cellsE e), .ptr pb 0] s') (X5 L nv v pb f s e r) m (fun w m s'' => .norm (setD (X5 L nv v pb f s e r) (some 17) w) m s'') := by kernel_rfl
variable (b : Bool)
noncomputable def X6 : List V := setD (X5 L nv v pb f s e r) (some 17) (.bool b)
theorem x6_17 : nth (X6 L nv v pb f s e r b) 17 = some (.bool b) := by kernel_rfl
theorem h5_is : exec (.seq H5 .ret) EZ rc (X6 L nv v pb f s e r b) m s' = .ret (regT H5 (X6 L nv v pb f s e r b)) m s' := by kernel_rfl
theorem h5_4 : nth (regT H5 (X6 L nv v pb f s e r b)) 4 = some v := by kernel_rfl
theorem h5_5 : nth (regT H5 (X6 L nv v pb f s e r b)) 5 = some (.bool true) := by kernel_rfl
theorem h6_is : exec H6 EZ rc (X6 L nv (.int .i64 (Int.ofNat i)) pb f s e r b) m s' = .norm (regT H6 (X6 L nv (.int .i64 (Int.ofNat i)) pb f s e r b)) m s' := by kernel_rfl
theorem h6_T : regT H6 (X6 L nv (.int .i64 (Int.ofNat i)) pb f s e r b) = T14 L (clo pb) nv (.int .i64 (wrap .i64 (Int.ofNat i + 1))) (getV (regT H6 (X6 L nv (.int .i64 (Int.ofNat i)) pb f s e r b))) := by kernel_rfl
theorem h7_is : exec (.seq H7 .ret) EZ rc (T14 L fv nv v f) m s = .ret (regT H7 (T14 L fv nv v f)) m s := by kernel_rfl
theorem h7_4 : nth (regT H7 (T14 L fv nv v f)) 4 = some (.int .i64 0) := by kernel_rfl
theorem h7_5 : nth (regT H7 (T14 L fv nv v f)) 5 = some (.bool false) := by kernel_rfl
noncomputable def F14 : List V := frame0 Tryz.f14 [L, fv]
theorem h0_is : exec H0 EZ rc (F14 L fv) m s = .norm (regT H0 (F14 L fv)) m s := by kernel_rfl
variable (l : List Ev) (k : Bool)
theorem h1_is : exec H1 EZ rc (regT H0 (F14 (LL l k) fv)) m s = .norm (regT H1 (regT H0 (F14 (LL l k) fv))) m s := by kernel_rfl
theorem h1_T : regT H1 (regT H0 (F14 (LL l k) fv)) = T14 (LL l k) fv (.int .i64 (Int.ofNat l.length)) (.int .i64 (Int.ofNat 0)) (getV (regT H1 (regT H0 (F14 (LL l k) fv)))) := by kernel_rfl
theorem end14 : bodyEnd EZ rc Tryz.f14 (.ret T (bodyM false none) s) = optC (consO (nth T 4) (consO (nth T 5) (some []))) .fail (fun l => .ret (tupled l) s false) := by kernel_rfl
theorem do14 : doBody EZ rc 14 [L, fv] false none s = bodyEnd EZ rc Tryz.f14 (exec b14 EZ rc (F14 L fv) (bodyM false none) s) := by kernel_rfl
theorem call14 (args : List V) : doCall EZ rc 14 args s = doBody EZ rc 14 args false none s := by kernel_rfl
end
/-- All cells stand in one place each. -/
noncomputable def okE (l : List Ev) : Prop := ∀ e ∈ l, oneL (cellsE e) = true
theorem mem_drop {α : Type} {l : List α} {j : Nat} {e : α} {r : List α} (hd : l.drop j = e :: r) : e ∈ l := List.mem_of_mem_drop (by rw [hd]; exact List.mem_cons_self ..)
/-- A round up to its test. -/
theorem pre14 (l : List Ev) (k : Bool) (d : Int) (pb tg i : Nat) (f : Nat → V) (N : Nat) (m : M) (s : S) {o : Bool} {e : Ev} {r : List Ev} (hd : l.drop i = e :: r) (ho : okE l) (hp : s.heap.get pb = some (.cells o tg [.int .i64 d])) (hlt : pb < s.next) (hlo : s.lo ≤ s.next) :
    ∃ f' s', Gr s s' ∧ exec B14 EZ (recN EZ (N + 1)) (T14 (LL l k) (clo pb) (.int .i64 (Int.ofNat l.length)) (.int .i64 (Int.ofNat i)) f) m s =
      thenK (blockK 1 (if (e.lv && eqI e.d d) = true then exec (.seq H5 .ret) EZ (recN EZ (N + 1)) (X6 (LL l k) (.int .i64 (Int.ofNat l.length)) (.int .i64 (Int.ofNat i)) pb f' s e r (e.lv && eqI e.d d)) m s'
        else .norm (X6 (LL l k) (.int .i64 (Int.ofNat l.length)) (.int .i64 (Int.ofNat i)) pb f' s e r (e.lv && eqI e.d d)) m s')) (exec H6 EZ (recN EZ (N + 1))) := by
  have hj := drop_lt hd
  have h11 : (!leI (Int.ofNat l.length) (Int.ofNat i)) = true := by
    have : ¬ (Int.ofNat l.length ≤ Int.ofNat i) := by
      show ¬ ((l.length : Int) ≤ (i : Int)); omega
    rw [leI_eq, decide_eq_false this]; rfl
  generalize hrc : recN EZ (N + 1) = rc
  have e1 : ∀ T, exec B14 EZ rc T m s = thenK (exec H2 EZ rc T m s) (fun T m s => thenK (exec (.cond (.tmp 11) .skip (.exit 0)) EZ rc T m s) (fun T m s => thenK (blockK 1 (thenK (exec H3 EZ rc T m s) (fun T m s => thenK (exec H4 EZ rc T m s) (exec (.cond (.tmp 17) (.seq H5 .ret) .skip) EZ rc)))) (exec H6 EZ rc))) := by
    intro T; rw [B14_is]; rfl
  have e2 : exec (.cond (.tmp 11) .skip (.exit 0)) EZ rc (regT H2 (T14 (LL l k) (clo pb) (.int .i64 (Int.ofNat l.length)) (.int .i64 (Int.ofNat i)) f)) m s = .norm (regT H2 (T14 (LL l k) (clo pb) (.int .i64 (Int.ofNat l.length)) (.int .i64 (Int.ofNat i)) f)) m s := by
    rw [exec_cond (h2_11 ..), if_pos h11]; rfl
  generalize hf' : getV (regT H2 (T14 (LL l k) (clo pb) (.int .i64 (Int.ofNat l.length)) (.int .i64 (Int.ofNat i)) f)) = f'
  let s1 := (s.new (.cells true 38 ti37.zero)).put s.next (.cells true 38 (cellsE e))
  have hg1 : Gr s s1 := Gr.put _ _ _ (Gr.new _ _) (Nat.le_refl _)
  have e3 : exec H3 EZ rc (T14 (LL l k) (clo pb) (.int .i64 (Int.ofNat l.length)) (.int .i64 (Int.ofNat i)) f') m s = .norm (X3 (LL l k) (clo pb) (.int .i64 (Int.ofNat l.length)) (.int .i64 (Int.ofNat i)) f' s e r) m s1 := by
    rw [h3_is, idx_at (x1_8 ..) (x1_10 ..) hd, optC_some]
    refine (h3_2 ..).trans ?_
    rw [storeE (s := s.new (.cells true 38 ti37.zero)) (x3_7 ..) (x3_14 ..) (by rw [new_get, if_pos rfl]) hlo (ho e (mem_drop hd)), optC_some]
  have hs1n : s1.heap.get s.next = some (.cells true 38 (cellsE e)) := by rw [put_get, if_pos rfl]
  have hs1p : s1.heap.get pb = some (.cells o tg [.int .i64 d]) := by rw [hg1.get pb hlt]; exact hp
  have hcall : rc.call 15 [.agg (cellsE e), .ptr pb 0] s1 = .ret (.bool (e.lv && eqI e.d d)) (s1.new (.cells true 38 (cellsE e))) false := by
    rw [← hrc]
    show doCall EZ (recN EZ N) 15 [.agg (cellsE e), .ptr pb 0] s1 = _
    rw [call15]
    exact whole15 e d _ s1 hs1p (Nat.lt_of_lt_of_le hlt hg1.next)
  have e4 : exec H4 EZ rc (X3 (LL l k) (clo pb) (.int .i64 (Int.ofNat l.length)) (.int .i64 (Int.ofNat i)) f' s e r) m s1 = .norm (X6 (LL l k) (.int .i64 (Int.ofNat l.length)) (.int .i64 (Int.ofNat i)) pb f' s e r (e.lv && eqI e.d d)) m (s1.new (.cells true 38 (cellsE e))) := by
    rw [h4_is, loadE (x4_7 ..) hs1n, optC_some]
    refine (h4_3 ..).trans ?_
    rw [hcall]; rfl
  refine ⟨f', s1.new (.cells true 38 (cellsE e)), hg1.trans (Gr.new _ _), ?_⟩
  rw [e1, h2_is]
  show thenK (exec (.cond (.tmp 11) .skip (.exit 0)) EZ rc (regT H2 (T14 (LL l k) (clo pb) (.int .i64 (Int.ofNat l.length)) (.int .i64 (Int.ofNat i)) f)) m s) _ = _
  rw [e2, h2_T, hf']
  show thenK (blockK 1 (thenK (exec H3 EZ rc (T14 (LL l k) (clo pb) (.int .i64 (Int.ofNat l.length)) (.int .i64 (Int.ofNat i)) f') m s) (fun T m s => thenK (exec H4 EZ rc T m s) (exec (.cond (.tmp 17) (.seq H5 .ret) .skip) EZ rc)))) (exec H6 EZ rc) = _
  rw [e3]
  show thenK (blockK 1 (thenK (exec H4 EZ rc (X3 (LL l k) (clo pb) (.int .i64 (Int.ofNat l.length)) (.int .i64 (Int.ofNat i)) f' s e r) m s1) (exec (.cond (.tmp 17) (.seq H5 .ret) .skip) EZ rc))) (exec H6 EZ rc) = _
  rw [e4]
  show thenK (blockK 1 (exec (.cond (.tmp 17) (.seq H5 .ret) .skip) EZ rc (X6 (LL l k) (.int .i64 (Int.ofNat l.length)) (.int .i64 (Int.ofNat i)) pb f' s e r (e.lv && eqI e.d d)) m _)) (exec H6 EZ rc) = _
  rw [exec_cond (x6_17 ..)]
  rfl
theorem last14 (l : List Ev) (k : Bool) (fv : V) (i : Nat) (f : Nat → V) (rc : Rec) (m : M) (s : S) (hi : l.length ≤ i) :
    ∃ f', exec B14 EZ rc (T14 (LL l k) fv (.int .i64 (Int.ofNat l.length)) (.int .i64 (Int.ofNat i)) f) m s = .exit 0 (T14 (LL l k) fv (.int .i64 (Int.ofNat l.length)) (.int .i64 (Int.ofNat i)) f') m s := by
  have h11 : (!leI (Int.ofNat l.length) (Int.ofNat i)) = false := by
    have : Int.ofNat l.length ≤ Int.ofNat i := by
      show (l.length : Int) ≤ (i : Int); omega
    rw [leI_eq, decide_eq_true this]; rfl
  have e1 : ∀ T, exec B14 EZ rc T m s = thenK (exec H2 EZ rc T m s) (fun T m s => thenK (exec (.cond (.tmp 11) .skip (.exit 0)) EZ rc T m s) (fun T m s => thenK (blockK 1 (thenK (exec H3 EZ rc T m s) (fun T m s => thenK (exec H4 EZ rc T m s) (exec (.cond (.tmp 17) (.seq H5 .ret) .skip) EZ rc)))) (exec H6 EZ rc))) := by
    intro T; rw [B14_is]; rfl
  refine ⟨getV (regT H2 (T14 (LL l k) fv (.int .i64 (Int.ofNat l.length)) (.int .i64 (Int.ofNat i)) f)), ?_⟩
  rw [e1, h2_is]
  show thenK (exec (.cond (.tmp 11) .skip (.exit 0)) EZ rc (regT H2 (T14 (LL l k) fv (.int .i64 (Int.ofNat l.length)) (.int .i64 (Int.ofNat i)) f)) m s) _ = _
  rw [exec_cond (h2_11 ..), if_neg (by rw [h11]; decide)]
  show R.exit 0 (regT H2 (T14 (LL l k) fv (.int .i64 (Int.ofNat l.length)) (.int .i64 (Int.ofNat i)) f)) m s = _
  exact congrArg (fun T => R.exit 0 T m s) (h2_T ..)
theorem loop14 (l : List Ev) (k : Bool) (d : Int) (pb tg : Nat) (o : Bool) (m : M) (hl : l.length < 1000000) (ho : okE l) : ∀ (r : List Ev) (i : Nat) (f : Nat → V) (N : Nat) (s : S), i ≤ l.length → l.drop i = r → r.length < N → s.heap.get pb = some (.cells o tg [.int .i64 d]) → pb < s.next → s.lo ≤ s.next →
    match fnd d r i with
    | some j => ∃ T s', Gr s s' ∧ exec (.loop B14) EZ (recN EZ (N + 1)) (T14 (LL l k) (clo pb) (.int .i64 (Int.ofNat l.length)) (.int .i64 (Int.ofNat i)) f) m s = .ret T m s' ∧ nth T 4 = some (.int .i64 (Int.ofNat j)) ∧ nth T 5 = some (.bool true)
    | none => ∃ f' s', Gr s s' ∧ exec (.loop B14) EZ (recN EZ (N + 1)) (T14 (LL l k) (clo pb) (.int .i64 (Int.ofNat l.length)) (.int .i64 (Int.ofNat i)) f) m s = .exit 0 (T14 (LL l k) (clo pb) (.int .i64 (Int.ofNat l.length)) (.int .i64 (Int.ofNat l.length)) f') m s' := by
  intro r
  induction r with
  | nil =>
    intro i f N s hle hd hN hp hlt hlo
    have hi : l.length ≤ i := by
      rcases Nat.lt_or_ge i l.length with h | h
      · rw [List.drop_eq_getElem_cons h] at hd; cases hd
      · exact h
    obtain rfl : i = l.length := by omega
    obtain ⟨f', h⟩ := last14 l k (clo pb) l.length f (recN EZ (N + 1)) m s hi
    refine ⟨f', s, Gr.refl s, ?_⟩
    show thenK (exec B14 EZ (recN EZ (N + 1)) (T14 (LL l k) (clo pb) (.int .i64 (Int.ofNat l.length)) (.int .i64 (Int.ofNat l.length)) f) m s) _ = _
    rw [h]; rfl
  | cons e r ih =>
    intro i f N s hle hd hN hp hlt hlo
    have hj := drop_lt hd
    have hd' : l.drop (i + 1) = r := by
      rw [List.drop_eq_getElem_cons hj] at hd
      injection hd
    obtain ⟨f', s', hg, h⟩ := pre14 l k d pb tg i f N m s hd ho hp hlt hlo
    unfold fnd
    cases hb : (e.lv && eqI e.d d) with
    | true =>
      rw [if_pos rfl]
      rw [hb, if_pos rfl, h5_is] at h
      refine ⟨regT H5 (X6 (LL l k) (.int .i64 (Int.ofNat l.length)) (.int .i64 (Int.ofNat i)) pb f' s e r true), s', hg, ?_, h5_4 .., h5_5 ..⟩
      show thenK (exec B14 EZ (recN EZ (N + 1)) (T14 (LL l k) (clo pb) (.int .i64 (Int.ofNat l.length)) (.int .i64 (Int.ofNat i)) f) m s) _ = _
      rw [h]; rfl
    | false =>
      rw [if_neg (by decide)]
      rw [hb, if_neg (by decide)] at h
      have h : exec B14 EZ (recN EZ (N + 1)) (T14 (LL l k) (clo pb) (.int .i64 (Int.ofNat l.length)) (.int .i64 (Int.ofNat i)) f) m s = exec H6 EZ (recN EZ (N + 1)) (X6 (LL l k) (.int .i64 (Int.ofNat l.length)) (.int .i64 (Int.ofNat i)) pb f' s e r false) m s' := h
      rw [h6_is, h6_T, wrap_next (by omega)] at h
      cases N with
      | zero => cases hN
      | succ N =>
        have h' := ih (i + 1) (getV (regT H6 (X6 (LL l k) (.int .i64 (Int.ofNat l.length)) (.int .i64 (Int.ofNat i)) pb f' s e r false))) N s' (by omega) hd' (by simpa using hN) (by rw [hg.get pb hlt]; exact hp) (Nat.lt_of_lt_of_le hlt hg.next) (by rw [hg.lo]; exact Nat.le_trans hlo hg.next)
        have e1 : exec (.loop B14) EZ (recN EZ (N + 1 + 1)) (T14 (LL l k) (clo pb) (.int .i64 (Int.ofNat l.length)) (.int .i64 (Int.ofNat i)) f) m s = exec (.loop B14) EZ (recN EZ (N + 1)) (T14 (LL l k) (clo pb) (.int .i64 (Int.ofNat l.length)) (.int .i64 (Int.ofNat (i + 1))) (getV (regT H6 (X6 (LL l k) (.int .i64 (Int.ofNat l.length)) (.int .i64 (Int.ofNat i)) pb f' s e r false)))) m s' := by
          show thenK (exec B14 EZ (recN EZ (N + 1 + 1)) (T14 (LL l k) (clo pb) (.int .i64 (Int.ofNat l.length)) (.int .i64 (Int.ofNat i)) f) m s) _ = _
          rw [h]; rfl
        rw [e1]
        cases hf : fnd d r (i + 1) with
        | some j =>
          rw [hf] at h'
          obtain ⟨T, s'', q1, q2⟩ := h'
          exact ⟨T, s'', hg.trans q1, q2⟩
        | none =>
          rw [hf] at h'
          obtain ⟨f'', s'', q1, q2⟩ := h'
          exact ⟨f'', s'', hg.trans q1, q2⟩
noncomputable def resF (o : Option Nat) : V := match o with | some j => .tup [.int .i64 (Int.ofNat j), .bool true] | none => .tup [.int .i64 0, .bool false]
theorem whole14 (l : List Ev) (k : Bool) (d : Int) (pb tg : Nat) (o : Bool) (N : Nat) (s : S) (hl : l.length < 1000000) (ho : okE l) (hN : l.length < N) (hp : s.heap.get pb = some (.cells o tg [.int .i64 d])) (hlt : pb < s.next) (hlo : s.lo ≤ s.next) :
    ∃ s', Gr s s' ∧ doBody EZ (recN EZ (N + 1)) 14 [LL l k, clo pb] false none s = .ret (resF (fnd d l 0)) s' false := by
  rw [do14]
  generalize hrc : recN EZ (N + 1) = rc
  have e1 : exec b14 EZ rc (F14 (LL l k) (clo pb)) (bodyM false none) s = thenK (exec H0 EZ rc (F14 (LL l k) (clo pb)) (bodyM false none) s) (fun T m s => thenK (thenK (exec H1 EZ rc T m s) (fun T m s => blockK 0 (exec (.loop B14) EZ rc T m s))) (exec (.seq H7 .ret) EZ rc)) := by
    rw [b14_is]; rfl
  have e2 : exec b14 EZ rc (F14 (LL l k) (clo pb)) (bodyM false none) s = thenK (blockK 0 (exec (.loop B14) EZ rc (T14 (LL l k) (clo pb) (.int .i64 (Int.ofNat l.length)) (.int .i64 (Int.ofNat 0)) (getV (regT H1 (regT H0 (F14 (LL l k) (clo pb)))))) (bodyM false none) s)) (exec (.seq H7 .ret) EZ rc) := by
    rw [e1, h0_is]
    show thenK (thenK (exec H1 EZ rc (regT H0 (F14 (LL l k) (clo pb))) (bodyM false none) s) _) _ = _
    rw [h1_is]
    exact congrArg (fun T => thenK (blockK 0 (exec (.loop B14) EZ rc T (bodyM false none) s)) (exec (.seq H7 .ret) EZ rc)) (h1_T ..)
  rw [e2]
  have h := loop14 l k d pb tg o (bodyM false none) hl ho l 0 (getV (regT H1 (regT H0 (F14 (LL l k) (clo pb))))) N s (Nat.zero_le _) rfl hN hp hlt hlo
  rw [hrc] at h
  cases hf : fnd d l 0 with
  | some j =>
    rw [hf] at h
    obtain ⟨T, s', hg, h1, h2, h3⟩ := h
    refine ⟨s', hg, ?_⟩
    rw [h1]
    show bodyEnd EZ _ _ (.ret T (bodyM false none) s') = _
    rw [end14, h2, h3]; rfl
  | none =>
    rw [hf] at h
    obtain ⟨f', s', hg, h1⟩ := h
    refine ⟨s', hg, ?_⟩
    rw [h1]
    show bodyEnd EZ _ _ (exec (.seq H7 .ret) EZ rc (T14 (LL l k) (clo pb) (.int .i64 (Int.ofNat l.length)) (.int .i64 (Int.ofNat l.length)) f') (bodyM false none) s') = _
    rw [h7_is, end14, h7_4, h7_5]; rfl
end
end Go.AM.L40.Sy
