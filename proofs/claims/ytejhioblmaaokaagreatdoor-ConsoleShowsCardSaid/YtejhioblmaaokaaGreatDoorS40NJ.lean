import Derived.Test.YtejhioblmaaokaaGreatDoorS40NR
set_option linter.all false
/- newTable: joined. -/
namespace Go.AM.S40
open Go Go.Proofs
noncomputable section
noncomputable def KN : Nat → Prop := KP (resTmps Tryz.f394.results.toList)
noncomputable def KNl : List Nat := resTmps Tryz.f394.results.toList
theorem fit_of {c : Code} (h : cOk KNl c = true) : FitP KN c := ⟨KNl, rfl, h⟩
theorem rc2_ok : RecOk E2 Tryz.prog FitP rc2 := rec_ok env2_ok ov2_ok 400
noncomputable def stE : List (Nat × B) := [(0, bk0_4), (1, bk1_2), (2, .cells true 677 [.map 0, .map 1, .int .i64 (Int.ofNat 3)]), (3, .cells true 493 [.ptr 2 0]), (5, .mark), (8, .mark), (13, .mark)]
noncomputable def stR : S := ((((mkS 30 stE).drop 13).drop 8).drop 5)
noncomputable def ntR : CR := .ret (.ptr 2 0) stR false
theorem last_is : ∀ f, bodyEnd E2 rc2 Tryz.f394 (exec (sr q5) E2 rc2 (fillT lits f 0) nM5 (mkS 30 stE)) = ntR := by intro f; kernel_rfl
/-- How it stands ahead of a round. -/
noncomputable def Inv (seen : List Nat) (most : Nat) : Prop := most ≤ 3 ∧ ∀ i, i ∈ seen → wt i ≤ most
noncomputable def IR (n : Nat) (T : List V) (m : M) (s : S) : Prop := ∃ seen most f, unseen seen 105 = n ∧ Inv seen most ∧ T = fillT lits f 0 ∧ m = nM5 ∧ s = mkS 30 (stL most seen)
theorem mx_eq (a b : Nat) : mx a b = max a b := by
  unfold mx
  rw [boolC_eq]
  by_cases h : a < b
  · rw [if_pos (by rw [Nat.blt_eq]; exact h)]; omega
  · rw [if_neg (by rw [Nat.blt_eq]; exact h)]; omega
theorem upTo_get : ∀ n i j, j < n → (upTo n i)[j]? = some (i + j) := by
  intro n
  induction n with
  | zero => intro i j h; omega
  | succ n ih =>
    intro i j h
    show (i :: upTo n (i + 1))[j]? = _
    cases j with
    | zero => rfl
    | succ j => rw [List.getElem?_cons_succ, ih (i + 1) j (by omega)]; congr 1; omega
theorem mapL_get {α β : Type} (f : α → β) : ∀ (l : List α) (j : Nat), (mapL f l)[j]? = l[j]?.map f := by
  intro l
  induction l with
  | nil => intro j; rfl
  | cons x l ih =>
    intro j
    show (f x :: mapL f l)[j]? = _
    cases j with
    | zero => rfl
    | succ j => rw [List.getElem?_cons_succ, List.getElem?_cons_succ]; exact ih j
theorem at_upTo {α : Type} {g h : Nat → α} {n a : Nat} (he : mapL g (upTo n a) = mapL h (upTo n a)) {i : Nat} (h1 : a ≤ i) (h2 : i < a + n) : g i = h i := by
  have := congrArg (fun l => l[i - a]?) he
  simp only [mapL_get, upTo_get n a (i - a) (by omega), Option.map_some, Option.some.injEq] at this
  rw [show a + (i - a) = i by omega] at this
  exact this
theorem rd_all {most : Nat} (hm : most ≤ 3) (seen : List Nat) (f : Nat → V) {i : Nat} (hi : i < 105) : rdP most seen f i = rdL most seen i := by
  have : most = 0 ∨ most = 1 ∨ most = 2 ∨ most = 3 := by omega
  by_cases h : i < 53
  · rcases this with rfl | rfl | rfl | rfl
    · exact at_upTo (rd_0_0 seen f) (Nat.zero_le _) (by omega)
    · exact at_upTo (rd_1_0 seen f) (Nat.zero_le _) (by omega)
    · exact at_upTo (rd_2_0 seen f) (Nat.zero_le _) (by omega)
    · exact at_upTo (rd_3_0 seen f) (Nat.zero_le _) (by omega)
  · rcases this with rfl | rfl | rfl | rfl
    · exact at_upTo (rd_0_53 seen f) (by omega) (by omega)
    · exact at_upTo (rd_1_53 seen f) (by omega) (by omega)
    · exact at_upTo (rd_2_53 seen f) (by omega) (by omega)
    · exact at_upTo (rd_3_53 seen f) (by omega) (by omega)
theorem wt_le : ∀ i, wt i ≤ 3 := by
  have h : mapL wt (upTo 105 0) = mapL (fun i => optC (nth wts i) 0 fun w => w) (upTo 105 0) := rfl
  have key : ∀ w ∈ wts, w ≤ 3 := by decide
  intro i
  unfold wt
  cases hn : nth wts i with
  | none => exact Nat.zero_le _
  | some w =>
    rw [optC_some]
    exact key w (by rw [nth_eq] at hn; exact List.mem_of_getElem? hn)
theorem kv_len : kvs.length = 105 := by kernel_rfl
theorem kv_at {i : Nat} {k v : V} (h : kvs[i]? = some (k, v)) : keyOf i = k ∧ valOf i = v := by
  rw [← nth_eq] at h
  unfold keyOf valOf
  rw [h]; exact ⟨rfl, rfl⟩
theorem nops_eq : nops = ⟨some 52, .next (.tmp 51) false, 0, "table.go:47", #[], none⟩ :: nos := by kernel_rfl
noncomputable def MidN (n : Nat) (T : List V) (m : M) (s : S) : Prop :=
  (∃ seen most f i, unseen seen 105 = n ∧ Inv seen most ∧ i < 105 ∧ i ∉ seen ∧ runN (nextT f i) nM5 (nextS most seen i) = .norm T m s) ∨
  (∃ seen most f, Inv seen most ∧ (∀ i, i < 105 → i ∈ seen) ∧ runN (doneT f) nM5 (mkS 30 (stL most seen)) = .norm T m s)
noncomputable def PostL (r : R) : Prop := ∃ f s, r = .exit 8 (fillT lits f 0) nM5 s ∧ Sub (mkS 30 stE) s
theorem body_is : bodyC = .seq (sl bodyC) (sr bodyC) := by kernel_rfl
noncomputable def ridOf (c : Code) : Nat := match c with | .region id _ _ => id | _ => 0
noncomputable def opsA (c : Code) : Array Oper := match c with | .region _ ops _ => ops | _ => #[]
theorem region_is : ∃ id ops, sl bodyC = .region id ops false ∧ ops.toList = nops := ⟨ridOf (sl bodyC), opsA (sl bodyC), by kernel_rfl, by kernel_rfl⟩
theorem iter_at (most : Nat) (seen : List Nat) : (mkS 30 (stL most seen)).heap.get 29 = some (.miter 0 105 seen) := by kernel_rfl
theorem map_at (most : Nat) (seen : List Nat) : (mkS 30 (stL most seen)).heap.get 0 = some bk0_4 := by kernel_rfl
theorem bk0_is : bk0_4 = .amap kvs := by kernel_rfl
theorem t51_is (f : Nat → V) : nth (fillT lits f 0) 51 = some (.ptr 29 0) := by kernel_rfl
theorem sub_done (seen : List Nat) : Sub (mkS 30 stE) (mkS 30 (stL 3 seen)) := sub_of rfl rfl (by kernel_rfl)
theorem Sub.trans {s s' s'' : S} (h : Sub s s') (k : Sub s' s'') : Sub s s'' := ⟨h.next.trans k.next, h.lo.trans k.lo, fun b hb => (h.low b (by rw [k.lo]; exact hb)).trans (k.low b hb), fun b x hx => k.get b x (h.get b x hx)⟩
theorem isNo_ok {r : R} (h : isNo r = true) : ∃ T m s, r = .norm T m s := by
  cases r <;> first | exact ⟨_, _, _, rfl⟩ | cases h
theorem Tri.seqN {E : Env} {P : Program} {A : Al} {K : Nat → Prop} {pre mid mid2 : List V → M → S → Prop} {x y : Code} {post : R → Prop} (h1 : Tri E P A K pre (.code x) (onNorm mid post)) (h2 : Tri E P A K mid (.code y) (onNorm mid2 post)) : Tri E P A K pre (.code (.seq x y)) (onNorm mid2 post) :=
  Tri.seq (h1.mono (fun _ _ _ h => h) fun r hr => by cases r <;> exact hr) h2
theorem round_next (A : Al) (n : Nat) : Tri E2 Tryz.prog A KN (IR n) (.code (sl bodyC)) (onNorm (MidN n) PostL) := by
  obtain ⟨id, ops, h1, h2⟩ := region_is
  rw [h1]
  refine Tri.next env2_ok rc2_ok (h2.trans nops_eq) ?_
  rintro T m s ⟨seen, most, f, hn, hI, rfl, rfl, rfl⟩
  refine ⟨29, 0, 105, seen, kvs, t51_is f, iter_at most seen, Nat.zero_le _, by rw [map_at, bk0_is], kv_len, fun i k v hi hs he => ?_, fun hall => ?_⟩
  · obtain ⟨rfl, rfl⟩ := kv_at he
    have hrd := rd_all hI.1 seen f hi
    obtain ⟨f', s', q1, q2⟩ := projA_norm hrd
    obtain ⟨T1, m1, s1, p1, p2⟩ := thenR_norm q1
    have hr : runOps nos ops.toList E2 rc2 (setD (fillT lits f 0) (some 52) (.tup [.bool true, keyOf i, valOf i])) nM5 ((mkS 30 (stL most seen)).put 29 (.miter 0 105 (i :: seen))) = .norm T1 m1 s1 := by rw [h2]; exact p1
    rw [hr]
    exact ⟨.inl ⟨seen, most, f, i, hn, hI, hi, hs, p1⟩, fun e => by cases e⟩
  · obtain ⟨T1, m1, s1, p1⟩ := isNo_ok (done_no most seen f)
    have hr : runOps nos ops.toList E2 rc2 (setD (fillT lits f 0) (some 52) (.tup [.bool false])) nM5 (mkS 30 (stL most seen)) = .norm T1 m1 s1 := by rw [h2]; exact p1
    rw [hr]
    exact ⟨.inr ⟨seen, most, f, hI, hall, p1⟩, fun e => by cases e⟩
theorem fit_rest : FitP KN (sr bodyC) := fit_of (by kernel_rfl)
theorem wt9 : wt 9 = 3 := by kernel_rfl
theorem round_rest (A : Al) (n : Nat) : Tri E2 Tryz.prog A KN (MidN n) (.code (sr bodyC)) (onNorm (fun T m s => ∃ n', n' < n ∧ IR n' T m s) PostL) := by
  refine Tri.clean (mid := fun T m s => ∃ n' s', n' < n ∧ IR n' T m s' ∧ Sub s' s) (Tri.exec env2_ok rc2_ok fit_rest ?_) ?_
  · rintro T m s (⟨seen, most, f, i, hn, hI, hi, hs, hr⟩ | ⟨seen, most, f, hI, hall, hr⟩)
    · have hrd := rd_all hI.1 seen f hi
      unfold rdP rdL at hrd
      rw [hr] at hrd
      obtain ⟨f', s', q1, q2⟩ := projA_norm hrd
      have q1 : exec (sr bodyC) E2 rc2 T m s = .norm (fillT lits f' 0) nM5 s' := q1
      rw [q1]
      refine ⟨⟨_, _, by rw [← hn]; exact unseen_lt seen i hs 105 hi, ⟨i :: seen, mx most (wt i), f', rfl, ⟨?_, ?_⟩, rfl, rfl, rfl⟩, q2⟩, fun e => by cases e⟩
      · rw [mx_eq]; have := wt_le i; have := hI.1; omega
      · intro j hj
        rw [mx_eq]
        rcases List.mem_cons.1 hj with rfl | hj
        · omega
        · have := hI.2 j hj; omega
    · have hd := done_ex most seen f
      rw [hr] at hd
      obtain ⟨f', s', q1, q2⟩ := projA_exit hd
      have q1 : exec (sr bodyC) E2 rc2 T m s = .exit 8 (fillT lits f' 0) nM5 s' := q1
      rw [q1]
      have h9 := hI.2 9 (hall 9 (by omega))
      rw [wt9] at h9
      have : most = 3 := by have := hI.1; omega
      subst this
      exact ⟨⟨f', s', rfl, Sub.trans (sub_done seen) q2⟩, fun e => by cases e⟩
  · rintro T m s ⟨n', s', h1, h2, h3⟩
    exact ⟨s', h3, n', h1, h2⟩
theorem loop_tri (A : Al) (n : Nat) : Tri E2 Tryz.prog A KN (IR n) (.code (.loop bodyC)) PostL := by
  refine Tri.loop (fun n => ?_) n
  have h := Tri.seqN (round_next A n) (round_rest A n)
  rw [← body_is] at h
  exact h
theorem loopC_is : loopC = .block 8 (.loop bodyC) := by kernel_rfl
theorem blk_tri (A : Al) (n : Nat) {post : R → Prop} : Tri E2 Tryz.prog A KN (IR n) (.code loopC) (onNorm (fun T m s => (∃ f, T = fillT lits f 0) ∧ m = nM5 ∧ s = mkS 30 stE) post) := by
  rw [loopC_is]
  refine Tri.clean (mid := fun T m s => (∃ f, T = fillT lits f 0) ∧ m = nM5 ∧ Sub (mkS 30 stE) s) (Tri.block ((loop_tri A n).mono (fun _ _ _ h => h) ?_)) ?_
  · rintro r ⟨f, s, rfl, hs⟩
    exact ⟨⟨f, rfl⟩, rfl, hs⟩
  · rintro T m s ⟨h1, h2, h3⟩
    exact ⟨_, h3, h1, h2, rfl⟩
/-- The state ahead of the rounds is that of no spelling seen. -/
theorem start_is : ∃ f, nT5 = fillT lits f 0 := agree_ok 0 (by kernel_rfl)
theorem start_s : mkS 30 nB5 = mkS 30 (stL 0 []) := by kernel_rfl
theorem whole (A : Al) : Tri E2 Tryz.prog A KN (fun T m s' => T = frame0 Tryz.f394 [] ∧ m = bodyM false none ∧ s' = s0) (.code bNew) (fun r => bodyEnd E2 rc2 Tryz.f394 r = ntR) := by
  have sq : ∀ c : Code, True := fun _ => trivial
  have e0 : bNew = .seq (sl bNew) (.seq (sl q1) (.seq (sl q2) (.seq (sl q3) (.seq (sl q4) (.seq (.seq (sl (sl q5)) loopC) (sr q5)))))) := by kernel_rfl
  have h5 : Tri E2 Tryz.prog A KN (fun T m s => T = nT4 ∧ m = nM4 ∧ s = mkS 29 nB4) (.code (sl (sl q5))) (onNorm (fun T m s => T = nT5 ∧ m = nM5 ∧ s = mkS 30 nB5) (fun r => bodyEnd E2 rc2 Tryz.f394 r = ntR)) := Tri.piece env2_ok rc2_ok (fit_of (by kernel_rfl)) np5
  have h4 : Tri E2 Tryz.prog A KN (fun T m s => T = nT3 ∧ m = nM3 ∧ s = mkS 10 nB3) (.code (sl q4)) (onNorm (fun T m s => T = nT4 ∧ m = nM4 ∧ s = mkS 29 nB4) (fun r => bodyEnd E2 rc2 Tryz.f394 r = ntR)) := Tri.piece env2_ok rc2_ok (fit_of (by kernel_rfl)) np4
  have h3 : Tri E2 Tryz.prog A KN (fun T m s => T = nT2 ∧ m = nM2 ∧ s = mkS 7 nB2) (.code (sl q3)) (onNorm (fun T m s => T = nT3 ∧ m = nM3 ∧ s = mkS 10 nB3) (fun r => bodyEnd E2 rc2 Tryz.f394 r = ntR)) := Tri.piece env2_ok rc2_ok (fit_of (by kernel_rfl)) np3
  have h2 : Tri E2 Tryz.prog A KN (fun T m s => T = nT1 ∧ m = nM1 ∧ s = mkS 4 nB1) (.code (sl q2)) (onNorm (fun T m s => T = nT2 ∧ m = nM2 ∧ s = mkS 7 nB2) (fun r => bodyEnd E2 rc2 Tryz.f394 r = ntR)) := Tri.piece env2_ok rc2_ok (fit_of (by kernel_rfl)) np2
  have hl : Tri E2 Tryz.prog A KN (fun T m s => (∃ f, T = fillT lits f 0) ∧ m = nM5 ∧ s = mkS 30 stE) (.code (sr q5)) (fun r => bodyEnd E2 rc2 Tryz.f394 r = ntR) := by
    refine Tri.exec env2_ok rc2_ok (fit_of (by kernel_rfl)) ?_
    rintro T m s ⟨⟨f, rfl⟩, rfl, rfl⟩
    refine ⟨last_is f, fun e => ?_⟩
    have := last_is f
    rw [e] at this
    cases this
  have h6 : Tri E2 Tryz.prog A KN (fun T m s => T = nT5 ∧ m = nM5 ∧ s = mkS 30 nB5) (.code loopC) (onNorm (fun T m s => (∃ f, T = fillT lits f 0) ∧ m = nM5 ∧ s = mkS 30 stE) (fun r => bodyEnd E2 rc2 Tryz.f394 r = ntR)) := by
    refine (blk_tri A 105).mono ?_ fun _ h => h
    rintro T m s ⟨rfl, rfl, rfl⟩
    obtain ⟨f, hf⟩ := start_is
    exact ⟨[], 0, f, by decide, ⟨by omega, fun i h => by cases h⟩, hf, rfl, start_s⟩
  -- the first two pieces at once
  obtain ⟨s1, k1, k2⟩ := projN_eq np1
  obtain ⟨T0, m0, s00, j1, j2⟩ := thenR_norm k1
  have h0 : Tri E2 Tryz.prog A KN (fun T m s' => T = frame0 Tryz.f394 [] ∧ m = bodyM false none ∧ s' = s0) (.code (sl bNew)) (onNorm (fun T m s => T = T0 ∧ m = m0 ∧ s = s00) (fun r => bodyEnd E2 rc2 Tryz.f394 r = ntR)) := by
    refine Tri.exec env2_ok rc2_ok (fit_of (by kernel_rfl)) ?_
    rintro T m s ⟨rfl, rfl, rfl⟩
    rw [j1]; exact ⟨⟨rfl, rfl, rfl⟩, fun e => by cases e⟩
  have h1 : Tri E2 Tryz.prog A KN (fun T m s => T = T0 ∧ m = m0 ∧ s = s00) (.code (sl q1)) (onNorm (fun T m s => T = nT1 ∧ m = nM1 ∧ s = mkS 4 nB1) (fun r => bodyEnd E2 rc2 Tryz.f394 r = ntR)) := by
    refine Tri.clean (mid := fun T m s => T = nT1 ∧ m = nM1 ∧ s = s1) (Tri.exec env2_ok rc2_ok (fit_of (by kernel_rfl)) ?_) ?_
    · rintro T m s ⟨rfl, rfl, rfl⟩
      rw [j2]; exact ⟨⟨rfl, rfl, rfl⟩, fun e => by cases e⟩
    · rintro T m s ⟨rfl, rfl, rfl⟩
      exact ⟨_, k2, rfl, rfl, rfl⟩
  rw [e0]
  exact Tri.seq h0 (Tri.seq h1 (Tri.seq h2 (Tri.seq h3 (Tri.seq h4 (Tri.seq (Tri.seqN h5 h6) hl)))))
theorem fn391 : E2.fn 394 = some Tryz.f394 := by kernel_rfl
theorem body391 : Tryz.f394.body = some bNew := by kernel_rfl
theorem newTable_ok : SumOk E2 Tryz.prog 394 (glueH ntR) := glue_of fun A1 W R0 =>
  body_tri env2_ok rc2_ok fn391 body391 R0 .nil fun A => whole A
noncomputable def ov3 (f : Nat) : Option (List V → S → CR) := boolC (Nat.beq f 394) none (some (glueH ntR))
noncomputable def E3 : Env := E2.over ov3
theorem env3_ok : EnvOk E3 Tryz.prog := env2_ok.over ov3
theorem ov3_ok : OvOk E3 Tryz.prog := ov2_ok.over fun f k h => by
  unfold ov3 at h
  rw [boolC_eq] at h
  split at h
  · rename_i he
    have he := Nat.eq_of_beq_eq_true he
    subst he
    injection h with h
    subst h
    exact newTable_ok
  · cases h
end
end Go.AM.S40
