import Derived.Test.YtlphhdagahhelaaGreatDoorL40Sym4
set_option linter.all false
/- The law's own part: ConsoleJumps. -/
set_option maxRecDepth 100000
namespace Go.AM.L40.Sy
open Go Go.Proofs
noncomputable section
noncomputable def b3 : Code := match Tryz.f3.body with | some c => c | none => .skip
noncomputable def K0 : Code := sl b3
noncomputable def K1 : Code := sl (sl (sr b3))
noncomputable def K2 : Code := match sr (sl (sr b3)) with | .cond _ a _ => sl a | c => c
noncomputable def kR : Code := sr (sr b3)
noncomputable def K3 : Code := sl (sl kR)
noncomputable def K4 : Code := match sr (sl kR) with | .cond _ a _ => sl a | c => c
noncomputable def K5 : Code := sl (sr kR)
noncomputable def K6 : Code := sl (sr (sr kR))
noncomputable def K7 : Code := sl (sr (sr (sr kR)))
noncomputable def K8 : Code := sl (sr (sr (sr (sr kR))))
noncomputable def K9 : Code := sl (sr (sr (sr (sr (sr kR)))))
noncomputable def kops1 : List Oper := opsL K1
noncomputable def kops9 : List Oper := opsL K9
theorem b3_is : b3 = .seq K0 (.seq (.seq K1 (.cond (.tmp 14) (.seq K2 .ret) .skip)) (.seq (.seq K3 (.cond (.tmp 17) (.seq K4 .ret) .skip)) (.seq K5 (.seq K6 (.seq K7 (.seq K8 (.seq K9 .ret))))))) := by kernel_rfl
abbrev OV := Option V
noncomputable def lit3 (L v : V) (o5 o6 o7 o8 o9 o10 o11 o12 : V) : List OV := some L :: some v :: none :: none :: none :: some o5 :: some o6 :: some o7 :: some o8 :: some o9 :: some o10 :: some o11 :: some o12 :: nones (Tryz.f3.ntmps - 13)
noncomputable def T3 (L v : V) (o5 o6 o7 o8 o9 o10 o11 o12 : V) (f : Nat → V) : List V := fillT (lit3 L v o5 o6 o7 o8 o9 o10 o11 o12) f 0
section
variable (L v x y : V) (o5 o6 o7 o8 o9 o10 o11 o12 : V) (f : Nat → V) (rc : Rec) (m : M) (s : S) (T : List V) (l : List Ev) (k : Bool)
noncomputable def F3 : List V := frame0 Tryz.f3 [L, v]
theorem k0_is : exec K0 EZ rc (F3 L v) m s = .norm (regT K0 (F3 L v)) m s := by kernel_rfl
theorem k1_is : exec K1 EZ rc (regT K0 (F3 L v)) m s = calledK (rc.call 4 [] s) (regT K0 (F3 L v)) m (fun w m s => runE' (dropN 1 kops1) kops1 rc (setD (regT K0 (F3 L v)) (some 13) w) m s) := by kernel_rfl
theorem call4 : doCall EZ rc 4 [] s = .ret (.bool true) s false := by kernel_rfl
noncomputable def KA : List V := opsT (dropN 1 kops1) kops1 (setD (regT K0 (F3 L v)) (some 13) (.bool true))
theorem k1_2 : runE' (dropN 1 kops1) kops1 rc (setD (regT K0 (F3 L v)) (some 13) (.bool true)) m s = .norm (KA L v) m s := by kernel_rfl
theorem KA_14 : nth (KA L v) 14 = some (.bool false) := by kernel_rfl
theorem KA_T : KA L v = T3 L v (getV (KA L v) 5) (getV (KA L v) 6) (getV (KA L v) 7) (getV (KA L v) 8) (getV (KA L v) 9) (getV (KA L v) 10) (getV (KA L v) 11) (getV (KA L v) 12) (getV (KA L v)) := by kernel_rfl
theorem k3_a : exec K3 EZ rc (T3 (LL l k) v o5 o6 o7 o8 o9 o10 o11 o12 f) m s = .norm (regT K3 (T3 (LL l k) v o5 o6 o7 o8 o9 o10 o11 o12 f)) m s := by kernel_rfl
theorem k3_b : exec K3 EZ rc (T3 .nils v o5 o6 o7 o8 o9 o10 o11 o12 f) m s = .norm (regT K3 (T3 .nils v o5 o6 o7 o8 o9 o10 o11 o12 f)) m s := by kernel_rfl
theorem k3_a17 : nth (regT K3 (T3 (LL l k) v o5 o6 o7 o8 o9 o10 o11 o12 f)) 17 = some (.bool (!leI (Int.ofNat l.length) 5000)) := by kernel_rfl
theorem k3_b17 : nth (regT K3 (T3 .nils v o5 o6 o7 o8 o9 o10 o11 o12 f)) 17 = some (.bool (!leI (Int.ofNat 0) 5000)) := by kernel_rfl
theorem k3_aT : regT K3 (T3 (LL l k) v o5 o6 o7 o8 o9 o10 o11 o12 f) = T3 (LL l k) v o5 o6 o7 o8 o9 o10 o11 o12 (getV (regT K3 (T3 (LL l k) v o5 o6 o7 o8 o9 o10 o11 o12 f))) := by kernel_rfl
theorem k3_bT : regT K3 (T3 .nils v o5 o6 o7 o8 o9 o10 o11 o12 f) = T3 .nils v o5 o6 o7 o8 o9 o10 o11 o12 (getV (regT K3 (T3 .nils v o5 o6 o7 o8 o9 o10 o11 o12 f))) := by kernel_rfl
theorem k4_is : exec (.seq K4 .ret) EZ rc (T3 L v o5 o6 o7 o8 o9 o10 o11 o12 f) m s = .ret (regT K4 (T3 L v o5 o6 o7 o8 o9 o10 o11 o12 f)) m s := by kernel_rfl
theorem k4_4 : nth (regT K4 (T3 L v o5 o6 o7 o8 o9 o10 o11 o12 f)) 4 = some (.bool true) := by kernel_rfl
theorem end3 : bodyEnd EZ rc Tryz.f3 (.ret T (bodyM false none) s) = optC (consO (nth T 4) (some [])) .fail (fun l => .ret (tupled l) s false) := by kernel_rfl
theorem do3 : doBody EZ rc 3 [L, v] false none s = bodyEnd EZ rc Tryz.f3 (exec b3 EZ rc (F3 L v) (bodyM false none) s) := by kernel_rfl
theorem call3 (args : List V) : doCall EZ rc 3 args s = doBody EZ rc 3 args false none s := by kernel_rfl
noncomputable def k5o : List Oper := opsL K5
noncomputable def k5Z : List V := opsT (takeB 2 k5o) k5o (T3 L v o5 o6 o7 o8 o9 o10 o11 o12 f)
theorem k5_1 : exec K5 EZ rc (T3 L v o5 o6 o7 o8 o9 o10 o11 o12 f) m s = calledK (rc.call 5 [L, v] s) (k5Z L v o5 o6 o7 o8 o9 o10 o11 o12 f) m (fun w m s => runE' (dropN 3 k5o) k5o rc (setD (k5Z L v o5 o6 o7 o8 o9 o10 o11 o12 f) (some 21) w) m s) := by kernel_rfl
noncomputable def k5Q : List V := opsT (dropN 3 k5o) k5o (setD (k5Z L v o5 o6 o7 o8 o9 o10 o11 o12 f) (some 21) (.tup [x, y]))
theorem k5_2 : runE' (dropN 3 k5o) k5o rc (setD (k5Z L v o5 o6 o7 o8 o9 o10 o11 o12 f) (some 21) (.tup [x, y])) m s = .norm (k5Q L v x y o5 o6 o7 o8 o9 o10 o11 o12 f) m s := by kernel_rfl
theorem k5_T : k5Q L v x y o5 o6 o7 o8 o9 o10 o11 o12 f = T3 L v x y o7 o8 o9 o10 o11 o12 (getV (k5Q L v x y o5 o6 o7 o8 o9 o10 o11 o12 f)) := by kernel_rfl
noncomputable def k6o : List Oper := opsL K6
noncomputable def k6Z : List V := opsT (takeB 2 k6o) k6o (T3 L v o5 o6 o7 o8 o9 o10 o11 o12 f)
theorem k6_1 : exec K6 EZ rc (T3 L v o5 o6 o7 o8 o9 o10 o11 o12 f) m s = calledK (rc.call 6 [L, v] s) (k6Z L v o5 o6 o7 o8 o9 o10 o11 o12 f) m (fun w m s => runE' (dropN 3 k6o) k6o rc (setD (k6Z L v o5 o6 o7 o8 o9 o10 o11 o12 f) (some 27) w) m s) := by kernel_rfl
noncomputable def k6Q : List V := opsT (dropN 3 k6o) k6o (setD (k6Z L v o5 o6 o7 o8 o9 o10 o11 o12 f) (some 27) (.tup [x, y]))
theorem k6_2 : runE' (dropN 3 k6o) k6o rc (setD (k6Z L v o5 o6 o7 o8 o9 o10 o11 o12 f) (some 27) (.tup [x, y])) m s = .norm (k6Q L v x y o5 o6 o7 o8 o9 o10 o11 o12 f) m s := by kernel_rfl
theorem k6_T : k6Q L v x y o5 o6 o7 o8 o9 o10 o11 o12 f = T3 L v o5 o6 x y o9 o10 o11 o12 (getV (k6Q L v x y o5 o6 o7 o8 o9 o10 o11 o12 f)) := by kernel_rfl
noncomputable def k7o : List Oper := opsL K7
noncomputable def k7Z : List V := opsT (takeB 2 k7o) k7o (T3 L v o5 o6 o7 o8 o9 o10 o11 o12 f)
theorem k7_1 : exec K7 EZ rc (T3 L v o5 o6 o7 o8 o9 o10 o11 o12 f) m s = calledK (rc.call 7 [L, v] s) (k7Z L v o5 o6 o7 o8 o9 o10 o11 o12 f) m (fun w m s => runE' (dropN 3 k7o) k7o rc (setD (k7Z L v o5 o6 o7 o8 o9 o10 o11 o12 f) (some 33) w) m s) := by kernel_rfl
noncomputable def k7Q : List V := opsT (dropN 3 k7o) k7o (setD (k7Z L v o5 o6 o7 o8 o9 o10 o11 o12 f) (some 33) (.tup [x, y]))
theorem k7_2 : runE' (dropN 3 k7o) k7o rc (setD (k7Z L v o5 o6 o7 o8 o9 o10 o11 o12 f) (some 33) (.tup [x, y])) m s = .norm (k7Q L v x y o5 o6 o7 o8 o9 o10 o11 o12 f) m s := by kernel_rfl
theorem k7_T : k7Q L v x y o5 o6 o7 o8 o9 o10 o11 o12 f = T3 L v o5 o6 o7 o8 x y o11 o12 (getV (k7Q L v x y o5 o6 o7 o8 o9 o10 o11 o12 f)) := by kernel_rfl
noncomputable def k8o : List Oper := opsL K8
noncomputable def k8Z : List V := opsT (takeB 2 k8o) k8o (T3 L v o5 o6 o7 o8 o9 o10 o11 o12 f)
theorem k8_1 : exec K8 EZ rc (T3 L v o5 o6 o7 o8 o9 o10 o11 o12 f) m s = calledK (rc.call 8 [L, v] s) (k8Z L v o5 o6 o7 o8 o9 o10 o11 o12 f) m (fun w m s => runE' (dropN 3 k8o) k8o rc (setD (k8Z L v o5 o6 o7 o8 o9 o10 o11 o12 f) (some 39) w) m s) := by kernel_rfl
noncomputable def k8Q : List V := opsT (dropN 3 k8o) k8o (setD (k8Z L v o5 o6 o7 o8 o9 o10 o11 o12 f) (some 39) (.tup [x, y]))
theorem k8_2 : runE' (dropN 3 k8o) k8o rc (setD (k8Z L v o5 o6 o7 o8 o9 o10 o11 o12 f) (some 39) (.tup [x, y])) m s = .norm (k8Q L v x y o5 o6 o7 o8 o9 o10 o11 o12 f) m s := by kernel_rfl
theorem k8_T : k8Q L v x y o5 o6 o7 o8 o9 o10 o11 o12 f = T3 L v o5 o6 o7 o8 o9 o10 x y (getV (k8Q L v x y o5 o6 o7 o8 o9 o10 o11 o12 f)) := by kernel_rfl
end
theorem step5 {L v x y : V} {o5 o6 o7 o8 o9 o10 o11 o12 : V} {rc : Rec} {m : M} {s s' : S} (f : Nat → V) (h : rc.call 5 [L, v] s = .ret (.tup [x, y]) s' false) :
    ∃ f', exec K5 EZ rc (T3 L v o5 o6 o7 o8 o9 o10 o11 o12 f) m s = .norm (T3 L v x y o7 o8 o9 o10 o11 o12 f') m s' := by
  refine ⟨getV (k5Q L v x y o5 o6 o7 o8 o9 o10 o11 o12 f), ?_⟩
  rw [k5_1, h]
  exact (k5_2 L v x y o5 o6 o7 o8 o9 o10 o11 o12 f rc m s').trans (congrArg (fun T => R.norm T m s') (k5_T ..))
theorem step6 {L v x y : V} {o5 o6 o7 o8 o9 o10 o11 o12 : V} {rc : Rec} {m : M} {s s' : S} (f : Nat → V) (h : rc.call 6 [L, v] s = .ret (.tup [x, y]) s' false) :
    ∃ f', exec K6 EZ rc (T3 L v o5 o6 o7 o8 o9 o10 o11 o12 f) m s = .norm (T3 L v o5 o6 x y o9 o10 o11 o12 f') m s' := by
  refine ⟨getV (k6Q L v x y o5 o6 o7 o8 o9 o10 o11 o12 f), ?_⟩
  rw [k6_1, h]
  exact (k6_2 L v x y o5 o6 o7 o8 o9 o10 o11 o12 f rc m s').trans (congrArg (fun T => R.norm T m s') (k6_T ..))
theorem step7 {L v x y : V} {o5 o6 o7 o8 o9 o10 o11 o12 : V} {rc : Rec} {m : M} {s s' : S} (f : Nat → V) (h : rc.call 7 [L, v] s = .ret (.tup [x, y]) s' false) :
    ∃ f', exec K7 EZ rc (T3 L v o5 o6 o7 o8 o9 o10 o11 o12 f) m s = .norm (T3 L v o5 o6 o7 o8 x y o11 o12 f') m s' := by
  refine ⟨getV (k7Q L v x y o5 o6 o7 o8 o9 o10 o11 o12 f), ?_⟩
  rw [k7_1, h]
  exact (k7_2 L v x y o5 o6 o7 o8 o9 o10 o11 o12 f rc m s').trans (congrArg (fun T => R.norm T m s') (k7_T ..))
theorem step8 {L v x y : V} {o5 o6 o7 o8 o9 o10 o11 o12 : V} {rc : Rec} {m : M} {s s' : S} (f : Nat → V) (h : rc.call 8 [L, v] s = .ret (.tup [x, y]) s' false) :
    ∃ f', exec K8 EZ rc (T3 L v o5 o6 o7 o8 o9 o10 o11 o12 f) m s = .norm (T3 L v o5 o6 o7 o8 o9 o10 x y f') m s' := by
  refine ⟨getV (k8Q L v x y o5 o6 o7 o8 o9 o10 o11 o12 f), ?_⟩
  rw [k8_1, h]
  exact (k8_2 L v x y o5 o6 o7 o8 o9 o10 o11 o12 f rc m s').trans (congrArg (fun T => R.norm T m s') (k8_T ..))
theorem bin_refl {t : Nat} {T : List V} {s : S} {x y : Operand} {a : Int} (hx : opv EZ T x = some (.int .i64 a)) (hy : opv EZ T y = some (.int .i64 a)) : oBin .eql t x y EZ T s = some (.bool true, s) := by
  unfold oBin
  rw [hx, hy]
  show some (V.bool (eqI a a), s) = _
  rw [eqI_eq, decide_eq_true rfl]
noncomputable def kop (i : Nat) : Oper := optC (nth kops9 i) default fun o => o
theorem step9 {rc : Rec} {m : M} {s : S} {T : List V} {x : V} {i : Nat} {os os' : List Oper} (ho : os = kop i :: os') (hw : wantedIn kops9 T (kop i).guard = true) (hd : ∀ kk : Go.AM.K, doOp (kop i).op EZ rc T m s kk = kk x m s) : runOps os kops9 EZ rc T m s = runOps os' kops9 EZ rc (setD T (kop i).dst x) m s := by
  rw [ho]
  show boolC (wantedIn kops9 T (kop i).guard) _ (doOp (kop i).op EZ rc T m s fun v m s => runOps os' kops9 EZ rc (setD T (kop i).dst v) m s) = _
  rw [hw, hd]; rfl
theorem exec_reg {E : Env} {rc : Rec} {T : List V} {m : M} {s : S} (id : Nat) (ops : Array Oper) : exec (.region id ops false) E rc T m s = runOps ops.toList ops.toList E rc T m s := rfl
noncomputable def kid (c : Code) : Nat := match c with | .region i _ _ => i | _ => 0
noncomputable def kar (c : Code) : Array Oper := match c with | .region _ o _ => o | _ => #[]
theorem K9_region : K9 = .region (kid K9) (kar K9) false := by kernel_rfl
theorem K9_ops : (kar K9).toList = kops9 := by kernel_rfl
theorem K9_reg {rc : Rec} {T : List V} {m : M} {s : S} : exec K9 EZ rc T m s = runOps kops9 kops9 EZ rc T m s := by
  rw [K9_region, exec_reg, K9_ops]
theorem k9at0 : kops9 = kop 0 :: dropN 1 kops9 := by kernel_rfl
theorem k9at1 : dropN 1 kops9 = kop 1 :: dropN 2 kops9 := by kernel_rfl
theorem k9at2 : dropN 2 kops9 = kop 2 :: dropN 3 kops9 := by kernel_rfl
theorem k9at3 : dropN 3 kops9 = kop 3 :: dropN 4 kops9 := by kernel_rfl
theorem k9at4 : dropN 4 kops9 = kop 4 :: dropN 5 kops9 := by kernel_rfl
theorem k9at5 : dropN 5 kops9 = kop 5 :: dropN 6 kops9 := by kernel_rfl
theorem k9at6 : dropN 6 kops9 = kop 6 :: dropN 7 kops9 := by kernel_rfl
theorem k9at7 : dropN 7 kops9 = kop 7 :: dropN 8 kops9 := by kernel_rfl
theorem k9at8 : dropN 8 kops9 = kop 8 :: dropN 9 kops9 := by kernel_rfl
theorem k9at9 : dropN 9 kops9 = kop 9 :: dropN 10 kops9 := by kernel_rfl
theorem k9at10 : dropN 10 kops9 = kop 10 :: dropN 11 kops9 := by kernel_rfl
theorem k9at11 : dropN 11 kops9 = kop 11 :: dropN 12 kops9 := by kernel_rfl
theorem k9at12 : dropN 12 kops9 = kop 12 :: dropN 13 kops9 := by kernel_rfl
theorem k9at13 : dropN 13 kops9 = kop 13 :: dropN 14 kops9 := by kernel_rfl
theorem k9at14 : dropN 14 kops9 = kop 14 :: dropN 15 kops9 := by kernel_rfl
theorem k9at15 : dropN 15 kops9 = kop 15 :: dropN 16 kops9 := by kernel_rfl
theorem k9at16 : dropN 16 kops9 = kop 16 :: dropN 17 kops9 := by kernel_rfl
theorem k9at17 : dropN 17 kops9 = kop 17 :: dropN 18 kops9 := by kernel_rfl
theorem k9at18 : dropN 18 kops9 = kop 18 :: dropN 19 kops9 := by kernel_rfl
theorem k9end : dropN 19 kops9 = [] := by kernel_rfl
section
variable (L v : V) (a b c d : Int) (f : Nat → V) (rc : Rec) (m : M) (s : S)
noncomputable def T9 : List V := T3 L v (.int .i64 a) (.int .i64 b) (.int .i64 a) (.int .i64 b) (.int .i64 c) (.int .i64 d) (.int .i64 c) (.int .i64 d) f
noncomputable def M0 : List V := T9 L v a b c d f
theorem wi0 : wantedIn kops9 (M0 L v a b c d f) (kop 0).guard = true := by kernel_rfl
theorem d0 (kk : Go.AM.K) : doOp (kop 0).op EZ rc (M0 L v a b c d f) m s kk = kk (.int .i64 a) m s := by kernel_rfl
noncomputable def M1 : List V := setD (M0 L v a b c d f) (kop 0).dst (.int .i64 a)
theorem wi1 : wantedIn kops9 (M1 L v a b c d f) (kop 1).guard = true := by kernel_rfl
theorem d1 (kk : Go.AM.K) : doOp (kop 1).op EZ rc (M1 L v a b c d f) m s kk = kk (.int .i64 a) m s := by kernel_rfl
noncomputable def M2 : List V := setD (M1 L v a b c d f) (kop 1).dst (.int .i64 a)
theorem wi2 : wantedIn kops9 (M2 L v a b c d f) (kop 2).guard = true := by kernel_rfl
theorem d2a (kk : Go.AM.K) : doOp (kop 2).op EZ rc (M2 L v a b c d f) m s kk = withK (oBin .eql 3 (.tmp 42) (.tmp 43) EZ (M2 L v a b c d f) s) m kk := by kernel_rfl
theorem d2x : opv EZ (M2 L v a b c d f) (.tmp 42) = some (.int .i64 a) := by kernel_rfl
theorem d2y : opv EZ (M2 L v a b c d f) (.tmp 43) = some (.int .i64 a) := by kernel_rfl
theorem d2 (kk : Go.AM.K) : doOp (kop 2).op EZ rc (M2 L v a b c d f) m s kk = kk (.bool true) m s := by
  rw [d2a, bin_refl (d2x ..) (d2y ..)]; rfl
noncomputable def M3 : List V := setD (M2 L v a b c d f) (kop 2).dst (.bool true)
theorem wi3 : wantedIn kops9 (M3 L v a b c d f) (kop 3).guard = true := by kernel_rfl
theorem d3 (kk : Go.AM.K) : doOp (kop 3).op EZ rc (M3 L v a b c d f) m s kk = kk (.bool true) m s := by kernel_rfl
noncomputable def M4 : List V := setD (M3 L v a b c d f) (kop 3).dst (.bool true)
theorem wi4 : wantedIn kops9 (M4 L v a b c d f) (kop 4).guard = true := by kernel_rfl
theorem d4 (kk : Go.AM.K) : doOp (kop 4).op EZ rc (M4 L v a b c d f) m s kk = kk (.int .i64 b) m s := by kernel_rfl
noncomputable def M5 : List V := setD (M4 L v a b c d f) (kop 4).dst (.int .i64 b)
theorem wi5 : wantedIn kops9 (M5 L v a b c d f) (kop 5).guard = true := by kernel_rfl
theorem d5 (kk : Go.AM.K) : doOp (kop 5).op EZ rc (M5 L v a b c d f) m s kk = kk (.int .i64 b) m s := by kernel_rfl
noncomputable def M6 : List V := setD (M5 L v a b c d f) (kop 5).dst (.int .i64 b)
theorem wi6 : wantedIn kops9 (M6 L v a b c d f) (kop 6).guard = true := by kernel_rfl
theorem d6a (kk : Go.AM.K) : doOp (kop 6).op EZ rc (M6 L v a b c d f) m s kk = withK (oBin .eql 24 (.tmp 46) (.tmp 47) EZ (M6 L v a b c d f) s) m kk := by kernel_rfl
theorem d6x : opv EZ (M6 L v a b c d f) (.tmp 46) = some (.int .i64 b) := by kernel_rfl
theorem d6y : opv EZ (M6 L v a b c d f) (.tmp 47) = some (.int .i64 b) := by kernel_rfl
theorem d6 (kk : Go.AM.K) : doOp (kop 6).op EZ rc (M6 L v a b c d f) m s kk = kk (.bool true) m s := by
  rw [d6a, bin_refl (d6x ..) (d6y ..)]; rfl
noncomputable def M7 : List V := setD (M6 L v a b c d f) (kop 6).dst (.bool true)
theorem wi7 : wantedIn kops9 (M7 L v a b c d f) (kop 7).guard = true := by kernel_rfl
theorem d7 (kk : Go.AM.K) : doOp (kop 7).op EZ rc (M7 L v a b c d f) m s kk = kk (.bool true) m s := by kernel_rfl
noncomputable def M8 : List V := setD (M7 L v a b c d f) (kop 7).dst (.bool true)
theorem wi8 : wantedIn kops9 (M8 L v a b c d f) (kop 8).guard = true := by kernel_rfl
theorem d8 (kk : Go.AM.K) : doOp (kop 8).op EZ rc (M8 L v a b c d f) m s kk = kk (.bool true) m s := by kernel_rfl
noncomputable def M9 : List V := setD (M8 L v a b c d f) (kop 8).dst (.bool true)
theorem wi9 : wantedIn kops9 (M9 L v a b c d f) (kop 9).guard = true := by kernel_rfl
theorem d9 (kk : Go.AM.K) : doOp (kop 9).op EZ rc (M9 L v a b c d f) m s kk = kk (.int .i64 c) m s := by kernel_rfl
noncomputable def M10 : List V := setD (M9 L v a b c d f) (kop 9).dst (.int .i64 c)
theorem wi10 : wantedIn kops9 (M10 L v a b c d f) (kop 10).guard = true := by kernel_rfl
theorem d10 (kk : Go.AM.K) : doOp (kop 10).op EZ rc (M10 L v a b c d f) m s kk = kk (.int .i64 c) m s := by kernel_rfl
noncomputable def M11 : List V := setD (M10 L v a b c d f) (kop 10).dst (.int .i64 c)
theorem wi11 : wantedIn kops9 (M11 L v a b c d f) (kop 11).guard = true := by kernel_rfl
theorem d11a (kk : Go.AM.K) : doOp (kop 11).op EZ rc (M11 L v a b c d f) m s kk = withK (oBin .eql 3 (.tmp 51) (.tmp 52) EZ (M11 L v a b c d f) s) m kk := by kernel_rfl
theorem d11x : opv EZ (M11 L v a b c d f) (.tmp 51) = some (.int .i64 c) := by kernel_rfl
theorem d11y : opv EZ (M11 L v a b c d f) (.tmp 52) = some (.int .i64 c) := by kernel_rfl
theorem d11 (kk : Go.AM.K) : doOp (kop 11).op EZ rc (M11 L v a b c d f) m s kk = kk (.bool true) m s := by
  rw [d11a, bin_refl (d11x ..) (d11y ..)]; rfl
noncomputable def M12 : List V := setD (M11 L v a b c d f) (kop 11).dst (.bool true)
theorem wi12 : wantedIn kops9 (M12 L v a b c d f) (kop 12).guard = true := by kernel_rfl
theorem d12 (kk : Go.AM.K) : doOp (kop 12).op EZ rc (M12 L v a b c d f) m s kk = kk (.bool true) m s := by kernel_rfl
noncomputable def M13 : List V := setD (M12 L v a b c d f) (kop 12).dst (.bool true)
theorem wi13 : wantedIn kops9 (M13 L v a b c d f) (kop 13).guard = true := by kernel_rfl
theorem d13 (kk : Go.AM.K) : doOp (kop 13).op EZ rc (M13 L v a b c d f) m s kk = kk (.bool true) m s := by kernel_rfl
noncomputable def M14 : List V := setD (M13 L v a b c d f) (kop 13).dst (.bool true)
theorem wi14 : wantedIn kops9 (M14 L v a b c d f) (kop 14).guard = true := by kernel_rfl
theorem d14 (kk : Go.AM.K) : doOp (kop 14).op EZ rc (M14 L v a b c d f) m s kk = kk (.int .i64 d) m s := by kernel_rfl
noncomputable def M15 : List V := setD (M14 L v a b c d f) (kop 14).dst (.int .i64 d)
theorem wi15 : wantedIn kops9 (M15 L v a b c d f) (kop 15).guard = true := by kernel_rfl
theorem d15 (kk : Go.AM.K) : doOp (kop 15).op EZ rc (M15 L v a b c d f) m s kk = kk (.int .i64 d) m s := by kernel_rfl
noncomputable def M16 : List V := setD (M15 L v a b c d f) (kop 15).dst (.int .i64 d)
theorem wi16 : wantedIn kops9 (M16 L v a b c d f) (kop 16).guard = true := by kernel_rfl
theorem d16a (kk : Go.AM.K) : doOp (kop 16).op EZ rc (M16 L v a b c d f) m s kk = withK (oBin .eql 24 (.tmp 56) (.tmp 57) EZ (M16 L v a b c d f) s) m kk := by kernel_rfl
theorem d16x : opv EZ (M16 L v a b c d f) (.tmp 56) = some (.int .i64 d) := by kernel_rfl
theorem d16y : opv EZ (M16 L v a b c d f) (.tmp 57) = some (.int .i64 d) := by kernel_rfl
theorem d16 (kk : Go.AM.K) : doOp (kop 16).op EZ rc (M16 L v a b c d f) m s kk = kk (.bool true) m s := by
  rw [d16a, bin_refl (d16x ..) (d16y ..)]; rfl
noncomputable def M17 : List V := setD (M16 L v a b c d f) (kop 16).dst (.bool true)
theorem wi17 : wantedIn kops9 (M17 L v a b c d f) (kop 17).guard = true := by kernel_rfl
theorem d17 (kk : Go.AM.K) : doOp (kop 17).op EZ rc (M17 L v a b c d f) m s kk = kk (.bool true) m s := by kernel_rfl
noncomputable def M18 : List V := setD (M17 L v a b c d f) (kop 17).dst (.bool true)
theorem wi18 : wantedIn kops9 (M18 L v a b c d f) (kop 18).guard = true := by kernel_rfl
theorem d18 (kk : Go.AM.K) : doOp (kop 18).op EZ rc (M18 L v a b c d f) m s kk = kk (.bool true) m s := by kernel_rfl
noncomputable def M19 : List V := setD (M18 L v a b c d f) (kop 18).dst (.bool true)
theorem m19_4 : nth (M19 L v a b c d f) 4 = some (.bool true) := by kernel_rfl
noncomputable def N5 : List V := M19 L v a b c d f
theorem n5_4 : nth (N5 L v a b c d f) 4 = some (.bool true) := m19_4 ..
theorem k9_is : exec K9 EZ rc (T9 L v a b c d f) m s = .norm (N5 L v a b c d f) m s := by
  rw [K9_reg]
  show runOps kops9 kops9 EZ rc (M0 L v a b c d f) m s = _
  refine (step9 (i := 0) k9at0 (wi0 ..) (d0 L v a b c d f rc m s)).trans ?_
  refine (step9 (i := 1) k9at1 (wi1 ..) (d1 L v a b c d f rc m s)).trans ?_
  refine (step9 (i := 2) k9at2 (wi2 ..) (d2 L v a b c d f rc m s)).trans ?_
  refine (step9 (i := 3) k9at3 (wi3 ..) (d3 L v a b c d f rc m s)).trans ?_
  refine (step9 (i := 4) k9at4 (wi4 ..) (d4 L v a b c d f rc m s)).trans ?_
  refine (step9 (i := 5) k9at5 (wi5 ..) (d5 L v a b c d f rc m s)).trans ?_
  refine (step9 (i := 6) k9at6 (wi6 ..) (d6 L v a b c d f rc m s)).trans ?_
  refine (step9 (i := 7) k9at7 (wi7 ..) (d7 L v a b c d f rc m s)).trans ?_
  refine (step9 (i := 8) k9at8 (wi8 ..) (d8 L v a b c d f rc m s)).trans ?_
  refine (step9 (i := 9) k9at9 (wi9 ..) (d9 L v a b c d f rc m s)).trans ?_
  refine (step9 (i := 10) k9at10 (wi10 ..) (d10 L v a b c d f rc m s)).trans ?_
  refine (step9 (i := 11) k9at11 (wi11 ..) (d11 L v a b c d f rc m s)).trans ?_
  refine (step9 (i := 12) k9at12 (wi12 ..) (d12 L v a b c d f rc m s)).trans ?_
  refine (step9 (i := 13) k9at13 (wi13 ..) (d13 L v a b c d f rc m s)).trans ?_
  refine (step9 (i := 14) k9at14 (wi14 ..) (d14 L v a b c d f rc m s)).trans ?_
  refine (step9 (i := 15) k9at15 (wi15 ..) (d15 L v a b c d f rc m s)).trans ?_
  refine (step9 (i := 16) k9at16 (wi16 ..) (d16 L v a b c d f rc m s)).trans ?_
  refine (step9 (i := 17) k9at17 (wi17 ..) (d17 L v a b c d f rc m s)).trans ?_
  refine (step9 (i := 18) k9at18 (wi18 ..) (d18 L v a b c d f rc m s)).trans ?_
  exact congrArg (fun os => runOps os kops9 EZ rc (M19 L v a b c d f) m s) k9end
end
/-- From what the four calls come to. -/
theorem law_tail {L v o5 o6 o7 o8 o9 o10 o11 o12 : V} {a b c d : Int} {rc : Rec} {s s1 s2 s3 s4 : S} (f : Nat → V) (h5 : rc.call 5 [L, v] s = .ret (.tup [.int .i64 a, .int .i64 b]) s1 false) (h6 : rc.call 6 [L, v] s1 = .ret (.tup [.int .i64 a, .int .i64 b]) s2 false)
    (h7 : rc.call 7 [L, v] s2 = .ret (.tup [.int .i64 c, .int .i64 d]) s3 false) (h8 : rc.call 8 [L, v] s3 = .ret (.tup [.int .i64 c, .int .i64 d]) s4 false) :
    bodyEnd EZ rc Tryz.f3 (exec (.seq K5 (.seq K6 (.seq K7 (.seq K8 (.seq K9 .ret))))) EZ rc (T3 L v o5 o6 o7 o8 o9 o10 o11 o12 f) (bodyM false none) s) = .ret (.bool true) s4 false := by
  have e : ∀ T s, exec (.seq K5 (.seq K6 (.seq K7 (.seq K8 (.seq K9 .ret))))) EZ rc T (bodyM false none) s = thenK (exec K5 EZ rc T (bodyM false none) s) (fun T m s => thenK (exec K6 EZ rc T m s) (fun T m s => thenK (exec K7 EZ rc T m s) (fun T m s => thenK (exec K8 EZ rc T m s) (fun T m s => thenK (exec K9 EZ rc T m s) (exec .ret EZ rc))))) := fun _ _ => rfl
  rw [e]
  obtain ⟨f1, q1⟩ := step5 (o5 := o5) (o6 := o6) (o7 := o7) (o8 := o8) (o9 := o9) (o10 := o10) (o11 := o11) (o12 := o12) (m := bodyM false none) f h5
  rw [q1]
  obtain ⟨f2, q2⟩ := step6 (o5 := .int .i64 a) (o6 := .int .i64 b) (o7 := o7) (o8 := o8) (o9 := o9) (o10 := o10) (o11 := o11) (o12 := o12) (m := bodyM false none) f1 h6
  show bodyEnd EZ rc Tryz.f3 (thenK (exec K6 EZ rc (T3 L v (.int .i64 a) (.int .i64 b) o7 o8 o9 o10 o11 o12 f1) (bodyM false none) s1) _) = _
  rw [q2]
  obtain ⟨f3, q3⟩ := step7 (o5 := .int .i64 a) (o6 := .int .i64 b) (o7 := .int .i64 a) (o8 := .int .i64 b) (o9 := o9) (o10 := o10) (o11 := o11) (o12 := o12) (m := bodyM false none) f2 h7
  show bodyEnd EZ rc Tryz.f3 (thenK (exec K7 EZ rc (T3 L v (.int .i64 a) (.int .i64 b) (.int .i64 a) (.int .i64 b) o9 o10 o11 o12 f2) (bodyM false none) s2) _) = _
  rw [q3]
  obtain ⟨f4, q4⟩ := step8 (o5 := .int .i64 a) (o6 := .int .i64 b) (o7 := .int .i64 a) (o8 := .int .i64 b) (o9 := .int .i64 c) (o10 := .int .i64 d) (o11 := o11) (o12 := o12) (m := bodyM false none) f3 h8
  show bodyEnd EZ rc Tryz.f3 (thenK (exec K8 EZ rc (T3 L v (.int .i64 a) (.int .i64 b) (.int .i64 a) (.int .i64 b) (.int .i64 c) (.int .i64 d) o11 o12 f3) (bodyM false none) s3) _) = _
  rw [q4]
  show bodyEnd EZ rc Tryz.f3 (thenK (exec K9 EZ rc (T9 L v a b c d f4) (bodyM false none) s4) _) = _
  rw [k9_is]
  show bodyEnd EZ rc Tryz.f3 (.ret _ (bodyM false none) s4) = _
  rw [end3, n5_4]; rfl
theorem b3_run (rc : Rec) (T : List V) (m : M) (s : S) : exec b3 EZ rc T m s = thenK (exec K0 EZ rc T m s) (fun T m s => thenK (thenK (exec K1 EZ rc T m s) (exec (.cond (.tmp 14) (.seq K2 .ret) .skip) EZ rc)) (fun T m s => thenK (thenK (exec K3 EZ rc T m s) (exec (.cond (.tmp 17) (.seq K4 .ret) .skip) EZ rc)) (exec (.seq K5 (.seq K6 (.seq K7 (.seq K8 (.seq K9 .ret))))) EZ rc))) := by
  rw [b3_is]; rfl
/-- Up to the question of the size. -/
theorem law_head (L v : V) (N : Nat) (s : S) : ∃ o5 o6 o7 o8 o9 o10 o11 o12 f, exec b3 EZ (recN EZ (N + 1)) (F3 L v) (bodyM false none) s = thenK (thenK (exec K3 EZ (recN EZ (N + 1)) (T3 L v o5 o6 o7 o8 o9 o10 o11 o12 f) (bodyM false none) s) (exec (.cond (.tmp 17) (.seq K4 .ret) .skip) EZ (recN EZ (N + 1)))) (exec (.seq K5 (.seq K6 (.seq K7 (.seq K8 (.seq K9 .ret))))) EZ (recN EZ (N + 1))) := by
  refine ⟨getV (KA L v) 5, getV (KA L v) 6, getV (KA L v) 7, getV (KA L v) 8, getV (KA L v) 9, getV (KA L v) 10, getV (KA L v) 11, getV (KA L v) 12, getV (KA L v), ?_⟩
  generalize hrc : recN EZ (N + 1) = rc
  have hc : rc.call 4 [] s = .ret (.bool true) s false := by
    rw [← hrc]; exact call4 (recN EZ N) s
  rw [b3_run, k0_is]
  show thenK (thenK (exec K1 EZ rc (regT K0 (F3 L v)) (bodyM false none) s) _) _ = _
  rw [k1_is, hc]
  show thenK (thenK (runE' (dropN 1 kops1) kops1 rc (setD (regT K0 (F3 L v)) (some 13) (.bool true)) (bodyM false none) s) (exec (.cond (.tmp 14) (.seq K2 .ret) .skip) EZ rc)) _ = _
  rw [k1_2]
  show thenK (exec (.cond (.tmp 14) (.seq K2 .ret) .skip) EZ rc (KA L v) (bodyM false none) s) _ = _
  rw [exec_cond (KA_14 ..), if_neg (by decide)]
  show thenK (thenK (exec K3 EZ rc (KA L v) (bodyM false none) s) _) _ = _
  exact congrArg (fun T => thenK (thenK (exec K3 EZ rc T (bodyM false none) s) (exec (.cond (.tmp 17) (.seq K4 .ret) .skip) EZ rc)) (exec (.seq K5 (.seq K6 (.seq K7 (.seq K8 (.seq K9 .ret))))) EZ rc)) (KA_T ..)
/-- In range. -/
def inR (d : Int) : Prop := -9223372036854775808 ≤ d ∧ d ≤ 9223372036854775807
theorem cond_same {d : Int} (h : inR d) : (eqI d (-9223372036854775808)) = (!leI (wrap .i64 (d - 1)) d) := by
  rw [eqI_eq, leI_eq, wrap_eq]
  obtain ⟨h1, h2⟩ := h
  by_cases hd : d = -9223372036854775808
  · subst hd; decide
  · rw [decide_eq_false hd]
    have : IntKind.i64.wrap (d - 1) = d - 1 := by
      simp [IntKind.wrap, IntKind.signed, IntKind.bits]; omega
    rw [this, decide_eq_true (show d - 1 ≤ d by omega)]; rfl
theorem resP_ints (o : Option Nat) : ∃ a b : Int, resP o = .tup [.int .i64 a, .int .i64 b] := by
  cases o with
  | none => exact ⟨0, 3, rfl⟩
  | some j => exact ⟨Int.ofNat j, 0, rfl⟩
theorem law_small {L v o5 o6 o7 o8 o9 o10 o11 o12 : V} {N : Nat} {s : S} {T : List V → Prop} (f : Nat → V) (h1 : exec K3 EZ (recN EZ (N + 1)) (T3 L v o5 o6 o7 o8 o9 o10 o11 o12 f) (bodyM false none) s = .norm (regT K3 (T3 L v o5 o6 o7 o8 o9 o10 o11 o12 f)) (bodyM false none) s) (h2 : nth (regT K3 (T3 L v o5 o6 o7 o8 o9 o10 o11 o12 f)) 17 = some (.bool false))
    (h3 : regT K3 (T3 L v o5 o6 o7 o8 o9 o10 o11 o12 f) = T3 L v o5 o6 o7 o8 o9 o10 o11 o12 (getV (regT K3 (T3 L v o5 o6 o7 o8 o9 o10 o11 o12 f)))) {s4 : S}
    (ht : ∀ f, bodyEnd EZ (recN EZ (N + 1)) Tryz.f3 (exec (.seq K5 (.seq K6 (.seq K7 (.seq K8 (.seq K9 .ret))))) EZ (recN EZ (N + 1)) (T3 L v o5 o6 o7 o8 o9 o10 o11 o12 f) (bodyM false none) s) = .ret (.bool true) s4 false) :
    bodyEnd EZ (recN EZ (N + 1)) Tryz.f3 (thenK (thenK (exec K3 EZ (recN EZ (N + 1)) (T3 L v o5 o6 o7 o8 o9 o10 o11 o12 f) (bodyM false none) s) (exec (.cond (.tmp 17) (.seq K4 .ret) .skip) EZ (recN EZ (N + 1)))) (exec (.seq K5 (.seq K6 (.seq K7 (.seq K8 (.seq K9 .ret))))) EZ (recN EZ (N + 1)))) = .ret (.bool true) s4 false := by
  generalize recN EZ (N + 1) = rc at h1 ht ⊢
  rw [h1]
  show bodyEnd EZ rc Tryz.f3 (thenK (exec (.cond (.tmp 17) (.seq K4 .ret) .skip) EZ rc (regT K3 (T3 L v o5 o6 o7 o8 o9 o10 o11 o12 f)) (bodyM false none) s) (exec (.seq K5 (.seq K6 (.seq K7 (.seq K8 (.seq K9 .ret))))) EZ rc)) = _
  rw [exec_cond h2, if_neg (by decide)]
  show bodyEnd EZ rc Tryz.f3 (exec (.seq K5 (.seq K6 (.seq K7 (.seq K8 (.seq K9 .ret))))) EZ rc (regT K3 (T3 L v o5 o6 o7 o8 o9 o10 o11 o12 f)) (bodyM false none) s) = _
  exact (congrArg (fun T => bodyEnd EZ rc Tryz.f3 (exec (.seq K5 (.seq K6 (.seq K7 (.seq K8 (.seq K9 .ret))))) EZ rc T (bodyM false none) s)) h3).trans (ht _)
/-- The law, over a list that is there. -/
theorem law_LL (l : List Ev) (k : Bool) (a : Int) (s : S) (ho : okE l) (hr : ∀ e ∈ l, inR e.d) (hlo : s.lo ≤ s.next) : ∃ s', doCall EZ (recN EZ 6004) 3 [LL l k, .int .i64 a] s = .ret (.bool true) s' false := by
  rw [call3, do3]
  obtain ⟨o5, o6, o7, o8, o9, o10, o11, o12, f, hf⟩ := law_head (LL l k) (.int .i64 a) 6003 s
  rw [hf]
  by_cases hbig : 5000 < l.length
  · refine ⟨s, ?_⟩
    generalize recN EZ (6003 + 1) = rc
    have hb : (!leI (Int.ofNat l.length) 5000) = true := by
      have : ¬ (Int.ofNat l.length ≤ 5000) := by
        show ¬ ((l.length : Int) ≤ 5000); omega
      rw [leI_eq, decide_eq_false this]; rfl
    rw [k3_a]
    show bodyEnd EZ rc Tryz.f3 (thenK (exec (.cond (.tmp 17) (.seq K4 .ret) .skip) EZ rc (regT K3 (T3 (LL l k) (.int .i64 a) o5 o6 o7 o8 o9 o10 o11 o12 f)) (bodyM false none) s) _) = _
    rw [exec_cond (k3_a17 ..), if_pos hb]
    have e : exec (.seq K4 .ret) EZ rc (regT K3 (T3 (LL l k) (.int .i64 a) o5 o6 o7 o8 o9 o10 o11 o12 f)) (bodyM false none) s = .ret (regT K4 (T3 (LL l k) (.int .i64 a) o5 o6 o7 o8 o9 o10 o11 o12 (getV (regT K3 (T3 (LL l k) (.int .i64 a) o5 o6 o7 o8 o9 o10 o11 o12 f))))) (bodyM false none) s := (congrArg (fun T => exec (.seq K4 .ret) EZ rc T (bodyM false none) s) (k3_aT ..)).trans (k4_is ..)
    rw [e]
    show bodyEnd EZ rc Tryz.f3 (.ret _ (bodyM false none) s) = _
    rw [end3, k4_4]; rfl
  · have hb : (!leI (Int.ofNat l.length) 5000) = false := by
      have : Int.ofNat l.length ≤ 5000 := by
        show (l.length : Int) ≤ 5000; omega
      rw [leI_eq, decide_eq_true this]; rfl
    have h17 : nth (regT K3 (T3 (LL l k) (.int .i64 a) o5 o6 o7 o8 o9 o10 o11 o12 f)) 17 = some (.bool false) := (k3_a17 ..).trans (by rw [hb])
    by_cases hbad : a < 0 ∨ (l.length : Int) ≤ a
    · refine ⟨s, ?_⟩
      refine law_small (T := fun _ => True) f (k3_a ..) h17 (k3_aT ..) fun f => ?_
      exact law_tail f ((none5 (recN EZ 6003) s).1 l k a hbad) ((none6 (recN EZ 6003) s).1 l k a hbad) ((none7 (recN EZ 6003) s).1 l k a hbad) ((none8 (recN EZ 6003) s).1 l k a hbad)
    · obtain ⟨j, rfl⟩ : ∃ j : Nat, a = Int.ofNat j := ⟨a.toNat, by
        show a = ((a.toNat : Nat) : Int); omega⟩
      have hj : j < l.length := by
        have : ¬ ((l.length : Int) ≤ Int.ofNat j) := fun h => hbad (.inr h)
        have h2 : (Int.ofNat j : Int) = (j : Int) := rfl
        rw [h2] at this; omega
      obtain ⟨e, r, hd⟩ : ∃ e r, l.drop j = e :: r := ⟨_, _, List.drop_eq_getElem_cons hj⟩
      obtain ⟨s1, g1, c1⟩ := whole5 (k := k) (N := 6000) s hd (by omega) ho (by omega) hlo
      have l1 : s1.lo ≤ s1.next := by rw [g1.lo]; exact Nat.le_trans hlo g1.next
      obtain ⟨s2, g2, c2⟩ := whole6 (k := k) (N := 6000) s1 hd (by omega) ho (by omega) l1
      have l2 : s2.lo ≤ s2.next := by rw [g2.lo]; exact Nat.le_trans l1 g2.next
      obtain ⟨s3, g3, c3⟩ := whole7 (k := k) (N := 6000) s2 hd (by omega) ho (by omega) l2
      have l3 : s3.lo ≤ s3.next := by rw [g3.lo]; exact Nat.le_trans l2 g3.next
      obtain ⟨s4, g4, c4⟩ := whole8 (k := k) (N := 6000) s3 hd (by omega) ho (by omega) l3
      rw [← cond_same (hr e (mem_drop hd))] at c4
      obtain ⟨x, y, hxy⟩ := resP_ints (fnd e.d (l.drop j) j)
      obtain ⟨z, w, hzw⟩ : ∃ z w : Int, (if (eqI e.d (-9223372036854775808)) = true then resP none else resP (fnd (wrap .i64 (e.d - 1)) (l.drop j) j)) = .tup [.int .i64 z, .int .i64 w] := by
        split <;> exact resP_ints _
      rw [hxy] at c1 c2
      rw [hzw] at c3 c4
      refine ⟨s4, ?_⟩
      refine law_small (T := fun _ => True) f (k3_a ..) h17 (k3_aT ..) fun f => ?_
      exact law_tail f c1 c2 c3 c4
theorem law_nils (a : Int) (s : S) : ∃ s', doCall EZ (recN EZ 6004) 3 [.nils, .int .i64 a] s = .ret (.bool true) s' false := by
  rw [call3, do3]
  obtain ⟨o5, o6, o7, o8, o9, o10, o11, o12, f, hf⟩ := law_head .nils (.int .i64 a) 6003 s
  rw [hf]
  refine ⟨s, ?_⟩
  have h17 : nth (regT K3 (T3 .nils (.int .i64 a) o5 o6 o7 o8 o9 o10 o11 o12 f)) 17 = some (.bool false) := (k3_b17 ..).trans (by rw [leI_eq]; rfl)
  refine law_small (T := fun _ => True) f (k3_b ..) h17 (k3_bT ..) fun f => ?_
  exact law_tail f ((none5 (recN EZ 6003) s).2 a) ((none6 (recN EZ 6003) s).2 a) ((none7 (recN EZ 6003) s).2 a) ((none8 (recN EZ 6003) s).2 a)
end
end Go.AM.L40.Sy
