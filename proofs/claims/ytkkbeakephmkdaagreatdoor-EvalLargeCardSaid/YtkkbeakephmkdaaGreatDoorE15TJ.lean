import Derived.Test.YtkkbeakephmkdaaGreatDoorCards
import Derived.OpenShut
import Derived.RowKit3
import Derived.ChangeMaps5
import Derived.WalkKit
import Derived.ProofKit
import Derived.Deep.DeepHandedRow
import Derived.ReadAgain
import Derived.ChangeReads
import Derived.Test.YtkkbeakephmkdaaGreatDoorE15TP0
import Derived.Test.YtkkbeakephmkdaaGreatDoorE15TP1
import Derived.Test.YtkkbeakephmkdaaGreatDoorE15TP2
import Derived.Test.YtkkbeakephmkdaaGreatDoorE15TP3
import Derived.Test.YtkkbeakephmkdaaGreatDoorE15TP4
import Derived.Test.YtkkbeakephmkdaaGreatDoorE15H2
import Derived.Test.YtkkbeakephmkdaaGreatDoorAm3
set_option linter.all false
section
namespace Go.AM.E15
open Go Go.Proofs
noncomputable section
set_option maxRecDepth 100000
def L1 {f : Nat} {l : LL} (h : tabOk E1 3000 f l = true) : ∀ q ∈ l, Fact E1 Tryz.prog f q := fact_tab env1_ok ov1_ok rfl h
def ftn1_35 := L1 ktn1_35
def ftn1_33 := L1 ktn1_33
def ftn1_97 := L1 ktn1_97
def ftn1_54 := L1 ktn1_54
def ftn1_6 := L1 ktn1_6
def ftn1_285 := L1 ktn1_285
def ftn1_341 := L1 ktn1_341
def ftn1_275 := L1 ktn1_275
def ftn1_263 := L1 ktn1_263
def ftn1_229 := L1 ktn1_229
def ftn1_254 := L1 ktn1_254
def ftn1_189 := L1 ktn1_189
def ftn1_371 := L1 ktn1_371
def ftn1_492 := L1 ktn1_492
def ftn1_406 := L1 ktn1_406
def ftn1_376 := L1 ktn1_376
def ftn1_94 := L1 ktn1_94
def ftn1_331 := L1 ktn1_331
def ftn1_157 := L1 ktn1_157
def ftn1_403 := L1 ktn1_403
def ftn1_256 := L1 ktn1_256
def ftn1_361 := L1 ktn1_361
def ftn1_50 := L1 ktn1_50
def ftn1_310 := L1 ktn1_310
def ftn1_184 := L1 ktn1_184
def ftn1_49 := L1 ktn1_49
theorem ftabs1 : TabsOk E1 Tryz.prog tabs1 := .cons ftn1_6 (.cons ftn1_33 (.cons ftn1_35 (.cons ftn1_49 (.cons ftn1_50 (.cons ftn1_54 (.cons ftn1_94 (.cons ftn1_97 (.cons ftn1_157 (.cons ftn1_184 (.cons ftn1_189 (.cons ftn1_229 (.cons ftn1_254 (.cons ftn1_256 (.cons ftn1_263 (.cons ftn1_275 (.cons ftn1_285 (.cons ftn1_310 (.cons ftn1_331 (.cons ftn1_341 (.cons ftn1_361 (.cons ftn1_371 (.cons ftn1_376 (.cons ftn1_403 (.cons ftn1_406 (.cons ftn1_492 (.nil))))))))))))))))))))))))))
theorem fenv1 : EnvOk F1 Tryz.prog := layer_env env1_ok
theorem fov1 : OvOk F1 Tryz.prog := layer_ov ov1_ok env1_ok ov1_ok rfl ftabs1
def L2 {f : Nat} {l : LL} (h : tabOk F1 3000 f l = true) : ∀ q ∈ l, Fact E1 Tryz.prog f q := fact_tab fenv1 fov1 rfl h
def ftn2_15 := L2 ktn2_15
def ftn2_72 := L2 ktn2_72
def ftn2_38 := L2 ktn2_38
def ftn2_26 := L2 ktn2_26
def ftn2_273 := L2 ktn2_273
def ftn2_275 := L2 ktn2_275
def ftn2_75 := L2 ktn2_75
def ftn2_184 := L2 ktn2_184
def ftn2_157 := L2 ktn2_157
def ftn2_256 := L2 ktn2_256
def ftn2_371 := L2 ktn2_371
def ftn2_412 := L2 ktn2_412
def ftn2_377 := L2 ktn2_377
def ftn2_329 := L2 ktn2_329
def ftn2_68 := L2 ktn2_68
def ftn2_188 := L2 ktn2_188
def ftn2_621 := L2 ktn2_621
def ftn2_404 := L2 ktn2_404
def ftn2_255 := L2 ktn2_255
def ftn2_310 := L2 ktn2_310
def ftn2_29 := L2 ktn2_29
def ftn2_243 := L2 ktn2_243
def ftn2_70 := L2 ktn2_70
def ftn2_83 := L2 ktn2_83
def ftn2_27 := L2 ktn2_27
def ftb2_275 := fact_app ftn2_275 ftn1_275
def ftb2_184 := fact_app ftn2_184 ftn1_184
def ftb2_157 := fact_app ftn2_157 ftn1_157
def ftb2_256 := fact_app ftn2_256 ftn1_256
def ftb2_371 := fact_app ftn2_371 ftn1_371
def ftb2_310 := fact_app ftn2_310 ftn1_310
theorem ftabs2 : TabsOk E1 Tryz.prog tabs2 := .cons ftn2_15 (.cons ftn2_26 (.cons ftn2_27 (.cons ftn2_29 (.cons ftn2_38 (.cons ftn2_68 (.cons ftn2_70 (.cons ftn2_72 (.cons ftn2_75 (.cons ftn2_83 (.cons ftb2_157 (.cons ftb2_184 (.cons ftn2_188 (.cons ftn2_243 (.cons ftn2_255 (.cons ftb2_256 (.cons ftn2_273 (.cons ftb2_275 (.cons ftb2_310 (.cons ftn2_329 (.cons ftb2_371 (.cons ftn2_377 (.cons ftn2_404 (.cons ftn2_412 (.cons ftn2_621 (ftabs1)))))))))))))))))))))))))
theorem fenv2 : EnvOk F2 Tryz.prog := layer_env env1_ok
theorem fov2 : OvOk F2 Tryz.prog := layer_ov ov1_ok fenv1 fov1 rfl ftabs2
def L3 {f : Nat} {l : LL} (h : tabOk F2 3000 f l = true) : ∀ q ∈ l, Fact E1 Tryz.prog f q := fact_tab fenv2 fov2 rfl h
def ftn3_53 := L3 ktn3_53
def ftn3_183 := L3 ktn3_183
def ftn3_83 := L3 ktn3_83
def ftn3_188 := L3 ktn3_188
def ftn3_372 := L3 ktn3_372
def ftn3_255 := L3 ktn3_255
def ftn3_380 := L3 ktn3_380
def ftn3_330 := L3 ktn3_330
def ftn3_260 := L3 ktn3_260
def ftn3_50 := L3 ktn3_50
def ftn3_374 := L3 ktn3_374
def ftn3_158 := L3 ktn3_158
def ftn3_271 := L3 ktn3_271
def ftn3_243 := L3 ktn3_243
def ftn3_27 := L3 ktn3_27
def ftb3_83 := fact_app ftn3_83 ftn2_83
def ftb3_188 := fact_app ftn3_188 ftn2_188
def ftb3_255 := fact_app ftn3_255 ftn2_255
def ftb3_50 := fact_app ftn3_50 ftn1_50
def ftb3_243 := fact_app ftn3_243 ftn2_243
def ftb3_27 := fact_app ftn3_27 ftn2_27
theorem ftabs3 : TabsOk E1 Tryz.prog tabs3 := .cons ftb3_27 (.cons ftb3_50 (.cons ftn3_53 (.cons ftb3_83 (.cons ftn3_158 (.cons ftn3_183 (.cons ftb3_188 (.cons ftb3_243 (.cons ftb3_255 (.cons ftn3_260 (.cons ftn3_271 (.cons ftn3_330 (.cons ftn3_372 (.cons ftn3_374 (.cons ftn3_380 (ftabs2)))))))))))))))
theorem fenv3 : EnvOk F3 Tryz.prog := layer_env env1_ok
theorem fov3 : OvOk F3 Tryz.prog := layer_ov ov1_ok fenv2 fov2 rfl ftabs3
def L4 {f : Nat} {l : LL} (h : tabOk F3 3000 f l = true) : ∀ q ∈ l, Fact E1 Tryz.prog f q := fact_tab fenv3 fov3 rfl h
def ftn4_37 := L4 ktn4_37
def ftn4_80 := L4 ktn4_80
def ftn4_255 := L4 ktn4_255
def ftn4_158 := L4 ktn4_158
def ftn4_331 := L4 ktn4_331
def ftn4_29 := L4 ktn4_29
def ftn4_261 := L4 ktn4_261
def ftn4_318 := L4 ktn4_318
def ftn4_373 := L4 ktn4_373
def ftn4_160 := L4 ktn4_160
def ftn4_359 := L4 ktn4_359
def ftb4_255 := fact_app ftn4_255 ftb3_255
def ftb4_158 := fact_app ftn4_158 ftn3_158
def ftb4_331 := fact_app ftn4_331 ftn1_331
def ftb4_29 := fact_app ftn4_29 ftn2_29
theorem ftabs4 : TabsOk E1 Tryz.prog tabs4 := .cons ftb4_29 (.cons ftn4_37 (.cons ftn4_80 (.cons ftb4_158 (.cons ftn4_160 (.cons ftb4_255 (.cons ftn4_261 (.cons ftn4_318 (.cons ftb4_331 (.cons ftn4_359 (.cons ftn4_373 (ftabs3)))))))))))
theorem fenv4 : EnvOk F4 Tryz.prog := layer_env env1_ok
theorem fov4 : OvOk F4 Tryz.prog := layer_ov ov1_ok fenv3 fov3 rfl ftabs4
def L5 {f : Nat} {l : LL} (h : tabOk F4 3000 f l = true) : ∀ q ∈ l, Fact E1 Tryz.prog f q := fact_tab fenv4 fov4 rfl h
def ftn5_16 := L5 ktn5_16
def ftn5_208 := L5 ktn5_208
def ftn5_78 := L5 ktn5_78
def ftn5_159 := L5 ktn5_159
def ftn5_359 := L5 ktn5_359
def ftn5_261 := L5 ktn5_261
def ftn5_163 := L5 ktn5_163
def ftn5_191 := L5 ktn5_191
def ftn5_193 := L5 ktn5_193
def ftn5_357 := L5 ktn5_357
def ftn5_255 := L5 ktn5_255
def ftn5_625 := L5 ktn5_625
def ftn5_184 := L5 ktn5_184
def ftb5_359 := fact_app ftn5_359 ftn4_359
def ftb5_261 := fact_app ftn5_261 ftn4_261
def ftb5_255 := fact_app ftn5_255 ftb4_255
def ftb5_184 := fact_app ftn5_184 ftb2_184
theorem ftabs5 : TabsOk E1 Tryz.prog tabs5 := .cons ftn5_16 (.cons ftn5_78 (.cons ftn5_159 (.cons ftn5_163 (.cons ftb5_184 (.cons ftn5_191 (.cons ftn5_193 (.cons ftn5_208 (.cons ftb5_255 (.cons ftb5_261 (.cons ftn5_357 (.cons ftb5_359 (.cons ftn5_625 (ftabs4)))))))))))))
theorem fenv5 : EnvOk F5 Tryz.prog := layer_env env1_ok
theorem fov5 : OvOk F5 Tryz.prog := layer_ov ov1_ok fenv4 fov4 rfl ftabs5
def L6 {f : Nat} {l : LL} (h : tabOk F5 3000 f l = true) : ∀ q ∈ l, Fact E1 Tryz.prog f q := fact_tab fenv5 fov5 rfl h
def ftn6_101 := L6 ktn6_101
def ftn6_606 := L6 ktn6_606
def ftn6_163 := L6 ktn6_163
def ftn6_161 := L6 ktn6_161
def ftn6_621 := L6 ktn6_621
def ftn6_322 := L6 ktn6_322
def ftb6_163 := fact_app ftn6_163 ftn5_163
def ftb6_621 := fact_app ftn6_621 ftn2_621
theorem ftabs6 : TabsOk E1 Tryz.prog tabs6 := .cons ftn6_101 (.cons ftn6_161 (.cons ftb6_163 (.cons ftn6_322 (.cons ftn6_606 (.cons ftb6_621 (ftabs5))))))
theorem fenv6 : EnvOk F6 Tryz.prog := layer_env env1_ok
theorem fov6 : OvOk F6 Tryz.prog := layer_ov ov1_ok fenv5 fov5 rfl ftabs6
def L7 {f : Nat} {l : LL} (h : tabOk F6 3000 f l = true) : ∀ q ∈ l, Fact E1 Tryz.prog f q := fact_tab fenv6 fov6 rfl h
def ftn7_56 := L7 ktn7_56
def ftn7_322 := L7 ktn7_322
def ftn7_308 := L7 ktn7_308
def ftn7_626 := L7 ktn7_626
def ftn7_89 := L7 ktn7_89
def ftb7_322 := fact_app ftn7_322 ftn6_322
theorem ftabs7 : TabsOk E1 Tryz.prog tabs7 := .cons ftn7_56 (.cons ftn7_89 (.cons ftn7_308 (.cons ftb7_322 (.cons ftn7_626 (ftabs6)))))
theorem fenv7 : EnvOk F7 Tryz.prog := layer_env env1_ok
theorem fov7 : OvOk F7 Tryz.prog := layer_ov ov1_ok fenv6 fov6 rfl ftabs7
def L8 {f : Nat} {l : LL} (h : tabOk F7 3000 f l = true) : ∀ q ∈ l, Fact E1 Tryz.prog f q := fact_tab fenv7 fov7 rfl h
def ftn8_58 := L8 ktn8_58
def ftn8_624 := L8 ktn8_624
theorem ftabs8 : TabsOk E1 Tryz.prog tabs8 := .cons ftn8_58 (.cons ftn8_624 (ftabs7))
theorem fenv8 : EnvOk F8 Tryz.prog := layer_env env1_ok
theorem fov8 : OvOk F8 Tryz.prog := layer_ov ov1_ok fenv7 fov7 rfl ftabs8
def L9 {f : Nat} {l : LL} (h : tabOk F8 3000 f l = true) : ∀ q ∈ l, Fact E1 Tryz.prog f q := fact_tab fenv8 fov8 rfl h
def ftn9_43 := L9 ktn9_43
def ftn9_309 := L9 ktn9_309
def ftn9_621 := L9 ktn9_621
def ftb9_621 := fact_app ftn9_621 ftb6_621
theorem ftabs9 : TabsOk E1 Tryz.prog tabs9 := .cons ftn9_43 (.cons ftn9_309 (.cons ftb9_621 (ftabs8)))
theorem fenv9 : EnvOk F9 Tryz.prog := layer_env env1_ok
theorem fov9 : OvOk F9 Tryz.prog := layer_ov ov1_ok fenv8 fov8 rfl ftabs9
def L10 {f : Nat} {l : LL} (h : tabOk F9 3000 f l = true) : ∀ q ∈ l, Fact E1 Tryz.prog f q := fact_tab fenv9 fov9 rfl h
def ftn10_51 := L10 ktn10_51
def ftn10_309 := L10 ktn10_309
def ftn10_25 := L10 ktn10_25
def ftb10_309 := fact_app ftn10_309 ftn9_309
theorem ftabs10 : TabsOk E1 Tryz.prog tabs10 := .cons ftn10_25 (.cons ftn10_51 (.cons ftb10_309 (ftabs9)))
theorem fenv10 : EnvOk F10 Tryz.prog := layer_env env1_ok
theorem fov10 : OvOk F10 Tryz.prog := layer_ov ov1_ok fenv9 fov9 rfl ftabs10
def L11 {f : Nat} {l : LL} (h : tabOk F10 3000 f l = true) : ∀ q ∈ l, Fact E1 Tryz.prog f q := fact_tab fenv10 fov10 rfl h
def ftn11_28 := L11 ktn11_28
def ftn11_51 := L11 ktn11_51
def ftb11_51 := fact_app ftn11_51 ftn10_51
theorem ftabs11 : TabsOk E1 Tryz.prog tabs11 := .cons ftn11_28 (.cons ftb11_51 (ftabs10))
theorem fenv11 : EnvOk F11 Tryz.prog := layer_env env1_ok
theorem fov11 : OvOk F11 Tryz.prog := layer_ov ov1_ok fenv10 fov10 rfl ftabs11
def L12 {f : Nat} {l : LL} (h : tabOk F11 3000 f l = true) : ∀ q ∈ l, Fact E1 Tryz.prog f q := fact_tab fenv11 fov11 rfl h
def ftn12_8 := L12 ktn12_8
def ftn12_28 := L12 ktn12_28
def ftn12_22 := L12 ktn12_22
def ftb12_28 := fact_app ftn12_28 ftn11_28
theorem ftabs12 : TabsOk E1 Tryz.prog tabs12 := .cons ftn12_8 (.cons ftn12_22 (.cons ftb12_28 (ftabs11)))
theorem fenv12 : EnvOk F12 Tryz.prog := layer_env env1_ok
theorem fov12 : OvOk F12 Tryz.prog := layer_ov ov1_ok fenv11 fov11 rfl ftabs12
def L13 {f : Nat} {l : LL} (h : tabOk F12 3000 f l = true) : ∀ q ∈ l, Fact E1 Tryz.prog f q := fact_tab fenv12 fov12 rfl h
def ftn13_8 := L13 ktn13_8
def ftb13_8 := fact_app ftn13_8 ftn12_8
theorem ftabs13 : TabsOk E1 Tryz.prog tabs13 := .cons ftb13_8 (ftabs12)
theorem fenv13 : EnvOk F13 Tryz.prog := layer_env env1_ok
theorem fov13 : OvOk F13 Tryz.prog := layer_ov ov1_ok fenv12 fov12 rfl ftabs13
def L14 {f : Nat} {l : LL} (h : tabOk F13 3000 f l = true) : ∀ q ∈ l, Fact E1 Tryz.prog f q := fact_tab fenv13 fov13 rfl h
def ftn14_4 := L14 ktn14_4
theorem sane_fact : Fact E1 Tryz.prog 4 ([], .bool true) := ftn14_4 _ (List.mem_cons_self ..)
end
end Go.AM.E15
end
section
set_option maxRecDepth 100000
namespace Go.AM.E15
open Go Go.Proofs
noncomputable section
section
variable {E : Env} {P : Program} {md : Nat → Mode}
def withMode (E : Env) (md : Nat → Mode) : Env := { E with mode := md }
theorem envOk_wm (ok : EnvOk E P) : EnvOk (withMode E md) P := { ok with }
theorem ovOk_wm (hov : OvOk E P) : OvOk (withMode E md) P := fun f k hk A args xs s μ W R ha => CallOut.env (E := E) (E' := withMode E md) rfl (hov f k hk A args xs s μ W (Rel.env (E := withMode E md) (E' := E) rfl R) ha)
end
def tL : List (Nat × List (List V × V)) := [(56, tn7_56), (4, [([], .bool true)])]
theorem tabsL_ok : TabsOk E1 Tryz.prog tL := TabsOk.cons ftn7_56 (TabsOk.cons (fun q hq => by
  rw [List.mem_singleton] at hq; subst hq; exact sane_fact) TabsOk.nil)
theorem ovL1_ok : OvOk (layer E1 E1 0 tL) Tryz.prog := layer_ov ov1_ok env1_ok ov1_ok rfl tabsL_ok
theorem el_is : EL = withMode (layer E1 E1 0 tL) modeL := rfl
theorem envL_ok : EnvOk EL Tryz.prog := by rw [el_is]; exact envOk_wm (layer_env env1_ok)
theorem ovL_ok : OvOk EL Tryz.prog := by rw [el_is]; exact ovOk_wm ovL1_ok
theorem do3 (a n m k : Int) : ∃ s', doBody EL (recN EL 401061) 3 [.int .i64 a, .int .i64 n, .int .i64 m, .int .i64 k] false none s0 = .ret (.bool true) s' false := law_true a n m k (n0 := 401000) (Nat.le_refl _)
end
end Go.AM.E15
end
section
set_option maxRecDepth 100000
namespace Go.AM.E15
open Go Go.Proofs Go.ChangeShapes Go.RowKit
open Go.Proofs.YtkkbeakephmkdaaGreatDoor
noncomputable section
theorem u3 : Tryz.prog.underlying 3 = some (.int .i64) := by kernel_rfl
theorem u4 : Tryz.prog.underlying 4 = some .bool := by kernel_rfl
noncomputable def zPow : List Int := [1, 10, 100, 1000, 10000, 100000, 1000000, 10000000, 100000000, 1000000000, 10000000000, 100000000000, 1000000000000, 10000000000000, 100000000000000, 1000000000000000, 10000000000000000, 100000000000000000, 1000000000000000000, 10000000000000000000]
noncomputable def gTy (g : Nat) : Nat := match Tryz.prog.globals[g]? with | some x => x.type | none => 0
noncomputable def eTy (g : Nat) : Nat := match Tryz.prog.underlying (gTy g) with | some (.array _ e) => e | _ => 0
theorem pow_mem : Rows.evalLargeRow.laid[2]? = some ("internal/strconv.uint64pow10", Lib.tabData .u64 zPow) := by kernel_rfl
theorem noHandles : (Rows.evalLargeRow.laid.filter fun x => x.2.handleName?.isSome) = [] := by kernel_rfl
theorem rel0 {W : World} (hL : laidMetH Tryz.prog Rows.evalLargeRow.laid W) : Rel EL (fun _ => True) s0 (fun _ => none) W := by
  have hL' : laidMet Tryz.prog Rows.evalLargeRow.laid W := by
    unfold laidMetH at hL
    rw [noHandles] at hL
    exact hL
  have hno : ∀ l γ, ¬ Owned s0 (fun _ => none) l γ := by rintro l γ ⟨b, x, σ, _, h2, _, _⟩; cases h2
  refine ⟨Nat.le_refl _, fun _ _ => rfl, fun b γ σ h => (by cases h), fun b x h => (by cases h), fun b b' x x' γ σ σ' h => (by cases h), fun _ _ => trivial, fun g c h => ?_⟩
  have h : gT g = some c := h
  unfold gT at h
  rw [boolC_eq] at h
  split at h
  · rename_i hg
    have hg := Nat.eq_of_beq_eq_true hg
    subst hg
    injection h with h
    subst h
    exact glob_tab (E := EL) hL' (List.mem_of_getElem? pow_mem) (t := gTy 3) (e := eTy 3) (m := 20) (by kernel_rfl) (by kernel_rfl) (by kernel_rfl) (by kernel_rfl) (by kernel_rfl) (by kernel_rfl) (by kernel_rfl) (by decide) trivial (hno _ _)
  · cases h
theorem rts3 : Tryz.f3.resultTypes = #[4] := by kernel_rfl
theorem pts3 : Tryz.f3.params.toList = [3, 3, 3, 3] := by kernel_rfl
theorem pt3 {j : Nat} (h : j < 4) : Tryz.f3.params[j]? = some 3 := by
  have h1 : Tryz.f3.params[j]? = Tryz.f3.params.toList[j]? := by simp
  rw [h1, pts3]
  match j, h with
  | 0, _ => rfl
  | 1, _ => rfl
  | 2, _ => rfl
  | 3, _ => rfl
theorem contract_of (H : Type) (enc : TypeId × Value → H) (W : World) (base : Nat) (args : Array Value) (ds gs : List (DataW H)) (before : List MemPlace)
    (hval : ∀ (j : Nat) t v, Tryz.f3.params[j]? = some t → args[j]? = some v → Value.okWide Tryz.prog W .any base t v)
    (hW : DataW.Whole enc Tryz.prog Tryz.f3.params.toList Rows.evalLargeSpec.vars false W args.toList ds gs before)
    (hL : laidMetH Tryz.prog Rows.evalLargeRow.laid W) :
    Calls Tryz.prog 3 args W fun e W' => ∃ v, e = .returned v ∧ Rows.evalLargeSpec.post enc Tryz.prog Tryz.f3 false true false false W args v W' := by
  have hW' := hW
  obtain ⟨p, q, hA0, hV, rfl, hfz, hnd⟩ := hW
  have hA : DataW.TrodAll enc Tryz.prog W 0 (fun _ => true) true Tryz.f3.params.toList args.toList ds p := hA0
  rw [pts3] at hA
  obtain ⟨v0, vs0, d0, ds0, p0, q0, hargs, rfl, rfl, h0, r0⟩ := trodAll_cons hA
  obtain ⟨v1, vs1, d1, ds1, p1, q1, rfl, rfl, rfl, h1, r1⟩ := trodAll_cons r0
  obtain ⟨v2, vs2, d2, ds2, p2, q2, rfl, rfl, rfl, h2, r2⟩ := trodAll_cons r1
  obtain ⟨v3, vs3, d3, ds3, p3, q3, rfl, rfl, rfl, h3, r3⟩ := trodAll_cons r2
  obtain ⟨rfl, rfl, rfl⟩ := trodAll_nil r3
  obtain rfl : args = #[v0, v1, v2, v3] := by cases args; simp_all
  obtain ⟨rfl, rfl⟩ := trodVars_none hV
  obtain ⟨a, rfl, rfl, rfl, wa⟩ := open_int u3 (hval 0 3 _ (pt3 (by decide)) rfl) h0
  obtain ⟨n, rfl, rfl, rfl, wn⟩ := open_int u3 (hval 1 3 _ (pt3 (by decide)) rfl) h1
  obtain ⟨m, rfl, rfl, rfl, wm⟩ := open_int u3 (hval 2 3 _ (pt3 (by decide)) rfl) h2
  obtain ⟨k, rfl, rfl, rfl, wk⟩ := open_int u3 (hval 3 3 _ (pt3 (by decide)) rfl) h3
  have hR := rel0 hL
  have walk : Calls Tryz.prog 3 #[.int .i64 a, .int .i64 n, .int .i64 m, .int .i64 k] W fun e W' => ∃ μ1 x s1, e = .returned x ∧ VR μ1 (St (fun _ => True) s1 μ1 W') W' (.bool true) x ∧ Below W.heap.size W W' := by
    obtain ⟨s1, hd⟩ := do3 a n m k
    refine (calls_of envL_ok ovL_ok hR (.cons _ _ _ _ (.int .i64 a) (.cons _ _ _ _ (.int .i64 n) (.cons _ _ _ _ (.int .i64 m) (.cons _ _ _ _ (.int .i64 k) .nil)))) hd).mono ?_
    rintro e W' ⟨μ1, x, h⟩
    exact ⟨μ1, x, s1, h⟩
  refine walk.mono ?_
  rintro e W' ⟨μ1, x, s1, rfl, hx, hb⟩
  cases hx
  refine ⟨.bool true, rfl, _, _, _, [], [] ++ ([] ++ ([] ++ ([] ++ []))), [], hW', ?_, ?_, rfl, World.keptBut_mono (fun p hp => False.elim hp) ?_, fun h => by cases h⟩
  · rw [rts3]; exact trodAll_cons_mk (shut_bool u4 _) trodAll_mk0
  · rw [pts3]; exact trodAll_cons_mk (shut_int u3 wa) (trodAll_cons_mk (shut_int u3 wn) (trodAll_cons_mk (shut_int u3 wm) (trodAll_cons_mk (shut_int u3 wk) trodAll_mk0)))
  · exact hb.frame _
end
end Go.AM.E15
end
