import Derived.Test.YtejhioblmaaokaaGreatDoorCards
import Derived.OpenShut
import Derived.RowKit3
import Derived.ChangeMaps5
import Derived.WalkKit
import Derived.ProofKit
import Derived.Deep.DeepHandedRow
import Derived.ReadAgain
import Derived.ChangeReads
import Derived.Deep.DeepWitnessRowRef
import Derived.Test.YtejhioblmaaokaaGreatDoorS40L6
set_option linter.all false
section
/- ConsoleShows: the arguments, the variables. -/
set_option maxRecDepth 100000
namespace Go.AM.S40.Sy
open Go Go.Proofs Go.ChangeShapes Go.RowKit
open Go.Proofs.YtejhioblmaaokaaGreatDoor
noncomputable section
noncomputable def fs23 : Array Field := match Tryz.prog.underlying 23 with | some (.struct fs) => fs | _ => #[]
theorem u23t : Tryz.prog.underlying 23 = some (.struct fs23) := by kernel_rfl
theorem u3 : Tryz.prog.underlying 3 = some (.int .i64) := by kernel_rfl
theorem u4 : Tryz.prog.underlying 4 = some .bool := by kernel_rfl
theorem u9t : Tryz.prog.underlying 9 = some .string := by kernel_rfl
theorem c23 : Tryz.prog.cellsOf 23 = 3 := by kernel_rfl
theorem c3 : Tryz.prog.cellsOf 3 = 1 := by kernel_rfl
theorem c9 : Tryz.prog.cellsOf 9 = 1 := by kernel_rfl
theorem fsz : fs23.size = 3 := by kernel_rfl
theorem fty : fs23.toList.map (·.type) = [3, 3, 9] := by kernel_rfl
theorem f0_at : (fs23[0]?).map (fun f => (f.offset, f.type)) = some (0, 3) := by kernel_rfl
theorem f1_at : (fs23[1]?).map (fun f => (f.offset, f.type)) = some (1, 3) := by kernel_rfl
theorem f2_at : (fs23[2]?).map (fun f => (f.offset, f.type)) = some (2, 9) := by kernel_rfl
section
variable {H : Type} {enc : TypeId × Value → H} {W : World} {spare : Nat → Bool} {held : Bool} {μ : Mu} {Sx : Nat → Prop}
theorem list3 {α : Type} {cs : List α} (h : cs.length = 3) : ∃ a b c, cs = [a, b, c] := by
  match cs, h with
  | [a, b, c], _ => exact ⟨a, b, c, rfl⟩
theorem cmd_of {r : Go.Reach} {b0 : Nat} {v : Value} {d : DataW H} {ps : List MemPlace} (hval : Value.okWide Tryz.prog W r b0 23 v) (h : DataW.Trod enc Tryz.prog W 0 spare held 23 v d ps) :
    ∃ (K n : Int) (s : ByteArray), v = .agg #[.int .i64 K, .int .i64 n, .string s] ∧ d = .agg [.lit (.int .i64 K), .lit (.int .i64 n), .lit (.string s.data.toList)] ∧ ps = [] := by
  obtain ⟨cs, rfl, hsz⟩ := WideShapes.okWide_struct u23t hval
  obtain ⟨fuel, hf⟩ := h
  obtain ⟨xs, m, _, hx, hlen, hl, hget⟩ := DataW.trod_struct u23t hf
  rw [c23] at hlen
  have hcs : (Value.cells (.agg cs)).toList = cs.toList := by simp [Value.cells]
  rw [hcs] at hlen hget
  rw [fsz] at hl
  obtain ⟨z0, z1, z2, hz⟩ := list3 hlen
  obtain ⟨x0, x1, x2, rfl⟩ := list3 hl
  have key : ∀ (j off t : Nat) (x : DataW H × List MemPlace), (fs23[j]?).map (fun f => (f.offset, f.type)) = some (off, t) → [x0, x1, x2][j]? = some x → DataW.trod enc Tryz.prog W 0 spare held m t ((cs.toList.drop off).take (Tryz.prog.cellsOf t)) = some x := by
    intro j off t x hj hxj
    cases hf' : fs23[j]? with
    | none => rw [hf'] at hj; cases hj
    | some f =>
      rw [hf'] at hj
      injection hj with hj
      injection hj with h1 h2
      have := hget j f hf'
      rw [h1, h2, hxj] at this
      exact this
  have g0 := key 0 0 3 x0 f0_at rfl
  have g1 := key 1 1 3 x1 f1_at rfl
  have g2 := key 2 2 9 x2 f2_at rfl
  rw [c3, hz] at g0 g1
  rw [c9, hz] at g2
  obtain ⟨K, q0, rfl, _⟩ := DataW.trod_int u3 g0
  obtain ⟨n, q1, rfl, _⟩ := DataW.trod_int u3 g1
  obtain ⟨s, q2, rfl, _⟩ := DataW.trod_string u9t g2
  have e0 : z0 = .int .i64 K := by simpa using q0
  have e1 : z1 = .int .i64 n := by simpa using q1
  have e2 : z2 = .string s := by simpa using q2
  refine ⟨K, n, s, ?_, ?_, ?_⟩
  · have : cs = #[z0, z1, z2] := by cases cs; simpa using hz
    rw [this, e0, e1, e2]
  · have := congrArg Prod.fst hx
    simpa using this
  · have := congrArg Prod.snd hx
    simpa using this
/-- The command, as the machine has it. -/
theorem vr_cmd (K n : Int) (s : ByteArray) : VR μ Sx W (.agg (cellsC ⟨K, n, nats s⟩)) (.agg #[.int .i64 K, .int .i64 n, .string s]) :=
  .agg _ _ (.cons _ _ _ _ (.int .i64 K) (.cons _ _ _ _ (.int .i64 n) (.cons _ _ _ _ (.str s) .nil)))
theorem nats_len (s : ByteArray) : (nats s).length = s.data.toList.length := by
  unfold nats; rw [mapL_eq, List.length_map]
/-- What the premise on sizes says of texts. -/
theorem small_of {K n : Int} {s t : ByteArray} {gs : List (DataW H)} (h : (DataW.weightsEach Tryz.prog ([23, 9] ++ []) ([.agg [.lit (.int .i64 K), .lit (.int .i64 n), .lit (.string s.data.toList)], .lit (.string t.data.toList)] ++ gs)).all (· ≤ reachBytes) = true) :
    (nats s).length < 140737488355328 ∧ (nats t).length < 140737488355328 := by
  have hw : DataW.weightsEach Tryz.prog ([23, 9] ++ []) ([.agg [.lit (.int .i64 K), .lit (.int .i64 n), .lit (.string s.data.toList)], .lit (.string t.data.toList)] ++ gs) = [s.data.toList.length, t.data.toList.length] := by
    show DataW.weights Tryz.prog 23 _ ++ (DataW.weights Tryz.prog 9 _ ++ DataW.weightsEach Tryz.prog [] gs) = _
    have h1 : DataW.weights (H := H) Tryz.prog 23 (.agg [.lit (.int .i64 K), .lit (.int .i64 n), .lit (.string s.data.toList)]) = [s.data.toList.length] := by
      unfold DataW.weights
      rw [u23t]
      simp only [fty]
      simp [DataW.weightsEach, DataW.weights]
    rw [h1]
    cases gs <;> simp [DataW.weightsEach, DataW.weights]
  rw [hw] at h
  have hr : reachBytes = 140737488351232 := by decide
  simp only [List.all_cons, List.all_nil, Bool.and_true, Bool.and_eq_true, decide_eq_true_eq, hr] at h
  rw [nats_len, nats_len]
  omega
end
end
end Go.AM.S40.Sy
end
section
/- ConsoleShows: the row. -/
set_option maxRecDepth 100000
namespace Go.AM.S40.Sy
open Go Go.Proofs Go.ChangeShapes Go.RowKit
open Go.Proofs.YtejhioblmaaokaaGreatDoor
noncomputable section
/-! ### the variables -/
noncomputable def zPow : List Int := [1, 10, 100, 1000, 10000, 100000, 1000000, 10000000, 100000000, 1000000000, 10000000000, 100000000000, 1000000000000, 10000000000000, 100000000000000, 1000000000000000, 10000000000000000, 100000000000000000, 1000000000000000000, 10000000000000000000]
noncomputable def zOf (c : List V) : List Int := mapL (fun v => match v with | .int _ n => n | _ => 0) c
noncomputable def zAsc : List Int := zOf gAscii
noncomputable def gTy (g : Nat) : Nat := match Tryz.prog.globals[g]? with | some x => x.type | none => 0
noncomputable def eTy (g : Nat) : Nat := match Tryz.prog.underlying (gTy g) with | some (.array _ e) => e | _ => 0
theorem pow_mem : Rows.consoleShowsRow.laid[2]? = some ("internal/strconv.uint64pow10", Lib.tabData .u64 zPow) := by kernel_rfl
theorem asc_mem : Rows.consoleShowsRow.laid[8]? = some ("strings.asciiSpace", Lib.tabData .u8 zAsc) := by kernel_rfl
theorem noHandles : (Rows.consoleShowsRow.laid.filter fun x => x.2.handleName?.isSome) = [] := by kernel_rfl
theorem rel0 {W : World} (hL : laidMetH Tryz.prog Rows.consoleShowsRow.laid W) : Rel EA (fun _ => True) s0 (fun _ => none) W := by
  have hL' : laidMet Tryz.prog Rows.consoleShowsRow.laid W := by
    unfold laidMetH at hL
    rw [noHandles] at hL
    exact hL
  have hno : ∀ l γ, ¬ Owned s0 (fun _ => none) l γ := by rintro l γ ⟨b, x, σ, _, h2, _, _⟩; cases h2
  refine ⟨Nat.le_refl _, fun _ _ => rfl, fun b γ σ h => (by cases h), fun b x h => (by cases h), fun b b' x x' γ σ σ' h => (by cases h), fun _ _ => trivial, fun g c h => ?_⟩
  have h : gT g = some c := h
  unfold gT at h
  rw [boolC_eq] at h
  split at h
  · rename_i hg
    have hg := Nat.eq_of_beq_eq_true hg
    subst hg
    injection h with h
    subst h
    exact glob_tab (E := EA) hL' (List.mem_of_getElem? pow_mem) (t := gTy 0) (e := eTy 0) (m := 20) (by kernel_rfl) (by kernel_rfl) (by kernel_rfl) (by kernel_rfl) (by kernel_rfl) (by kernel_rfl) (by kernel_rfl) (by decide) trivial (hno 0 _)
  · rw [boolC_eq] at h
    split at h
    · rename_i hg
      have hg := Nat.eq_of_beq_eq_true hg
      subst hg
      injection h with h
      subst h
      exact glob_tab (E := EA) hL' (List.mem_of_getElem? asc_mem) (t := gTy 8) (e := eTy 8) (m := 256) (by kernel_rfl) (by kernel_rfl) (by kernel_rfl) (by kernel_rfl) (by kernel_rfl) (by kernel_rfl) (by kernel_rfl) (show 0 < zAsc.length by rw [show zAsc.length = 256 by kernel_rfl]; decide) trivial (hno 0 _)
    · cases h

noncomputable def kidOk (P : Program) (ts : List Nat) (t : Nat) : Bool := match P.underlying t with
  | some .bool => true
  | some (.int _) => true
  | some .string => true
  | some (.slice e) => ts.contains e && decide (0 < P.cellsOf e)
  | some (.struct fs) => fs.toList.all (fun f => ts.contains f.type) && (Nat.beq (P.cellsOf t) ((fs.toList.map fun f => P.cellsOf f.type).sum) && (List.range fs.toList.length).all fun j => match fs.toList[j]? with
    | some f => Nat.beq f.offset ((fs.toList.take j).map fun f => P.cellsOf f.type).sum
    | none => true)
  | _ => false
theorem kids_of {P : Program} {ts : List Nat} (h : ∀ t ∈ ts, kidOk P ts t = true) : Kids P (· ∈ ts) ∧ ∀ t e, t ∈ ts → P.underlying t = some (.slice e) → 0 < P.cellsOf e := by
  refine ⟨⟨?_, ?_, ?_, ?_, ?_⟩, ?_⟩
  · intro t e ht hu
    have := h t ht
    unfold kidOk at this
    rw [hu] at this; cases this
  · intro t e ht hu
    have := h t ht
    unfold kidOk at this
    rw [hu] at this
    rw [Bool.and_eq_true] at this
    simpa using this.1
  · intro t e n ht hu
    have := h t ht
    unfold kidOk at this
    rw [hu] at this; cases this
  · intro t fs ht hu
    have := h t ht
    unfold kidOk at this
    rw [hu] at this
    rw [Bool.and_eq_true, Bool.and_eq_true] at this
    refine ⟨fun f hf => ?_, Nat.eq_of_beq_eq_true this.2.1, fun j f hj => ?_⟩
    · have := List.all_eq_true.1 this.1 f hf
      simpa using this
    · have hlt : j < fs.toList.length := (List.getElem?_eq_some_iff.1 hj).1
      have := List.all_eq_true.1 this.2.2 j (by simpa using hlt)
      rw [hj] at this
      exact Nat.eq_of_beq_eq_true this
  · intro t k e ht hu
    have := h t ht
    unfold kidOk at this
    rw [hu] at this; cases this
  · intro t e ht hu
    have := h t ht
    unfold kidOk at this
    rw [hu] at this
    rw [Bool.and_eq_true] at this
    simpa using this.2
noncomputable def tyK : List Nat := [23, 3, 9]
theorem kidsL_ok : (tyK.all (kidOk Tryz.prog tyK)) = true := by kernel_rfl
theorem kidsL : Kids Tryz.prog (· ∈ tyK) ∧ ∀ t e, t ∈ tyK → Tryz.prog.underlying t = some (.slice e) → 0 < Tryz.prog.cellsOf e := kids_of fun t ht => List.all_eq_true.1 kidsL_ok t ht
/-- It reads behind the call as it did. -/
theorem stays {H : Type} {enc : TypeId × Value → H} {W W' : World} {t : TypeId} (ht : t ∈ tyK) {v : Value} {d : DataW H} {ps : List MemPlace} (h : DataW.Trod enc Tryz.prog W 0 (fun _ => true) true t v d ps) (hb : Below W.heap.size W W') (hlt : ∀ x ∈ ps, x.block < W.heap.size) :
    DataW.Trod enc Tryz.prog W' 0 (fun b => decide (b < W.heap.size)) true t v d ps := by
  obtain ⟨n, hn⟩ := h
  have h' : DataW.Trod enc Tryz.prog W' 0 (fun _ => true) true t v d ps := ⟨n, DataW.trod_carry n t _ _ hn fun x hx => hb.same (hlt x hx)⟩
  exact h'.respare kidsL.1 kidsL.2 ht fun x hx => by simpa using hlt x hx
theorem rts3 : Tryz.f3.resultTypes = #[4] := by kernel_rfl
theorem vts3 : Rows.consoleShowsSpec.vars = [] := rfl
/-- What the call comes to, for every argument and every world that holds the tables. -/
theorem contract_of (hI : SumOk (layer E3 E3 0 tZ) Tryz.prog 12 itoaH) (H : Type) (enc : TypeId × Value → H) (W : World) (base : Nat) (args : Array Value) (ds gs : List (DataW H)) (before : List MemPlace)
    (hval : ∀ (j : Nat) t v, Tryz.f3.params[j]? = some t → args[j]? = some v → Value.okWide Tryz.prog W .any base t v)
    (hW : DataW.Whole enc Tryz.prog Tryz.f3.params.toList Rows.consoleShowsSpec.vars false W args.toList ds gs before)
    (hsz : (DataW.weightsEach Tryz.prog (Tryz.f3.params.toList ++ []) (ds ++ gs)).all (· ≤ reachBytes) = true)
    (hL : laidMetH Tryz.prog Rows.consoleShowsRow.laid W) :
    Calls Tryz.prog 3 args W fun e W' => ∃ v, e = .returned v ∧ Rows.consoleShowsSpec.post enc Tryz.prog Tryz.f3 false true false false W args v W' := by
  have hW' := hW
  obtain ⟨p, q, hA0, hV, rfl, hfz, hnd⟩ := hW
  have hA : DataW.TrodAll enc Tryz.prog W 0 (fun _ => true) true Tryz.f3.params.toList args.toList ds p := hA0
  rw [Tryz.params3] at hA hval hsz
  obtain ⟨v0, vs0, d0, ds0, p0, q0, hargs, rfl, rfl, h0, r0⟩ := trodAll_cons hA
  obtain ⟨v1, vs1, d1, ds1, p1, q1, rfl, rfl, rfl, h1, r1⟩ := trodAll_cons r0
  obtain ⟨rfl, rfl, rfl⟩ := trodAll_nil r1
  obtain rfl : args = #[v0, v1] := by cases args; simp_all
  obtain ⟨rfl, rfl⟩ := trodVars_none hV
  obtain ⟨K, n, s, rfl, rfl, rfl⟩ := cmd_of (hval 0 23 v0 rfl rfl) h0
  obtain ⟨t, rfl, rfl, rfl, ht⟩ := Go.ChangeMaps.open_string u9t (hval 1 9 v1 rfl rfl) h1
  obtain ⟨z1, z2⟩ := small_of hsz
  have hR := rel0 hL
  have walk : Calls Tryz.prog 3 #[.agg #[.int .i64 K, .int .i64 n, .string s], .string t] W fun e W' => ∃ μ1 x s1, e = .returned x ∧ VR μ1 (St (fun _ => True) s1 μ1 W') W' (.bool true) x ∧ Below W.heap.size W W' := by
    obtain ⟨s1, hd⟩ := do3 ⟨K, n, nats s⟩ (nats t) ((nats s).length + (nats t).length + 601) z1 z2 (by show (nats s).length + _ + 600 < _; omega)
    refine (calls_of envA_ok (ovA_of hI) hR (.cons _ _ _ _ (vr_cmd K n s) (.cons _ _ _ _ (.str t) .nil)) hd).mono ?_
    rintro e W' ⟨μ1, x, h⟩
    exact ⟨μ1, x, s1, h⟩
  refine walk.mono ?_
  rintro e W' ⟨μ1, x, s1, rfl, hx, hb⟩
  cases hx
  refine ⟨.bool true, rfl, _, _, _, [], [] ++ ([] ++ []), [], hW', ?_, ?_, rfl, World.keptBut_mono (fun p hp => False.elim hp) ?_, fun h => by cases h⟩
  · rw [rts3]; exact trodAll_cons_mk (shut_bool u4 _) trodAll_mk0
  · rw [Tryz.params3]; exact trodAll_cons_mk (stays (by decide) h0 hb (fun x hx => by cases hx)) (trodAll_cons_mk (Go.ChangeMaps.shut_string u9t ht) trodAll_mk0)
  · exact hb.frame _
end
end Go.AM.S40.Sy
end
section
/- ConsoleShows: a world that fits. -/
set_option maxRecDepth 100000
namespace Go.AM.S40.Sy
open Go Go.Proofs Go.ChangeShapes Go.RowKit
open Go.Proofs.YtejhioblmaaokaaGreatDoor
noncomputable section
theorem own : ownKnob Tryz.prog.godebug = none := by kernel_rfl
noncomputable def litV (d : DataW Unit) : Value := match d with | .lit (.int k n) => .int k n | .lit (.bool b) => .bool b | _ => .nilIface
noncomputable def partsOf (d : DataW Unit) : List (DataW Unit) := match d with | .agg ps => ps | .slice ps _ => ps | .ptr (.agg (.slice ps _ :: _)) => ps | _ => []
noncomputable def lv1 (d : DataW Unit) : Array Value := ((partsOf d).map litV).toArray
noncomputable def lv2 (d : DataW Unit) : Array Value := ((partsOf d).flatMap fun p => (partsOf p).map litV).toArray
noncomputable def textOf (d : DataW Unit) : ByteArray := match d with | .iface _ (.ptr (.agg [.lit (.string bs)])) => { data := bs.toArray } | _ => ByteArray.empty
noncomputable def low : Nat := (World.holding Tryz.prog default ⟨#[], #[], []⟩).heap.size
noncomputable def setB (h : Array Obj) (g : Nat) (c : Array Value) : Array Obj := h.modify g fun
  | .cells _ t frozen => .cells c t frozen
  | o => o
noncomputable def laidWorld (os : Os) : World :=
  let w0 := World.holding Tryz.prog os ⟨#[.cells #[.string (textOf Rows.laid_strconv_ErrSyntax)] 273, .cells #[.string (textOf Rows.laid_strconv_ErrRange)] 273, .cells #[.string (textOf Rows.laid_bytes_ErrTooLarge)] 273,
    .cells #[.slice (some ⟨low + 4, 0, none⟩) 7 7, .slice none 0 0, .int .i64 2] 881, .cells (lv2 Rows.laid_unicode_White_Space) 884], #[], []⟩
  { w0 with heap := setB (setB (setB (setB (setB (setB (setB (setB (setB (setB w0.heap 0 (lv1 Rows.laid_internal_strconv_uint64pow10)) 1 #[.iface 271 (.pointer (some ⟨low, 0, none⟩))]) 2 #[.iface 271 (.pointer (some ⟨low + 1, 0, none⟩))])
      6 (lv1 Rows.laid_math_bits_deBruijn32tab)) 7 (lv1 Rows.laid_math_bits_deBruijn64tab)) 3 (lv1 Rows.laid_unicode_utf8_first)) 4 (lv2 Rows.laid_unicode_utf8_acceptRanges)) 8 (lv1 Rows.laid_strings_asciiSpace)) 9 #[.iface 271 (.pointer (some ⟨low + 2, 0, none⟩))]) 10 #[.pointer (some ⟨low + 3, 0, none⟩)] }
noncomputable def wArgs : Array Value := #[.agg #[.int .i64 0, .int .i64 0, .string ByteArray.empty], .string ByteArray.empty]
end
end Go.AM.S40.Sy
end
