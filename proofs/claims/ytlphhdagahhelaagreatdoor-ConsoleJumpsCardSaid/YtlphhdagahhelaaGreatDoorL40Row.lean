import Derived.Test.YtlphhdagahhelaaGreatDoorCards
import Derived.OpenShut
import Derived.RowKit3
import Derived.Test.YtlphhdagahhelaaGreatDoorL40Sym5
import Derived.Test.YtlphhdagahhelaaGreatDoorAm3
set_option linter.all false
/- ConsoleJumps: for every input. -/
set_option maxRecDepth 100000
namespace Go.AM.L40.Sy
open Go Go.Proofs Go.ChangeShapes Go.RowKit
open Go.Proofs.YtlphhdagahhelaaGreatDoor
noncomputable section
noncomputable def tyL : List Nat := [3, 4, 9, 30, 32, 33, 35, 37]
theorem tyL_ok : (tyL.all (tyGood Tryz.prog tyL)) = true := by kernel_rfl
theorem tyL_at : ∀ t ∈ tyL, tyGood Tryz.prog tyL t = true := fun t ht => List.all_eq_true.1 tyL_ok t ht
noncomputable def fs37 : Array Field := match Tryz.prog.underlying 37 with | some (.struct fs) => fs | _ => #[]
theorem u37 : Tryz.prog.underlying 37 = some (.struct fs37) := by kernel_rfl
theorem u3 : Tryz.prog.underlying 3 = some (.int .i64) := by kernel_rfl
theorem u4 : Tryz.prog.underlying 4 = some .bool := by kernel_rfl
theorem u22 : Tryz.prog.underlying 22 = some (.slice 37) := by kernel_rfl
theorem c37 : Tryz.prog.cellsOf 37 = 13 := by kernel_rfl
theorem c3 : Tryz.prog.cellsOf 3 = 1 := by kernel_rfl
theorem c4 : Tryz.prog.cellsOf 4 = 1 := by kernel_rfl
theorem f0_at : (fs37[0]?).map (fun f => (f.offset, f.type)) = some (0, 4) := by kernel_rfl
theorem f4_at : (fs37[4]?).map (fun f => (f.offset, f.type)) = some (4, 3) := by kernel_rfl
section
variable {H : Type} {enc : TypeId × Value → H} {W : World} {spare : Nat → Bool} {held : Bool} {μ : Mu} {Sx : Nat → Prop}
theorem list13 {α : Type} {cs : List α} (h : cs.length = 13) : ∃ c0 c1 c2 c3 c4 c5 c6 c7 c8 c9 c10 c11 c12, cs = [c0, c1, c2, c3, c4, c5, c6, c7, c8, c9, c10, c11, c12] := by
  match cs, h with
  | [c0, c1, c2, c3, c4, c5, c6, c7, c8, c9, c10, c11, c12], _ => exact ⟨c0, c1, c2, c3, c4, c5, c6, c7, c8, c9, c10, c11, c12, rfl⟩
def EvOk (μ : Mu) (Sx : Nat → Prop) (W : World) (cs : List Value) (e : Ev) : Prop := VRs μ Sx W (cellsE e) cs ∧ dataL (cellsE e) = true ∧ oneL (cellsE e) = true ∧ inR e.d
theorem field_at {fuel t off : Nat} {cs : List Value} {x : DataW H × List MemPlace} {j : Nat} (hf : (fs37[j]?).map (fun f => (f.offset, f.type)) = some (off, t)) (h : DataW.trod enc Tryz.prog W 0 spare held fuel 37 cs = some x) :
    ∃ m y, DataW.trod enc Tryz.prog W 0 spare held m t ((cs.drop off).take (Tryz.prog.cellsOf t)) = some y := by
  obtain ⟨xs, n, _, _, _, hl, hget⟩ := DataW.trod_struct u37 h
  cases hj : fs37[j]? with
  | none => rw [hj] at hf; cases hf
  | some f =>
    rw [hj] at hf
    injection hf with hf
    injection hf with h1 h2
    have := hget j f hj
    rw [h1, h2] at this
    cases hx : xs[j]? with
    | none =>
      rw [List.getElem?_eq_none_iff] at hx
      have := (Array.getElem?_eq_some_iff.1 hj).1
      omega
    | some y => rw [hx] at this; exact ⟨n, y, this⟩
theorem ev_of (hS : ∀ a v, W.cell? a = some v → Sx a.block) {fuel : Nat} {cs : List Value} {x : DataW H × List MemPlace} (h : DataW.trod enc Tryz.prog W 0 spare held fuel 37 cs = some x) : cs.length = 13 ∧ ∃ e : Ev, EvOk μ Sx W cs e := by
  obtain ⟨xs, n, _, _, hlen, _, _⟩ := DataW.trod_struct u37 h
  rw [c37] at hlen
  refine ⟨hlen, ?_⟩
  have hv := trod_vals (μ := μ) tyL_at hS fuel 37 cs x (by decide) h
  obtain ⟨m0, y0, h0⟩ := field_at f0_at h
  obtain ⟨m4, y4, h4⟩ := field_at f4_at h
  obtain ⟨z0, z1, z2, z3, z4, z5, z6, z7, z8, z9, z10, z11, z12, rfl⟩ := list13 hlen
  rw [c4] at h0
  rw [c3] at h4
  obtain ⟨b, hb, _⟩ := DataW.trod_bool u4 h0
  obtain ⟨d, hd, _, hw⟩ := DataW.trod_int u3 h4
  have hb' : z0 = .bool b := by simpa using hb
  have hd' : z4 = .int .i64 d := by simpa using hd
  clear hb hd
  subst hb'; subst hd'
  obtain ⟨a1, q1, r1, o1⟩ := hv z1 (by simp)
  obtain ⟨a2, q2, r2, o2⟩ := hv z2 (by simp)
  obtain ⟨a3, q3, r3, o3⟩ := hv z3 (by simp)
  obtain ⟨a5, q5, r5, o5⟩ := hv z5 (by simp)
  obtain ⟨a6, q6, r6, o6⟩ := hv z6 (by simp)
  obtain ⟨a7, q7, r7, o7⟩ := hv z7 (by simp)
  obtain ⟨a8, q8, r8, o8⟩ := hv z8 (by simp)
  obtain ⟨a9, q9, r9, o9⟩ := hv z9 (by simp)
  obtain ⟨a10, q10, r10, o10⟩ := hv z10 (by simp)
  obtain ⟨a11, q11, r11, o11⟩ := hv z11 (by simp)
  obtain ⟨a12, q12, r12, o12⟩ := hv z12 (by simp)
  refine ⟨⟨b, a1, a2, a3, d, a5, a6, a7, a8, a9, a10, a11, a12⟩, ?_, ?_, ?_, ?_⟩
  · exact .cons _ _ _ _ (.bool b) (.cons _ _ _ _ q1 (.cons _ _ _ _ q2 (.cons _ _ _ _ q3 (.cons _ _ _ _ (.int .i64 d) (.cons _ _ _ _ q5 (.cons _ _ _ _ q6 (.cons _ _ _ _ q7 (.cons _ _ _ _ q8 (.cons _ _ _ _ q9 (.cons _ _ _ _ q10 (.cons _ _ _ _ q11 (.cons _ _ _ _ q12 .nil))))))))))))
  · rw [dataL_iff]
    intro v hv
    simp only [cellsE, List.mem_cons, List.not_mem_nil, or_false] at hv
    rcases hv with rfl | rfl | rfl | rfl | rfl | rfl | rfl | rfl | rfl | rfl | rfl | rfl | rfl <;> first | assumption | rfl
  · show boolC true false (boolC (oneV a1) false (boolC (oneV a2) false (boolC (oneV a3) false (boolC true false (boolC (oneV a5) false (boolC (oneV a6) false (boolC (oneV a7) false (boolC (oneV a8) false (boolC (oneV a9) false (boolC (oneV a10) false (boolC (oneV a11) false (boolC (oneV a12) false true)))))))))))) = true
    rw [o1, o2, o3, o5, o6, o7, o8, o9, o10, o11, o12]; rfl
  · exact bounds_i64 hw
theorem evs_of : ∀ css : List (List Value), (∀ cs ∈ css, ∃ e : Ev, EvOk μ Sx W cs e) → ∃ l : List Ev, l.length = css.length ∧ VRs μ Sx W (flat l) css.flatten ∧ dataL (flat l) = true ∧ okE l ∧ ∀ e ∈ l, inR e.d
  | [], _ => ⟨[], rfl, .nil, rfl, (fun e h => by cases h), fun e h => by cases h⟩
  | cs :: css, h => by
    obtain ⟨e, q1, q2, q3, q4⟩ := h cs (List.mem_cons_self ..)
    obtain ⟨l, k1, k2, k3, k4, k5⟩ := evs_of css fun c hc => h c (List.mem_cons_of_mem _ hc)
    refine ⟨e :: l, by simp [k1], ?_, ?_, ?_, ?_⟩
    · show VRs μ Sx W (cellsE e ++ flat l) (cs ++ css.flatten)
      exact q1.append k2
    · show dataL (cellsE e ++ flat l) = true
      rw [dataL_iff] at q2 k3 ⊢
      intro v hv
      rcases List.mem_append.1 hv with h | h
      · exact q2 v h
      · exact k3 v h
    · intro x hx
      rcases List.mem_cons.1 hx with rfl | hx
      · exact q3
      · exact k4 x hx
    · intro x hx
      rcases List.mem_cons.1 hx with rfl | hx
      · exact q4
      · exact k5 x hx
theorem cells_flat {b : Nat} : ∀ (css : List (List Value)) (o : Nat), (∀ i cs, css[i]? = some cs → cs.length = 13 ∧ ∀ r y, cs[r]? = some y → W.cell? ⟨b, o + (i * 13 + r), none⟩ = some y) → CellsAt W b o css.flatten
  | [], o, _, j, x, hx => by simp at hx
  | c :: css, o, h, j, x, hx => by
    obtain ⟨h1, h2⟩ := h 0 c rfl
    have hx : (c ++ css.flatten)[j]? = some x := hx
    by_cases hj : j < 13
    · rw [List.getElem?_append_left (by omega)] at hx
      have := h2 j x hx
      rwa [Nat.zero_mul, Nat.zero_add] at this
    · rw [List.getElem?_append_right (by omega), h1] at hx
      have := cells_flat css (o + 13) (fun i cs hi => by
        obtain ⟨q1, q2⟩ := h (i + 1) cs (by simpa using hi)
        refine ⟨q1, fun r y hy => ?_⟩
        have := q2 r y hy
        rw [show o + ((i + 1) * 13 + r) = o + 13 + (i * 13 + r) by omega] at this
        exact this) (j - 13) x hx
      rwa [show o + 13 + (j - 13) = o + j by omega] at this
/-- The list of events, as the machine has it. -/
theorem arg_of (hS : ∀ a v, W.cell? a = some v → Sx a.block) {r : Go.Reach} {b0 : Nat} {v : Value} {d : DataW H} {ps : List MemPlace} (hval : Value.okWide Tryz.prog W r b0 22 v) (h : DataW.Trod enc Tryz.prog W 0 spare held 22 v d ps) :
    VR μ Sx W .nils v ∨ ∃ l : List Ev, VR μ Sx W (LL l false) v ∧ okE l ∧ ∀ e ∈ l, inR e.d := by
  obtain ⟨a, len, cap, rfl⟩ := WideShapes.okWide_slice u22 hval
  obtain ⟨fuel, hf⟩ := h
  rcases DataW.trod_slice u22 hf with ⟨hc, _⟩ | ⟨a', len', cap', elems, rest, n, _, hc, _, _, hcap, _, hel, hget, _⟩
  · left
    simp [Value.cells] at hc
    obtain ⟨rfl, rfl, rfl⟩ := hc
    exact .nils
  · right
    simp [Value.cells] at hc
    obtain ⟨rfl, rfl, rfl⟩ := hc
    rw [c37] at hget
    have hrow : ∀ i, i < len → ∃ cs, cs.length = 13 ∧ (∀ r y, cs[r]? = some y → W.cell? (a'.add (i * 13 + r)) = some y) ∧ ∃ e : Ev, EvOk μ Sx W cs e := by
      intro i hi
      have hgi := hget i hi
      rw [List.getElem?_eq_getElem (by rw [hel]; exact hi)] at hgi
      obtain ⟨cs, hc1, hc2⟩ := Option.bind_eq_some_iff.1 hgi
      obtain ⟨_, hlen, hcell⟩ := World.cells?_some hc1
      obtain ⟨h13, e, he⟩ := ev_of (μ := μ) hS hc2
      refine ⟨cs, h13, fun r y hy => ?_, e, he⟩
      have hr : r < 13 := by rw [← h13]; exact (List.getElem?_eq_some_iff.1 hy).1
      have := hcell r hr
      rw [add_add, hy] at this
      exact this
    cases hlen : len with
    | zero => exact ⟨[], .lsl0 a' cap false (fun h => by cases h), (fun e h => by cases h), fun e h => by cases h⟩
    | succ n' =>
      rw [← hlen]
      have hpos : 0 < len := by omega
      obtain ⟨cs0, q1, q2, _⟩ := hrow 0 hpos
      have hc0 := q2 0 (cs0[0]'(by omega)) (List.getElem?_eq_getElem (by omega))
      have hc0' : W.cell? a' = some (cs0[0]'(by omega)) := hc0
      have hsp := World.cell?_spot hc0'
      obtain ⟨b, o, sp⟩ := a'
      simp only at hsp
      subst hsp
      let css : List (List Value) := (List.range len).map fun i => if h : i < len then Classical.choose (hrow i h) else []
      have hcss : ∀ i cs, css[i]? = some cs → ∃ h : i < len, cs = Classical.choose (hrow i h) := by
        intro i cs hi
        have hlt : i < len := by
          have := (List.getElem?_eq_some_iff.1 hi).1
          simpa [css] using this
        refine ⟨hlt, ?_⟩
        simp [css, List.getElem?_map, hlt] at hi
        exact hi.symm
      obtain ⟨l, k1, k2, k3, k4, k5⟩ := evs_of (μ := μ) (Sx := Sx) (W := W) css fun cs hcs => by
        obtain ⟨i, hi⟩ := List.getElem?_of_mem hcs
        obtain ⟨hlt, rfl⟩ := hcss i cs hi
        exact (Classical.choose_spec (hrow i hlt)).2.2
      have hll : l.length = len := by rw [k1]; simp [css]
      refine ⟨l, ?_, k4, k5⟩
      have hcells : CellsAt W b o css.flatten := cells_flat css o fun i cs hi => by
        obtain ⟨hlt, rfl⟩ := hcss i cs hi
        obtain ⟨w1, w2, _⟩ := Classical.choose_spec (hrow i hlt)
        refine ⟨w1, fun r y hy => ?_⟩
        have := w2 r y hy
        rw [add_plain'] at this
        exact this
      show VR μ Sx W (.lsl (flat l) l.length false) _
      rw [hll]
      exact .lsl (flat l) len cap b o false css.flatten hpos hcap (fun h => by cases h) k2 hcells (hS _ _ hc0') k3
end
/-! ### the variables -/
noncomputable def zPow : List Int := [1, 10, 100, 1000, 10000, 100000, 1000000, 10000000, 100000000, 1000000000, 10000000000, 100000000000, 1000000000000, 10000000000000, 100000000000000, 1000000000000000, 10000000000000000, 100000000000000000, 1000000000000000000, 10000000000000000000]
noncomputable def zOf (c : List V) : List Int := mapL (fun v => match v with | .int _ n => n | _ => 0) c
noncomputable def zAsc : List Int := zOf gAscii
noncomputable def gTy (g : Nat) : Nat := match Tryz.prog.globals[g]? with | some x => x.type | none => 0
noncomputable def eTy (g : Nat) : Nat := match Tryz.prog.underlying (gTy g) with | some (.array _ e) => e | _ => 0
theorem pow_mem : Rows.consoleJumpsRow.laid[2]? = some ("internal/strconv.uint64pow10", Lib.tabData .u64 zPow) := by kernel_rfl
theorem asc_mem : Rows.consoleJumpsRow.laid[8]? = some ("strings.asciiSpace", Lib.tabData .u8 zAsc) := by kernel_rfl
theorem noHandles : (Rows.consoleJumpsRow.laid.filter fun x => x.2.handleName?.isSome) = [] := by kernel_rfl
theorem rel0 {W : World} (hL : laidMetH Tryz.prog Rows.consoleJumpsRow.laid W) : Rel EZ (fun _ => True) s0 (fun _ => none) W := by
  have hL' : laidMet Tryz.prog Rows.consoleJumpsRow.laid W := by
    unfold laidMetH at hL
    rw [noHandles] at hL
    exact hL
  have hno : ∀ l γ, ¬ Owned s0 (fun _ => none) l γ := by rintro l γ ⟨b, x, σ, _, h2, _, _⟩; cases h2
  refine ⟨Nat.le_refl _, fun _ _ => rfl, fun b γ σ h => (by cases h), fun b x h => (by cases h), fun b b' x x' γ σ σ' h => (by cases h), fun _ _ => trivial, fun g c h => ?_⟩
  have h : gT g = some c := h
  unfold gT at h
  rw [boolC_eq] at h
  split at h
  · rename_i hg
    have hg := Nat.eq_of_beq_eq_true hg
    subst hg
    injection h with h
    subst h
    exact glob_tab (E := EZ) hL' (List.mem_of_getElem? pow_mem) (t := gTy 0) (e := eTy 0) (m := 20) (by kernel_rfl) (by kernel_rfl) (by kernel_rfl) (by kernel_rfl) (by kernel_rfl) (by kernel_rfl) (by kernel_rfl) (by decide) trivial (hno 0 _)
  · rw [boolC_eq] at h
    split at h
    · rename_i hg
      have hg := Nat.eq_of_beq_eq_true hg
      subst hg
      injection h with h
      subst h
      exact glob_tab (E := EZ) hL' (List.mem_of_getElem? asc_mem) (t := gTy 8) (e := eTy 8) (m := 256) (by kernel_rfl) (by kernel_rfl) (by kernel_rfl) (by kernel_rfl) (by kernel_rfl) (by kernel_rfl) (by kernel_rfl) (show 0 < zAsc.length by rw [show zAsc.length = 256 by kernel_rfl]; decide) trivial (hno 0 _)
    · cases h
end
end Go.AM.L40.Sy
