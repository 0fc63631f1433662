import Derived.WalkKit
import Derived.ProofKit
import Derived.Deep.DeepHandedRow
import Derived.ReadAgain
import Derived.ChangeReads
import Derived.Test.YtlphhdagahhelaaGreatDoorL40Row
import Derived.Test.YtlphhdagahhelaaGreatDoorL40TJ
set_option linter.all false
/- ConsoleJumps: the row. -/
set_option maxRecDepth 100000
namespace Go.AM.L40.Sy
open Go Go.Proofs Go.ChangeShapes Go.RowKit
open Go.Proofs.YtlphhdagahhelaaGreatDoor
noncomputable section
theorem envZ_ok : EnvOk EZ Tryz.prog := layer_env env3_ok
theorem tabsZ_ok : TabsOk E3 Tryz.prog tZ := TabsOk.cons (fun q hq => by
  rw [List.mem_singleton] at hq; subst hq; exact sane_fact) TabsOk.nil
theorem ovZ_ok : OvOk EZ Tryz.prog := layer_ov ov3_ok env3_ok ov3_ok rfl tabsZ_ok
noncomputable def kidOk (P : Program) (ts : List Nat) (t : Nat) : Bool := match P.underlying t with
  | some .bool => true
  | some (.int _) => true
  | some .string => true
  | some (.slice e) => ts.contains e && decide (0 < P.cellsOf e)
  | some (.struct fs) => fs.toList.all (fun f => ts.contains f.type) && (Nat.beq (P.cellsOf t) ((fs.toList.map fun f => P.cellsOf f.type).sum) && (List.range fs.toList.length).all fun j => match fs.toList[j]? with
    | some f => Nat.beq f.offset ((fs.toList.take j).map fun f => P.cellsOf f.type).sum
    | none => true)
  | _ => false
theorem kids_of {P : Program} {ts : List Nat} (h : ∀ t ∈ ts, kidOk P ts t = true) : Kids P (· ∈ ts) ∧ ∀ t e, t ∈ ts → P.underlying t = some (.slice e) → 0 < P.cellsOf e := by
  refine ⟨⟨?_, ?_, ?_, ?_, ?_⟩, ?_⟩
  · intro t e ht hu
    have := h t ht
    unfold kidOk at this
    rw [hu] at this; cases this
  · intro t e ht hu
    have := h t ht
    unfold kidOk at this
    rw [hu] at this
    rw [Bool.and_eq_true] at this
    simpa using this.1
  · intro t e n ht hu
    have := h t ht
    unfold kidOk at this
    rw [hu] at this; cases this
  · intro t fs ht hu
    have := h t ht
    unfold kidOk at this
    rw [hu] at this
    rw [Bool.and_eq_true, Bool.and_eq_true] at this
    refine ⟨fun f hf => ?_, Nat.eq_of_beq_eq_true this.2.1, fun j f hj => ?_⟩
    · have := List.all_eq_true.1 this.1 f hf
      simpa using this
    · have hlt : j < fs.toList.length := (List.getElem?_eq_some_iff.1 hj).1
      have := List.all_eq_true.1 this.2.2 j (by simpa using hlt)
      rw [hj] at this
      exact Nat.eq_of_beq_eq_true this
  · intro t k e ht hu
    have := h t ht
    unfold kidOk at this
    rw [hu] at this; cases this
  · intro t e ht hu
    have := h t ht
    unfold kidOk at this
    rw [hu] at this
    rw [Bool.and_eq_true] at this
    simpa using this.2
noncomputable def tyK : List Nat := [22, 3, 4, 9, 30, 32, 33, 35, 37]
theorem kidsL_ok : (tyK.all (kidOk Tryz.prog tyK)) = true := by kernel_rfl
theorem kidsL : Kids Tryz.prog (· ∈ tyK) ∧ ∀ t e, t ∈ tyK → Tryz.prog.underlying t = some (.slice e) → 0 < Tryz.prog.cellsOf e := kids_of fun t ht => List.all_eq_true.1 kidsL_ok t ht
/-- It reads behind the call as it did. -/
theorem stays {H : Type} {enc : TypeId × Value → H} {W W' : World} {t : TypeId} (ht : t ∈ tyK) {v : Value} {d : DataW H} {ps : List MemPlace} (h : DataW.Trod enc Tryz.prog W 0 (fun _ => true) true t v d ps) (hb : Below W.heap.size W W') (hlt : ∀ x ∈ ps, x.block < W.heap.size) :
    DataW.Trod enc Tryz.prog W' 0 (fun b => decide (b < W.heap.size)) true t v d ps := by
  obtain ⟨n, hn⟩ := h
  have h' : DataW.Trod enc Tryz.prog W' 0 (fun _ => true) true t v d ps := ⟨n, DataW.trod_carry n t _ _ hn fun x hx => hb.same (hlt x hx)⟩
  exact h'.respare kidsL.1 kidsL.2 ht fun x hx => by simpa using hlt x hx
theorem rts3 : Tryz.f3.resultTypes = #[4] := by kernel_rfl
/-- What the call comes to, for every argument and every world that holds the tables. -/
theorem contract (H : Type) (enc : TypeId × Value → H) (W : World) (base : Nat) (args : Array Value) (ds gs : List (DataW H)) (before : List MemPlace)
    (hval : ∀ (j : Nat) t v, Tryz.f3.params[j]? = some t → args[j]? = some v → Value.okWide Tryz.prog W .any base t v)
    (hW : DataW.Whole enc Tryz.prog Tryz.f3.params.toList Rows.consoleJumpsSpec.vars false W args.toList ds gs before) (hL : laidMetH Tryz.prog Rows.consoleJumpsRow.laid W) :
    Calls Tryz.prog 3 args W fun e W' => ∃ v, e = .returned v ∧ Rows.consoleJumpsSpec.post enc Tryz.prog Tryz.f3 false true false false W args v W' := by
  have hW' := hW
  obtain ⟨p, q, hA0, hV, rfl, hfz, hnd⟩ := hW
  have hA : DataW.TrodAll enc Tryz.prog W 0 (fun _ => true) true Tryz.f3.params.toList args.toList ds p := hA0
  rw [Tryz.params3] at hA hval
  obtain ⟨v0, vs0, d0, ds0, p0, q0, hargs, rfl, rfl, h0, r0⟩ := trodAll_cons hA
  obtain ⟨v1, vs1, d1, ds1, p1, q1, rfl, rfl, rfl, h1, r1⟩ := trodAll_cons r0
  obtain ⟨rfl, rfl, rfl⟩ := trodAll_nil r1
  obtain rfl : args = #[v0, v1] := by cases args; simp_all
  obtain ⟨rfl, rfl⟩ := trodVars_none hV
  obtain ⟨n, rfl, rfl, rfl, hwf⟩ := open_int u3 (hval 1 3 v1 rfl rfl) h1
  have hR := rel0 hL
  have hno : ∀ l γ, ¬ Owned s0 (fun _ => none) l γ := by rintro l γ ⟨b, x, σ, _, h2, _, _⟩; cases h2
  have hS : ∀ a v, W.cell? a = some v → St (fun _ => True) s0 (fun _ => none) W a.block := by
    intro a v hc
    refine ⟨trivial, ?_, hno 0 _⟩
    unfold World.cell? at hc
    cases hh : W.heap[a.block]? with
    | none => simp [hh] at hc
    | some o => exact (Array.getElem?_eq_some_iff.1 hh).1
  have hlt : ∀ x ∈ p0, x.block < W.heap.size := fun x hx => hW'.lt x (by simp [hx])
  have walk : Calls Tryz.prog 3 #[v0, .int .i64 n] W fun e W' => ∃ μ1 x s1, e = .returned x ∧ VR μ1 (St (fun _ => True) s1 μ1 W') W' (.bool true) x ∧ Below W.heap.size W W' := by
    have key : ∀ lv, VR (fun _ => none) (St (fun _ => True) s0 (fun _ => none) W) W lv v0 → (∃ s1, doCall EZ (recN EZ 6004) 3 [lv, .int .i64 n] s0 = .ret (.bool true) s1 false) → Calls Tryz.prog 3 #[v0, .int .i64 n] W fun e W' => ∃ μ1 x s1, e = .returned x ∧ VR μ1 (St (fun _ => True) s1 μ1 W') W' (.bool true) x ∧ Below W.heap.size W W' := by
      rintro lv hlv ⟨s1, hd⟩
      rw [call3] at hd
      refine (calls_of envZ_ok ovZ_ok hR (.cons _ _ _ _ hlv (.cons _ _ _ _ (.int .i64 n) .nil)) hd).mono ?_
      rintro e W' ⟨μ1, x, h⟩
      exact ⟨μ1, x, s1, h⟩
    rcases arg_of (μ := fun _ => none) hS (hval 0 22 v0 rfl rfl) h0 with h | ⟨l, h, ho, hr⟩
    · exact key _ h (law_nils n s0)
    · exact key _ h (law_LL l false n s0 ho hr (Nat.le_refl _))
  refine walk.mono ?_
  rintro e W' ⟨μ1, x, s1, rfl, hx, hb⟩
  cases hx
  refine ⟨.bool true, rfl, _, _, _, [], p0 ++ ([] ++ []), [], hW', ?_, ?_, rfl, World.keptBut_mono (fun p hp => False.elim hp) ?_, fun h => by cases h⟩
  · rw [rts3]; exact trodAll_cons_mk (shut_bool u4 _) trodAll_mk0
  · rw [Tryz.params3]; exact trodAll_cons_mk (stays (by decide) h0 hb hlt) (trodAll_cons_mk (shut_int u3 hwf) trodAll_mk0)
  · exact hb.frame _
end
end Go.AM.L40.Sy
