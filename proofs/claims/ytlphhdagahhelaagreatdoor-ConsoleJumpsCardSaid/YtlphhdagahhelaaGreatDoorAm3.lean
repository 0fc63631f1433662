import Derived.Laws.IdiomRangeMap
import Derived.Carry
import Derived.Calls
import Derived.Lib.LaidTab
import Derived.KernelRfl
import GoSem.ClaimFn
import GoSem.ClaimGoes
import GoSem.ClaimStop
import GoSem.ClaimSevenParts
import Derived.JoinedOf
import Derived.LaidByTextLater
import Derived.SevenTiedAt
import Derived.LaidOnce
import Derived.Test.YtlphhdagahhelaaGreatDoorAm2
set_option linter.all false
section
/- Triples: what code comes to where an outcome is one of some (an order that is left open, a loop of any number of rounds). -/
namespace Go.AM
open Go

section
variable {E : Env} {P : Program} {A : Al} {s s' : S} {μ μ' : Mu} {Sx : Nat → Prop} {W W' : World} {rc : Rec} {K : Nat → Prop}
/-- From what holds ahead of an item, one of some outcomes. -/
def Tri (E : Env) (P : Program) (A : Al) (K : Nat → Prop) (pre : List V → M → S → Prop) (x : Item) (post : R → Prop) : Prop :=
  ∀ T m s, pre T m s → ∀ μ W b ck a, Rel E A s μ W → FR A s μ W T m b ck a → ∃ r, post r ∧ r ≠ .fail ∧ Good E P A K b ck s μ W (fun base k => lone (b.atR a (x :: k)) (csOf m base) W) r
/-- Where the next piece begins, or what an outcome is for all. -/
def onNorm (mid : List V → M → S → Prop) (post : R → Prop) (r : R) : Prop := match r with
  | .norm T m s => mid T m s
  | r => post r
theorem Tri.mono {pre pre' : List V → M → S → Prop} {x : Item} {post post' : R → Prop} (h : Tri E P A K pre x post) (h1 : ∀ T m s, pre' T m s → pre T m s) (h2 : ∀ r, post r → post' r) : Tri E P A K pre' x post' := by
  intro T m s hp μ W b ck a R F
  obtain ⟨r, q1, q2, q3⟩ := h T m s (h1 T m s hp) μ W b ck a R F
  exact ⟨r, h2 r q1, q2, q3⟩
theorem Tri.of_ok {f : List V → M → S → R} {x : Item} (hf : CodeOk E P A K f x) {pre : List V → M → S → Prop} {post : R → Prop} (h : ∀ T m s, pre T m s → post (f T m s) ∧ f T m s ≠ .fail) : Tri E P A K pre x post := by
  intro T m s hp μ W b ck a R F
  exact ⟨f T m s, (h T m s hp).1, (h T m s hp).2, hf T m s μ W b ck a R F⟩
theorem Tri.exec (ok : EnvOk E P) (hrc : RecOk E P FitP rc) {c : Code} (hc : FitP K c) {pre : List V → M → S → Prop} {post : R → Prop} (h : ∀ T m s, pre T m s → post (exec c E rc T m s) ∧ exec c E rc T m s ≠ .fail) : Tri E P A K pre (.code c) post :=
  Tri.of_ok (exec_all ok hrc c hc) h
theorem Good.past {x : Item} (hx : x.plain = true) {mach : List Frame → List Item → Machine} {r : R} {b : Frame} {ck : CK} (h : Good E P A K b ck s μ W mach r) (hn : ∀ T m s, r ≠ .norm T m s) : Good E P A K b ck s μ W (fun base k => mach base (x :: k)) r := by
  have := Good.then (f := fun _ _ _ => .fail) hx h (fun T m s' μ' W' a' e => absurd e (hn T m s'))
  cases r <;> first | exact this | exact absurd rfl (hn _ _ _)
theorem Tri.then {pre mid : List V → M → S → Prop} {x y : Item} {post : R → Prop} (hy : y.plain = true) (h1 : Tri E P A K pre x (onNorm mid post)) (h2 : Tri E P A K mid y post) :
    ∀ T m s, pre T m s → ∀ μ W b ck a, Rel E A s μ W → FR A s μ W T m b ck a → ∃ r, post r ∧ r ≠ .fail ∧ Good E P A K b ck s μ W (fun base k => lone (b.atR a (x :: y :: k)) (csOf m base) W) r := by
  intro T m s hp μ W b ck a R F
  obtain ⟨r, q1, q2, q3⟩ := h1 T m s hp μ W b ck a R F
  have nn : ∀ r', onNorm mid post r' → (∀ T m s, r' ≠ .norm T m s) → post r' := by
    intro r' h hn
    cases r' <;> first | exact h | exact absurd rfl (hn _ _ _)
  by_cases hr : ∃ T1 m1 s1, r = .norm T1 m1 s1
  · obtain ⟨T1, m1, s1, rfl⟩ := hr
    obtain ⟨μ1, W1, a1, X, R1, F1, hst⟩ := q3
    obtain ⟨r2, p1, p2, p3⟩ := h2 T1 m1 s1 q1 μ1 W1 b ck a1 R1 F1
    exact ⟨r2, p1, p2, p3.head X R1 fun base hB k => hst base hB (y :: k)⟩
  · have hn : ∀ T m s, r ≠ .norm T m s := fun T m s e => hr ⟨T, m, s, e⟩
    exact ⟨r, nn r q1 hn, q2, q3.past hy hn⟩
theorem Tri.seq {pre mid : List V → M → S → Prop} {x y : Code} {post : R → Prop} (h1 : Tri E P A K pre (.code x) (onNorm mid post)) (h2 : Tri E P A K mid (.code y) post) : Tri E P A K pre (.code (.seq x y)) post := by
  intro T m s hp μ W b ck a R F
  obtain ⟨r, q1, q2, q3⟩ := Tri.then rfl h1 h2 T m s hp μ W b ck a R F
  exact ⟨r, q1, q2, q3.head' R fun base hB k => .one stepR_seq⟩
theorem Tri.block {pre : List V → M → S → Prop} {id : Nat} {c : Code} {post : R → Prop} (h : Tri E P A K pre (.code c) (fun r => post (blockK id r))) : Tri E P A K pre (.code (.block id c)) post := by
  intro T m s hp μ W b ck a R F
  obtain ⟨r, q1, q2, q3⟩ := h T m s hp μ W b ck a R F
  refine ⟨blockK id r, q1, ?_, (Good.block (id := id) q3).head' R fun base hB k => .one stepR_block⟩
  cases r <;> first | exact absurd rfl q2 | (intro h; cases h; done) | skip
  case exit j T1 m1 s1 =>
    show boolC _ _ _ ≠ _
    rw [boolC_eq]
    split <;> (intro h; cases h)
/-- Rounds that bring a number down. -/
theorem Tri.inLoop {I : Nat → List V → M → S → Prop} {c : Code} {post : R → Prop} (h : ∀ n, Tri E P A K (I n) (.code c) (onNorm (fun T m s => ∃ n', n' < n ∧ I n' T m s) post)) : ∀ n, Tri E P A K (I n) (.inLoop c) post := by
  intro n
  induction n using Nat.strongRecOn with
  | _ n ih =>
    intro T m s hp μ W b ck a R F
    have h2 : Tri E P A K (fun T m s => ∃ n', n' < n ∧ I n' T m s) (.inLoop c) post := by
      intro T m s ⟨n', hlt, hI⟩ μ W b ck a R F
      exact ih n' hlt T m s hI μ W b ck a R F
    obtain ⟨r, q1, q2, q3⟩ := Tri.then (y := .inLoop c) rfl (h n) h2 T m s hp μ W b ck a R F
    exact ⟨r, q1, q2, q3.head' R fun base hB k => .one stepR_inLoop⟩
theorem Tri.loop {I : Nat → List V → M → S → Prop} {c : Code} {post : R → Prop} (h : ∀ n, Tri E P A K (I n) (.code c) (onNorm (fun T m s => ∃ n', n' < n ∧ I n' T m s) post)) (n : Nat) : Tri E P A K (I n) (.code (.loop c)) post := by
  intro T m s hp μ W b ck a R F
  have h2 : Tri E P A K (fun T m s => ∃ n', n' < n ∧ I n' T m s) (.inLoop c) post := by
    intro T m s ⟨n', hlt, hI⟩ μ W b ck a R F
    exact Tri.inLoop h n' T m s hI μ W b ck a R F
  obtain ⟨r, q1, q2, q3⟩ := Tri.then (y := .inLoop c) rfl (h n) h2 T m s hp μ W b ck a R F
  exact ⟨r, q1, q2, q3.head' R fun base hB k => .one stepR_loop⟩
theorem Tri.cond {pre : List V → M → S → Prop} {c : Operand} {x y : Code} {post : R → Prop} (t : List V → Bool) (ht : ∀ T m s, pre T m s → bind (opv E T c) boolOf = some (t T)) (h1 : Tri E P A K (fun T m s => pre T m s ∧ t T = true) (.code x) post)
    (h2 : Tri E P A K (fun T m s => pre T m s ∧ t T = false) (.code y) post) : Tri E P A K pre (.code (.cond c x y)) post := by
  intro T m s hp μ W b ck a R F
  have hb := ht T m s hp
  obtain ⟨v, hv, hbv⟩ := bind_eq_some.1 hb
  have hr := opv_sound R F.tmps hv
  have he : a.eval c = .bool (t T) := by
    unfold boolOf at hbv
    split at hbv
    · injection hbv with hbv; subst hbv
      generalize a.eval c = y at hr ⊢
      cases hr; rfl
    · cases hbv
  cases htt : t T with
  | true =>
    obtain ⟨r, q1, q2, q3⟩ := h1 T m s ⟨hp, htt⟩ μ W b ck a R F
    refine ⟨r, q1, q2, q3.head' R fun base hB k => .one ?_⟩
    have := stepR_cond (P := P) (b := b) (a := a) (k := k) (cs := csOf m base) (w := W) (c := c) (x := x) (y := y) he
    rw [htt] at this; exact this
  | false =>
    obtain ⟨r, q1, q2, q3⟩ := h2 T m s ⟨hp, htt⟩ μ W b ck a R F
    refine ⟨r, q1, q2, q3.head' R fun base hB k => .one ?_⟩
    have := stepR_cond (P := P) (b := b) (a := a) (k := k) (cs := csOf m base) (w := W) (c := c) (x := x) (y := y) he
    rw [htt] at this; exact this
/-! ### the next entry of a map, whichever it is -/
theorem next_map (R : Rel E A s μ W) {b m n β σ : Nat} {seen : List Nat} {es : List (V × V)} (hb : s.heap.get b = some (.miter m n seen)) (hlo : s.lo ≤ b) (hmb : μ b = some (β, σ)) (hm : s.heap.get m = some (.amap es)) (hn : es.length = n) (hbm : b ≠ m) (ty : TypeId) :
    σ = 0 ∧ (((∀ i, i < n → i ∈ seen) ∧ ∃ W', (Instr.next (.pointer (some ⟨β, 0, none⟩)) false ty).run P W = .ok (.tuple #[.bool false]) W' ∧ Ext s μ W s μ W' ∧ Rel E A s μ W') ∨
      ∃ i k v W' x y, i < n ∧ i ∉ seen ∧ es[i]? = some (k, v) ∧ (Instr.next (.pointer (some ⟨β, 0, none⟩)) false ty).run P W = .ok (.tuple #[.bool true, x, y]) W' ∧
        Ext s μ W (s.put b (.miter m n (i :: seen))) μ W' ∧ Rel E A (s.put b (.miter m n (i :: seen))) μ W' ∧ VR μ (St A (s.put b (.miter m n (i :: seen))) μ W') W' k x ∧ VR μ (St A (s.put b (.miter m n (i :: seen))) μ W') W' v y) := by
  obtain ⟨β', σ', hm', hbr⟩ := R.br b _ hb
  rw [hmb] at hm'; cases hm'
  cases hbr with
  | miter _ _ _ γ hσ hh hmm =>
  obtain ⟨γ', σ', hm', hbr⟩ := R.br m _ hm
  rw [hmm] at hm'; cases hm'
  cases hbr with
  | amap _ entries clock hσ2 hh2 hbo her =>
  subst hσ
  refine ⟨rfl, ?_⟩
  have hcl : clock = n := by rw [hbo.1, ← hn, ← her.length]; rfl
  subst hcl
  have hold : ∀ x ∈ entries.toList, x.born < clock := by
    intro x hx
    obtain ⟨i, hi⟩ := List.getElem?_of_mem hx
    rw [Array.getElem?_toList] at hi
    rw [hbo.2 i x hi, hbo.1]
    exact (Array.getElem?_eq_some_iff.1 hi).1
  have htest := next_test_false seen.reverse.toArray entries clock clock hold (Nat.le_refl _)
  simp only [Instr.next, Sem.run_bind, run_getObj hh (by simp), Result.andThen_ok, run_getObj hh2 (by simp), htest, Bool.false_eq_true, if_false]
  have hmem : ∀ x ∈ (Array.filter (fun e => !seen.reverse.toArray.contains e.born) entries).toList, x ∈ entries.toList ∧ x.born ∉ seen := fun x hx => by
    simp at hx ⊢
    exact hx
  have hall : ∀ x ∈ entries.toList, x.born ∉ seen → x ∈ (Array.filter (fun e => !seen.reverse.toArray.contains e.born) entries).toList := fun x hx h => by
    simp at hx ⊢
    exact ⟨hx, h⟩
  generalize Array.filter (fun e => !seen.reverse.toArray.contains e.born) entries = L at hmem hall ⊢
  have e1 : L.filter (fun x => decide (x.born < clock)) = L := Array.filter_eq_self.2 (fun x hx => by simpa using hold x (hmem x (by simpa using hx)).1)
  have e2 : L.filter (fun x => decide (x.born ≥ clock)) = #[] := by
    rw [Array.filter_eq_empty_iff]
    intro x hx
    have := hold x (hmem x (by simpa using hx)).1
    simp
    omega
  simp only [e1, e2, Array.append_empty]
  by_cases h0 : L.size = 0
  · left
    have : L = #[] := Array.eq_empty_of_size_eq_zero h0
    subst this
    refine ⟨fun i hi => ?_, W, ?_, Ext.refl _ _ _, R⟩
    · have hi' : i < entries.size := by rw [← hbo.1]; exact hi
      have hb' := hbo.2 i entries[i] (by simp)
      rcases Classical.em (i ∈ seen) with h | h
      · exact h
      · have := hall entries[i] (by simp) (by rw [hb']; exact h)
        simp at this
    · simp [choose, Sem.run, Question.forced]
  · right
    have hne : L.isEmpty = false := by simp [Array.isEmpty, h0]
    simp only [hne, Bool.false_eq_true, if_false, Array.empty_append, Array.size_map]
    have hch : ∃ (j d : Nat), j < L.size ∧ (choose (Question.mapNext L.size)).run P W = .ok j { W with drawn := d } := by
      by_cases hf : L.size ≤ 1
      · exact ⟨0, W.drawn, by omega, by simp [choose, Sem.run, Question.forced, hf]⟩
      · exact ⟨_, W.drawn + 1, Nat.mod_lt _ (by omega), by
          simp only [choose, Sem.run, Question.forced, decide_eq_true_eq, hf, if_false, Question.cut]
          rfl⟩
    obtain ⟨j, d, hj, hrun⟩ := hch
    obtain ⟨q1, q2⟩ := hmem L[j] (by simp)
    obtain ⟨i, hi⟩ := List.getElem?_of_mem q1
    have hbi := hbo.2 i L[j] (by simpa using hi)
    have hi' : i < clock := by rw [hbo.1]; exact (Array.getElem?_eq_some_iff.1 (by simpa using hi : entries[i]? = some L[j])).1
    obtain ⟨p, hp⟩ : ∃ p, es[i]? = some p := ⟨es[i]'(by omega), by simp⟩
    obtain ⟨e', he', hk, hv⟩ := her.get hp
    rw [hi] at he'; injection he' with he'; subst he'
    have Rd := R.drew d
    have Xd := Ext.drew s μ W d
    obtain ⟨X, R'⟩ := Rd.putObj (x' := .miter m clock (i :: seen)) (o' := .mapIter (some γ) clock (i :: seen).reverse.toArray clock) hb rfl hlo hmb hh (by simp) (by simp)
      (fun X => .miter m clock (i :: seen) γ rfl (by rw [setObjW_get (W := { W with drawn := d }) (R.dom b β 0 hmb).2, if_pos rfl]) hmm)
    refine ⟨i, p.1, p.2, _, L[j].key, L[j].val, hi', by rw [← hbi]; exact q2, hp, ?_, Xd.trans X, R', hk.ext ((Xd.trans X).vext R), hv.ext ((Xd.trans X).vext R)⟩
    have hset : (setObj β (.mapIter (some γ) clock (seen.reverse.toArray.push L[j].born) clock)).run P { W with drawn := d } = .ok () (setObjW { W with drawn := d } β (.mapIter (some γ) clock (i :: seen).reverse.toArray clock)) := by
      have := run_setObj (P := P) (W := { W with drawn := d }) (β := β) hh (by simp) (.mapIter (some γ) clock (seen.reverse.toArray.push L[j].born) clock)
      rw [this, hbi]
      simp
    simp only [hrun, Result.andThen_ok, Array.getElem?_map, Array.getElem?_eq_getElem hj, Option.map_some, Sem.run_bind, hset, Sem.run_pure]
/-- A region that begins with the step of an iterator over a map. -/
theorem Tri.next (ok : EnvOk E P) (hrc : RecOk E P FitP rc) {pre : List V → M → S → Prop} {post : R → Prop} {id t : Nat} {d : Option Nat} {ty : Nat} {pos : String} {after : Array Edge} {os : List Oper} {ops : Array Oper}
    (hops : ops.toList = ⟨d, .next (.tmp t) false, ty, pos, after, none⟩ :: os)
    (h : ∀ T m s, pre T m s → ∃ b mm n seen es, nth T t = some (.ptr b 0) ∧ s.heap.get b = some (.miter mm n seen) ∧ s.lo ≤ b ∧ s.heap.get mm = some (.amap es) ∧ es.length = n ∧
      (∀ i k v, i < n → i ∉ seen → es[i]? = some (k, v) → post (runOps os ops.toList E rc (setD T d (.tup [.bool true, k, v])) m (s.put b (.miter mm n (i :: seen)))) ∧ runOps os ops.toList E rc (setD T d (.tup [.bool true, k, v])) m (s.put b (.miter mm n (i :: seen))) ≠ .fail) ∧
      ((∀ i, i < n → i ∈ seen) → post (runOps os ops.toList E rc (setD T d (.tup [.bool false])) m s) ∧ runOps os ops.toList E rc (setD T d (.tup [.bool false])) m s ≠ .fail)) :
    Tri E P A K pre (.code (.region id ops false)) post := by
  intro T m s hp μ W b ck a R F
  obtain ⟨bb, mm, n, seen, es, h1, h2, h3, h4, h5, h6, h7⟩ := h T m s hp
  have ho : ops[0]? = some ⟨d, .next (.tmp t) false, ty, pos, after, none⟩ := by rw [← Array.getElem?_toList, hops]; rfl
  have hsz : ops.size = os.length + 1 := by rw [← Array.length_toList, hops]; rfl
  have hrest : ∀ j, ops[0 + 1 + j]? = os[j]? := fun j => by rw [← Array.getElem?_toList, hops, show 0 + 1 + j = j + 1 by omega]; rfl
  have hrange : List.range ops.size = 0 :: List.range' (0 + 1) os.length := by rw [hsz, List.range_eq_range', List.range'_succ]
  have ht := opv_sound R F.tmps (x := .tmp t) h1
  have hev : ∃ β σ, a.eval (.tmp t) = .pointer (some ⟨β, σ, none⟩) ∧ μ bb = some (β, σ) := by
    generalize a.eval (.tmp t) = y at ht ⊢
    cases ht with
    | ptr _ _ β σ hm => exact ⟨β, σ, rfl, hm⟩
  obtain ⟨β, σ, hev, hmb⟩ := hev
  have hne : bb ≠ mm := fun e => by rw [e, h4] at h2; cases h2
  obtain ⟨rfl, hcase⟩ := next_map (P := P) R h2 h3 hmb h4 h5 hne ty
  have hsem : ∀ w : World, (Oper.semAt b.roundOf a.eval ⟨d, .next (.tmp t) false, ty, pos, after, none⟩).run P w = ((do pure (.value (← Instr.next (.pointer (some ⟨β, 0, none⟩)) false ty))) : Sem Next).run P w := by
    intro w
    rw [Oper.semAt_eq b.roundOf a.eval _ (fun c hc => by cases hc)]
    unfold execOp
    dsimp only
    rw [hev]
  have hstep : ∀ (v : V) (x : Value) (s1 : S) (W1 : World), (Instr.next (.pointer (some ⟨β, 0, none⟩)) false ty).run P W = .ok x W1 → Ext s μ W s1 μ W1 → Rel E A s1 μ W1 → VR μ (St A s1 μ W1) W1 v x →
      Good E P A K b ck s μ W (fun base k => lone (b.atR a (.code (.region id ops false) :: k)) (csOf m base) W) (runOps os ops.toList E rc (setD T d v) m s1) := by
    intro v x s1 W1 hrun X R1 hv
    have hg := runOps_good (K := K) (ops := ops) ok hrc (yield_ok hrc) os (0 + 1) hrest (setD T d v) m s1 μ W1 (a.put d x) R1 ((F.ext R X.toA).put hv d)
    refine hg.head X.toA R1 fun base hB k => .head stepR_region ?_
    rw [hrange]
    exact .one (step_plain (o := ⟨d, .next (.tmp t) false, ty, pos, after, none⟩) ho rfl (nx := .value x) (by rw [hsem]; simp [hrun]) (.inl rfl))
  rcases hcase with ⟨q1, W1, q2, q3, q4⟩ | ⟨i, k, v, W1, x, y, q1, q2, q3, q4, q5, q6, q7, q8⟩
  · exact ⟨_, (h7 q1).1, (h7 q1).2, hstep (.tup [.bool false]) _ s W1 q2 q3 q4 (.tup _ _ (.cons _ _ _ _ (.bool _) .nil))⟩
  · exact ⟨_, (h6 i k v q1 q2 q3).1, (h6 i k v q1 q2 q3).2, hstep (.tup [.bool true, k, v]) _ _ W1 q4 q5 q6 (.tup _ _ (.cons _ _ _ _ (.bool _) (.cons _ _ _ _ q7 (.cons _ _ _ _ q8 .nil))))⟩

/-! ### functions -/
/-- A function's body, from a triple. -/
theorem body_tri (ok : EnvOk E P) (hrc : RecOk E P FitP rc) {f : Nat} {fn : Func} {c : Code} (hf : E.fn f = some fn) (hb : fn.body = some c) {args : List V} {xs : Array Value} {r0 : CR} (R : Rel E A s μ W) (hargs : VRs μ (St A s μ W) W args xs.toList)
    (h : ∀ A, Tri E P A (KP (resTmps fn.results.toList)) (fun T m s' => T = frame0 fn args ∧ m = bodyM false none ∧ s' = s) (.code c) (fun r => bodyEnd E rc fn r = r0)) : BodyOut E P A s μ W f xs false .any r0 := by
  -- the outcome may hang on the frame: but what the body comes to does not
  let b : Frame := { (default : Frame) with fn := f, kind := kindOfDk false, roundOf := none }
  have key : ∀ b a0, FR A s μ W (frame0 fn args) (bodyM false none) b .any a0 → ∃ r, bodyEnd E rc fn r = r0 ∧ Good E P A (KP (resTmps fn.results.toList)) b .any s μ W (fun base k => lone (b.atR a0 (.code c :: k)) (csOf (bodyM false none) base) W) r := by
    intro b a0 F
    obtain ⟨r, q1, q2, q3⟩ := h A _ _ _ ⟨rfl, rfl, rfl⟩ μ W b .any a0 R F
    exact ⟨r, q1, q3⟩
  exact body_good' ok hrc hf hb R hargs (show DkOk μ (St A s μ W) W false none .any from rfl) key
/-- A summary, from triples. -/
theorem SumOk.tri (ok : EnvOk E P) (hov : OvOk E P) (n : Nat) {f : Nat} {fn : Func} {c : Code} (hf : E.fn f = some fn) (hb : fn.body = some c) {h : List V → S → CR}
    (ht : ∀ A args s, h args s ≠ .fail → Tri E P A (KP (resTmps fn.results.toList)) (fun T m s' => T = frame0 fn args ∧ m = bodyM false none ∧ s' = s) (.code c) (fun r => bodyEnd E (recN E n) fn r = h args s)) : SumOk E P f h := by
  intro A args xs s μ W R ha
  by_cases hne : h args s = .fail
  · rw [hne]; trivial
  · exact callN_ok (body_tri ok (rec_ok ok hov n) hf hb R ha fun A => ht A args s hne)
end
end Go.AM
end
section
/- Pieces of a body whose states are written out: blocks that nothing needs any more are let go. -/
namespace Go.AM
open Go

/-- A memory with fewer blocks. -/
structure Sub (s' s : S) : Prop where
  next : s'.next = s.next
  lo : s'.lo = s.lo
  low : ∀ b, b < s.lo → s'.heap.get b = s.heap.get b
  get : ∀ b x, s'.heap.get b = some x → s.heap.get b = some x
section
variable {E : Env} {P : Program} {A : Al} {s s' : S} {μ μ' : Mu} {Sx : Nat → Prop} {W W' : World} {rc : Rec} {K : Nat → Prop}
theorem Sub.refl (s : S) : Sub s s := ⟨rfl, rfl, fun _ _ => rfl, fun _ _ h => h⟩
theorem Sub.owned (h : Sub s' s) {l β : Nat} (ho : Owned s' μ l β) : Owned s μ l β := by
  obtain ⟨b, x, σ, h1, h2, h3, h4⟩ := ho
  exact ⟨b, x, σ, h1, h.get b x h2, h3, h4⟩
theorem Sub.ext (h : Sub s' s) : Ext s μ W s' μ W :=
  ⟨Nat.le_of_eq h.next.symm, h.lo, fun _ _ k => k, h.low, Nat.le_refl _, fun _ _ _ => rfl, fun _ _ ho k => ho (h.owned k), fun _ _ => rfl, rfl, rfl, rfl⟩
theorem Rel.sub (R : Rel E A s μ W) (h : Sub s' s) : Rel E A s' μ W := by
  refine R.step h.ext (fun b hb => R.top b (by rw [← h.next]; exact hb)) (fun b β σ hm => .inl hm) (fun b x hx => .inl ⟨h.get b x hx, fun β σ hm => rfl⟩) ?_
  intro b b' x x' β σ σ' h1 h2 h3 h4 h5
  exact R.excl b b' x x' β σ σ' (h.get _ _ h1) (h.get _ _ h2) h3 h4 h5
theorem Tri.clean {pre mid mid' : List V → M → S → Prop} {x : Item} {post : R → Prop} (h : Tri E P A K pre x (onNorm mid post)) (hc : ∀ T m s, mid T m s → ∃ s', Sub s' s ∧ mid' T m s') : Tri E P A K pre x (onNorm mid' post) := by
  intro T m s hp μ W b ck a R F
  obtain ⟨r, q1, q2, q3⟩ := h T m s hp μ W b ck a R F
  cases r with
  | norm T1 m1 s1 =>
    obtain ⟨s', k1, k2⟩ := hc T1 m1 s1 q1
    obtain ⟨μ1, W1, a1, X, R1, F1, hst⟩ := q3
    have X2 : ExtA A s1 μ1 W1 s' μ1 W1 := k1.ext.toA
    exact ⟨.norm T1 m1 s', k2, (fun e => by cases e), μ1, W1, a1, X.trans R1 X2, R1.sub k1, F1.ext R1 X2, hst⟩
  | fail => exact ⟨.fail, q1, q2, q3⟩
  | exit id T m s => exact ⟨.exit id T m s, q1, q2, q3⟩
  | ret T m s => exact ⟨.ret T m s, q1, q2, q3⟩
  | pan v T m s => exact ⟨.pan v T m s, q1, q2, q3⟩
end
/-! ### memories written out -/
noncomputable def mkH (bl : List (Nat × B)) : Tr B := List.rec (motive := fun _ => Tr B) .e (fun p _ ih => ih.put p.1 (some p.2)) bl
noncomputable def mkS (n : Nat) (bl : List (Nat × B)) : S := { heap := mkH bl, next := n, lo := 0 }
noncomputable def getsB (s : S) (bl : List (Nat × B)) : List (Option B) := mapL (fun p => s.heap.get p.1) bl
noncomputable def havB (bl : List (Nat × B)) : List (Option B) := mapL (fun p => some p.2) bl
theorem get_e (b : Nat) : (Tr.e : Tr B).get b = none := rfl
theorem mkH_get {bl : List (Nat × B)} {b : Nat} {x : B} (h : (mkH bl).get b = some x) : (b, x) ∈ bl := by
  induction bl with
  | nil => cases h
  | cons p bl ih =>
    have h : (Tr.put (mkH bl) p.1 (some p.2)).get b = some x := h
    rw [Tr.get_put] at h
    split at h
    · rename_i e
      injection h with h
      subst h
      rw [show (b, p.2) = p from by rw [e]]
      exact List.mem_cons_self ..
    · exact List.mem_cons_of_mem _ (ih h)
theorem gets_at {s : S} {bl : List (Nat × B)} (h : getsB s bl = havB bl) : ∀ b x, (b, x) ∈ bl → s.heap.get b = some x := by
  induction bl with
  | nil => intro b x hm; cases hm
  | cons p bl ih =>
    have h : s.heap.get p.1 :: getsB s bl = some p.2 :: havB bl := h
    injection h with h1 h2
    intro b x hm
    rcases List.mem_cons.1 hm with e | hm
    · rw [← e] at h1; exact h1
    · exact ih h2 b x hm
theorem sub_of {s : S} {n : Nat} {bl : List (Nat × B)} (h1 : s.next = n) (h2 : s.lo = 0) (h3 : getsB s bl = havB bl) : Sub (mkS n bl) s :=
  ⟨h1.symm, h2.symm, fun b hb => by rw [h2] at hb; omega, fun b x hx => gets_at h3 b x (mkH_get hx)⟩
/-- What is asked of a state behind a piece. -/
noncomputable def projN (bl : List (Nat × B)) (r : R) : Option (List V × M × Nat × Nat × List (Option B)) := match r with
  | .norm T m s => some (T, m, s.next, s.lo, getsB s bl)
  | _ => none
theorem projN_eq {bl : List (Nat × B)} {r : R} {T : List V} {m : M} {n : Nat} (h : projN bl r = some (T, m, n, 0, havB bl)) : ∃ s, r = .norm T m s ∧ Sub (mkS n bl) s := by
  cases r with
  | norm T1 m1 s1 =>
    injection h with h
    injection h with h1 h
    injection h with h2 h
    injection h with h3 h
    injection h with h4 h5
    subst h1; subst h2
    exact ⟨s1, rfl, sub_of h3 h4 h5⟩
  | _ => cases h
section
variable {E : Env} {P : Program} {A : Al} {rc : Rec} {K : Nat → Prop}
theorem Tri.piece (ok : EnvOk E P) (hrc : RecOk E P FitP rc) {c : Code} (hc : FitP K c) {T0 T1 : List V} {m0 m1 : M} {s0 : S} {n : Nat} {bl : List (Nat × B)} {post : R → Prop} (h : projN bl (Go.AM.exec c E rc T0 m0 s0) = some (T1, m1, n, 0, havB bl)) :
    Tri E P A K (fun T m s => T = T0 ∧ m = m0 ∧ s = s0) (.code c) (onNorm (fun T m s => T = T1 ∧ m = m1 ∧ s = mkS n bl) post) := by
  obtain ⟨s1, h1, h2⟩ := projN_eq h
  refine Tri.clean (mid := fun T m s => T = T1 ∧ m = m1 ∧ s = s1) (Tri.exec ok hrc hc ?_) ?_
  · rintro T m s ⟨rfl, rfl, rfl⟩
    rw [h1]
    exact ⟨⟨rfl, rfl, rfl⟩, fun e => by cases e⟩
  · rintro T m s ⟨rfl, rfl, rfl⟩
    exact ⟨_, h2, rfl, rfl, rfl⟩
end
/-! ### frames some of whose places are open -/
noncomputable def fillT (l : List (Option V)) (f : Nat → V) : Nat → List V := List.rec (motive := fun _ => Nat → List V) (fun _ => []) (fun o _ ih i => optC o (f i) (fun v => v) :: ih (i + 1)) l
noncomputable def agree (l : List (Option V)) : List V → Bool := List.rec (motive := fun _ => List V → Bool) (fun T => listC T true fun _ _ => false) (fun o _ ih T => listC T false fun w T => optC o (ih T) fun v => boolC (eqVs [v] [w]) false (ih T)) l
theorem agree_ok {l : List (Option V)} : ∀ {T : List V} (d : Nat), agree l T = true → ∃ f, T = fillT l f d := by
  induction l with
  | nil =>
    intro T d h
    cases T with
    | nil => exact ⟨fun _ => .nilp, rfl⟩
    | cons v T => cases h
  | cons o l ih =>
    intro T d h
    cases T with
    | nil => cases h
    | cons w T =>
      have key : ∀ {f : Nat → V}, T = fillT l f (d + 1) → ∃ g : Nat → V, g d = w ∧ T = fillT l g (d + 1) := by
        intro f hf
        refine ⟨fun j => if j = d then w else f j, if_pos rfl, ?_⟩
        rw [hf]
        have : ∀ (l : List (Option V)) (e : Nat), d < e → fillT l f e = fillT l (fun j => if j = d then w else f j) e := by
          intro l
          induction l with
          | nil => intro e _; rfl
          | cons o l ih =>
            intro e he
            show optC o (f e) (fun v => v) :: fillT l f (e + 1) = optC o (if e = d then w else f e) (fun v => v) :: fillT l _ (e + 1)
            rw [if_neg (by omega), ih (e + 1) (by omega)]
        exact this l (d + 1) (by omega)
      cases o with
      | none =>
        obtain ⟨f, hf⟩ := ih (T := T) (d + 1) h
        obtain ⟨g, hg, hT⟩ := key hf
        exact ⟨g, by show w :: T = g d :: fillT l g (d + 1); rw [hg, ← hT]⟩
      | some v =>
        have h : boolC (eqVs [v] [w]) false (agree l T) = true := h
        rw [boolC_eq] at h
        split at h
        · rename_i he
          have he := eqVs_eq _ _ he
          injection he with he
          obtain ⟨f, hf⟩ := ih (T := T) (d + 1) h
          exact ⟨f, by show w :: T = v :: fillT l f (d + 1); rw [he, ← hf]⟩
        · cases h
noncomputable def thenR (r : R) (f : List V → M → S → R) : R := match r with | .norm T m s => f T m s | r => r
noncomputable def projA (lits : List (Option V)) (bl : List (Nat × B)) (r : R) : Option (Option Nat × Bool × M × Nat × Nat × List (Option B)) := match r with
  | .norm T m s => some (none, agree lits T, m, s.next, s.lo, getsB s bl)
  | .exit id T m s => some (some id, agree lits T, m, s.next, s.lo, getsB s bl)
  | _ => none
theorem projA_norm {lits : List (Option V)} {bl : List (Nat × B)} {r : R} {m : M} {n : Nat} (h : projA lits bl r = some (none, true, m, n, 0, havB bl)) : ∃ f s, r = .norm (fillT lits f 0) m s ∧ Sub (mkS n bl) s := by
  cases r with
  | norm T1 m1 s1 =>
    injection h with h
    injection h with _ h
    injection h with h1 h
    injection h with h2 h
    injection h with h3 h
    injection h with h4 h5
    subst h2
    obtain ⟨f, rfl⟩ := agree_ok 0 h1
    exact ⟨f, s1, rfl, sub_of h3 h4 h5⟩
  | exit id T m s => injection h with h; injection h with h _; cases h
  | _ => cases h
theorem projA_exit {lits : List (Option V)} {bl : List (Nat × B)} {r : R} {m : M} {n id : Nat} (h : projA lits bl r = some (some id, true, m, n, 0, havB bl)) : ∃ f s, r = .exit id (fillT lits f 0) m s ∧ Sub (mkS n bl) s := by
  cases r with
  | exit id T1 m1 s1 =>
    injection h with h
    injection h with h0 h
    injection h0 with h0
    injection h with h1 h
    injection h with h2 h
    injection h with h3 h
    injection h with h4 h5
    subst h2; subst h0
    obtain ⟨f, rfl⟩ := agree_ok 0 h1
    exact ⟨f, s1, rfl, sub_of h3 h4 h5⟩
  | norm T m s => injection h with h; injection h with h _; cases h
  | _ => cases h
def isExit (r : R) : Bool := match r with | .exit .. => true | _ => false
theorem thenR_norm {r : R} {f : List V → M → S → R} {T : List V} {m : M} {s : S} (h : thenR r f = .norm T m s) : ∃ T1 m1 s1, r = .norm T1 m1 s1 ∧ f T1 m1 s1 = .norm T m s := by
  cases r with
  | norm T1 m1 s1 => exact ⟨T1, m1, s1, rfl, h⟩
  | _ => cases h
theorem thenR_exit {r : R} {f : List V → M → S → R} {id : Nat} {T : List V} {m : M} {s : S} (h : thenR r f = .exit id T m s) (hr : isExit r = false) : ∃ T1 m1 s1, r = .norm T1 m1 s1 ∧ f T1 m1 s1 = .exit id T m s := by
  cases r with
  | norm T1 m1 s1 => exact ⟨T1, m1, s1, rfl, h⟩
  | exit => cases hr
  | _ => cases h
/-! ### how many are not seen yet -/
def unseen (seen : List Nat) : Nat → Nat
  | 0 => 0
  | n + 1 => unseen seen n + if n ∈ seen then 0 else 1
theorem unseen_le (seen : List Nat) (i : Nat) : ∀ n, unseen (i :: seen) n ≤ unseen seen n := by
  intro n
  induction n with
  | zero => exact Nat.le_refl _
  | succ n ih =>
    show unseen (i :: seen) n + (if n ∈ i :: seen then 0 else 1) ≤ unseen seen n + if n ∈ seen then 0 else 1
    by_cases h : n ∈ seen
    · rw [if_pos h, if_pos (List.mem_cons_of_mem _ h)]; omega
    · rw [if_neg h]; split <;> omega
theorem unseen_lt (seen : List Nat) (i : Nat) (hi : i ∉ seen) : ∀ n, i < n → unseen (i :: seen) n < unseen seen n := by
  intro n
  induction n with
  | zero => intro h; omega
  | succ n ih =>
    intro h
    show unseen (i :: seen) n + (if n ∈ i :: seen then 0 else 1) < unseen seen n + if n ∈ seen then 0 else 1
    by_cases he : i = n
    · subst he
      have := unseen_le seen i i
      rw [if_pos (List.mem_cons_self ..), if_neg hi]; omega
    · have := ih (by omega)
      by_cases h : n ∈ seen
      · rw [if_pos h, if_pos (List.mem_cons_of_mem _ h)]; omega
      · rw [if_neg h]; split <;> omega
end Go.AM
end
section
/- Tables of known results. -/
namespace Go.AM
open Go
noncomputable def tabOk (E : Env) (n f : Nat) (l : List (List V × V)) : Bool := List.rec (motive := fun _ => Bool) true (fun p _ ih => optC (runE E n f p.1) false fun v => boolC (eqVs [p.2] [v]) false ih) l
theorem tabOk_at {E : Env} {n f : Nat} {l : List (List V × V)} (h : tabOk E n f l = true) : ∀ p ∈ l, ∃ n, runE E n f p.1 = some p.2 := by
  induction l with
  | nil => intro p hp; cases hp
  | cons q l ih =>
    have h : optC (runE E n f q.1) false (fun v => boolC (eqVs [q.2] [v]) false (tabOk E n f l)) = true := h
    cases hr : runE E n f q.1 with
    | none => rw [hr] at h; cases h
    | some v =>
      rw [hr, optC_some, boolC_eq] at h
      split at h
      · rename_i he
        have he := eqVs_eq _ _ he
        injection he with he
        intro p hp
        rcases List.mem_cons.1 hp with rfl | hp
        · exact ⟨n, by rw [hr, he]⟩
        · exact ih h p hp
      · cases h
theorem tab_app {E : Env} {f : Nat} {l l' : List (List V × V)} (h : ∀ p ∈ l, ∃ n, runE E n f p.1 = some p.2) (h' : ∀ p ∈ l', ∃ n, runE E n f p.1 = some p.2) : ∀ p ∈ l ++ l', ∃ n, runE E n f p.1 = some p.2 := by
  intro p hp
  rcases List.mem_append.1 hp with k | k
  · exact h p k
  · exact h' p k
noncomputable def failH : List V → S → CR := fun _ _ => .fail
theorem failH_ok (E : Env) (P : Program) (f : Nat) : SumOk E P f failH := fun _ _ _ _ _ _ _ _ => trivial
end Go.AM
end
section
/- Layers of known results. -/
namespace Go.AM
open Go

section
variable {E E' : Env} {P : Program} {A : Al} {s s' : S} {μ μ' : Mu} {W W' : World}
/-- A known result, whatever layer it is known from. -/
def Fact (E : Env) (P : Program) (f : Nat) (q : List V × V) : Prop := ∃ E' n, EnvOk E' P ∧ OvOk E' P ∧ E'.g = E.g ∧ runE E' n f q.1 = some q.2
theorem memo_fact {f : Nat} {l : List (List V × V)} (hl : ∀ p ∈ l, Fact E P f p) {els : List V → S → CR} (he : SumOk E P f els) : SumOk E P f (memoH l els) := by
  intro A args xs s μ W R ha
  show CallOut E P A s μ W f xs (optC (bind (rsvL (rsvN s.heap noBlk deep false) args) (known l)) (els args s) fun v => frozenE s.heap args s (.ret v s false))
  cases hb : bind (rsvL (rsvN s.heap noBlk deep false) args) (known l) with
  | none => exact he A args xs s μ W R ha
  | some v =>
    rw [optC_some]
    obtain ⟨as, has, hk⟩ := bind_eq_some.1 hb
    obtain ⟨E', n, ok', ov', hg, hn⟩ := hl _ (known_some hk)
    have hc := callE_ok (f := f) ok' (rec_ok ok' ov' n) (R.env hg) ha
    unfold callE at hc
    rw [has, optC_some] at hc
    unfold runE outE at hn
    cases hd : doBody E' (recN E' n) f as false none s0 with
    | fail => rw [hd] at hn; cases hn
    | pan w s1 rd => rw [hd] at hn; cases hn
    | ret w s1 rd =>
      rw [hd] at hn hc
      have hn : rsvN s1.heap noBlk deep false w = some v := hn
      have : backR noBlk s (.ret w s1 rd) = .ret v s false := by
        show retV (rsvN s1.heap noBlk deep false w) s = _
        rw [hn]; rfl
      rw [this] at hc
      exact hc.env hg.symm
/-- What is not known is run, one layer below. -/
noncomputable def elsH (E : Env) (n f : Nat) : List V → S → CR := fun args s => doBody E (recN E n) f args false none s
theorem elsH_ok (ok : EnvOk E' P) (hov : OvOk E' P) (hg : E'.g = E.g) (n f : Nat) : SumOk E P f (elsH E' n f) := by
  have : SumOk E' P f (elsH E' n f) := by
    intro A args xs s μ W R ha
    exact callN_ok (body_ok ok (rec_ok ok hov n) R ha (show DkOk μ (St A s μ W) W false none .any from rfl))
  exact SumOk.env hg.symm this
noncomputable def mkT (l : List (Nat × (List V → S → CR))) : Tr (List V → S → CR) := List.rec (motive := fun _ => Tr (List V → S → CR)) .e (fun p _ ih => ih.put p.1 (some p.2)) l
theorem mkT_get {l : List (Nat × (List V → S → CR))} {b : Nat} {x : List V → S → CR} (h : (mkT l).get b = some x) : (b, x) ∈ l := by
  induction l with
  | nil => cases h
  | cons p l ih =>
    have h : (Tr.put (mkT l) p.1 (some p.2)).get b = some x := h
    rw [Tr.get_put] at h
    split at h
    · rename_i e
      injection h with h
      subst h
      rw [show (b, p.2) = p from by rw [e]]
      exact List.mem_cons_self ..
    · exact List.mem_cons_of_mem _ (ih h)
abbrev Tabs := List (Nat × List (List V × V))
noncomputable def layerT (E' : Env) (n : Nat) (tabs : Tabs) : Tr (List V → S → CR) := mkT (mapL (fun p => (p.1, memoH p.2 (elsH E' n p.1))) tabs)
noncomputable def layer (E E' : Env) (n : Nat) (tabs : Tabs) : Env := E.over (fun f => (layerT E' n tabs).get f)
def TabsOk (E : Env) (P : Program) (tabs : Tabs) : Prop := ∀ p ∈ tabs, ∀ q ∈ p.2, Fact E P p.1 q
theorem mem_mapL {α β : Type} (f : α → β) {y : β} : ∀ {l : List α}, y ∈ mapL f l → ∃ x ∈ l, f x = y := by
  intro l
  induction l with
  | nil => intro h; cases h
  | cons x l ih =>
    intro h
    have h : y ∈ f x :: mapL f l := h
    rcases List.mem_cons.1 h with h | h
    · exact ⟨x, List.mem_cons_self .., h.symm⟩
    · obtain ⟨z, h1, h2⟩ := ih h
      exact ⟨z, List.mem_cons_of_mem _ h1, h2⟩
theorem layer_env (ok : EnvOk E P) {n : Nat} {tabs : Tabs} : EnvOk (layer E E' n tabs) P := ok.over _
theorem layer_ov (hov : OvOk E P) (ok' : EnvOk E' P) (hov' : OvOk E' P) (hg : E'.g = E.g) {n : Nat} {tabs : Tabs} (h : TabsOk E P tabs) : OvOk (layer E E' n tabs) P := by
  refine hov.over fun f k hk => ?_
  obtain ⟨p, h1, h2⟩ := mem_mapL _ (mkT_get hk)
  injection h2 with h2 h3
  subst h2; subst h3
  exact memo_fact (h p h1) (elsH_ok ok' hov' hg n p.1)
theorem layer_g {n : Nat} {tabs : Tabs} : (layer E E' n tabs).g = E.g := rfl
theorem TabsOk.nil : TabsOk E P [] := fun p h => by cases h
theorem TabsOk.cons {f : Nat} {l : List (List V × V)} {tabs : Tabs} (h : ∀ q ∈ l, Fact E P f q) (t : TabsOk E P tabs) : TabsOk E P ((f, l) :: tabs) := by
  intro p hp
  rcases List.mem_cons.1 hp with rfl | hp
  · exact h
  · exact t p hp
theorem fact_tab (ok : EnvOk E' P) (hov : OvOk E' P) (hg : E'.g = E.g) {n f : Nat} {l : List (List V × V)} (h : tabOk E' n f l = true) : ∀ q ∈ l, Fact E P f q := by
  intro q hq
  obtain ⟨m, hm⟩ := tabOk_at h q hq
  exact ⟨E', m, ok, hov, hg, hm⟩
theorem fact_app {f : Nat} {l l' : List (List V × V)} (h : ∀ q ∈ l, Fact E P f q) (h' : ∀ q ∈ l', Fact E P f q) : ∀ q ∈ app l l', Fact E P f q := by
  intro q hq
  rw [app_eq] at hq
  rcases List.mem_append.1 hq with k | k
  · exact h q k
  · exact h' q k
end
end Go.AM
end
section
/- From an input as it reads to the machine's values; from a body's run to the call. -/
namespace Go.AM
open Go

/-- Types whose values are plain data. -/
def tyGood (P : Program) (ts : List Nat) (t : Nat) : Bool := match P.underlying t with
  | some .bool => true
  | some (.int _) => true
  | some .string => true
  | some (.slice e) => ts.contains e && decide (0 < P.cellsOf e)
  | some (.struct fs) => fs.toList.all (fun f => ts.contains f.type) && (List.range (P.cellsOf t)).all fun i => fs.toList.any fun f => decide (f.offset ≤ i) && decide (i < f.offset + P.cellsOf f.type)
  | _ => false
section
variable {H : Type} {enc : TypeId × Value → H} {P : Program} {W : World} {spare : Nat → Bool} {held : Bool} {μ : Mu} {Sx : Nat → Prop}
theorem add_add (a : Addr) (m n : Nat) : (a.add m).add n = a.add (m + n) := by
  unfold Addr.add
  by_cases h1 : m = 0
  · subst h1; simp
  · rw [if_neg h1]
    by_cases h2 : n = 0
    · subst h2; simp [h1]
    · rw [if_neg h2, if_neg (by omega)]; simp [Nat.add_assoc]
theorem add_plain' (b o j : Nat) : (⟨b, o, none⟩ : Addr).add j = ⟨b, o + j, none⟩ := by
  unfold Addr.add
  split
  · rename_i h; subst h; rfl
  · rfl
/-- One by one. -/
theorem vrs_of : ∀ {xs : List Value}, (∀ y ∈ xs, ∃ v, VR μ Sx W v y ∧ dataV v = true ∧ oneV v = true) → ∃ c, VRs μ Sx W c xs ∧ dataL c = true ∧ oneL c = true
  | [], _ => ⟨[], .nil, rfl, rfl⟩
  | x :: xs, h => by
    obtain ⟨v, h1, h2, h3⟩ := h x (List.mem_cons_self ..)
    obtain ⟨c, k1, k2, k3⟩ := vrs_of fun y hy => h y (List.mem_cons_of_mem _ hy)
    refine ⟨v :: c, .cons _ _ _ _ h1 k1, by show (dataV v && dataL c) = true; rw [h2, k2]; rfl, ?_⟩
    show boolC (oneV v) false (oneL c) = true
    rw [h3]; exact k3
/-- The cells of a row of n elements of z cells. -/
noncomputable def rowC (W : World) (a : Addr) (n : Nat) : List Value := (List.range n).map fun j => (W.cell? (a.add j)).getD .nilIface
theorem rowC_at {a : Addr} {n : Nat} (h : ∀ j, j < n → ∃ y, W.cell? (a.add j) = some y) {j : Nat} {y : Value} (hy : (rowC W a n)[j]? = some y) : W.cell? (a.add j) = some y := by
  unfold rowC at hy
  rw [List.getElem?_map] at hy
  cases hr : (List.range n)[j]? with
  | none => rw [hr] at hy; cases hy
  | some i =>
    have hi : j < n ∧ i = j := by
      have := List.getElem?_eq_some_iff.1 hr
      obtain ⟨h1, h2⟩ := this
      simp at h1 h2
      exact ⟨h1, h2.symm⟩
    obtain ⟨hj, rfl⟩ := hi
    rw [hr] at hy
    obtain ⟨z, hz⟩ := h i hj
    have hy : (W.cell? (a.add i)).getD .nilIface = y := by simpa using hy
    rw [hz] at hy
    rw [hz, ← hy]; rfl
theorem vr_slice {a : Addr} {len cap z : Nat} (hS : ∀ a v, W.cell? a = some v → Sx a.block) (hz : 0 < z) (hcap : len ≤ cap) (h : ∀ j, j < len * z → ∃ y, W.cell? (a.add j) = some y ∧ ∃ v, VR μ Sx W v y ∧ dataV v = true ∧ oneV v = true) :
    ∃ v, VR μ Sx W v (.slice (some a) len cap) ∧ dataV v = true ∧ oneV v = true := by
  cases len with
  | zero => exact ⟨.lsl [] 0 false, .lsl0 a cap false (fun h => by cases h), rfl, rfl⟩
  | succ n =>
    have hpos : 0 < (n + 1) * z := Nat.mul_pos (Nat.succ_pos _) hz
    obtain ⟨y0, hy0, _⟩ := h 0 hpos
    have hsp := World.cell?_spot hy0
    have ha0 : a.add 0 = a := rfl
    rw [ha0] at hsp hy0
    obtain ⟨b, o, sp⟩ := a
    simp only at hsp
    subst hsp
    have hcell : ∀ j, j < (n + 1) * z → ∃ y, W.cell? ((⟨b, o, none⟩ : Addr).add j) = some y := fun j hj => let ⟨y, hy, _⟩ := h j hj; ⟨y, hy⟩
    obtain ⟨c, k1, k2, k3⟩ := vrs_of (μ := μ) (Sx := Sx) (W := W) (xs := rowC W ⟨b, o, none⟩ ((n + 1) * z)) fun y hy => by
      obtain ⟨j, hj⟩ := List.getElem?_of_mem hy
      have hlt : j < (n + 1) * z := by
        have := (List.getElem?_eq_some_iff.1 hj).1
        simpa [rowC] using this
      have hc := rowC_at hcell hj
      obtain ⟨y', hy', v, hv⟩ := h j hlt
      rw [hc] at hy'
      cases hy'
      exact ⟨v, hv⟩
    refine ⟨.lsl c (n + 1) false, .lsl c (n + 1) cap b o false _ (Nat.succ_pos _) hcap (fun h => by cases h) k1 ?_ (hS _ _ hy0) k2, k2, rfl⟩
    intro j x hx
    have := rowC_at hcell hx
    rw [add_plain'] at this
    exact this
theorem trod_vals {ts : List Nat} (hts : ∀ t ∈ ts, tyGood P ts t = true) (hS : ∀ a v, W.cell? a = some v → Sx a.block) : ∀ (fuel t : Nat) (cs : List Value) (x : DataW H × List MemPlace), t ∈ ts → DataW.trod enc P W 0 spare held fuel t cs = some x →
    ∀ y ∈ cs, ∃ v, VR μ Sx W v y ∧ dataV v = true ∧ oneV v = true := by
  intro fuel
  induction fuel with
  | zero => intro t cs x _ h; simp [DataW.trod] at h
  | succ fuel ih =>
    intro t cs x ht h y hy
    have hg := hts t ht
    unfold tyGood at hg
    split at hg
    · rename_i hu
      obtain ⟨b, rfl, _⟩ := DataW.trod_bool hu h
      rw [List.mem_singleton] at hy; subst hy
      exact ⟨.bool b, .bool b, rfl, rfl⟩
    · rename_i k hu
      obtain ⟨n, rfl, _⟩ := DataW.trod_int hu h
      rw [List.mem_singleton] at hy; subst hy
      exact ⟨.int k n, .int k n, rfl, rfl⟩
    · rename_i hu
      obtain ⟨s, rfl, _⟩ := DataW.trod_string hu h
      rw [List.mem_singleton] at hy; subst hy
      exact ⟨.str (nats s), .str s, rfl, rfl⟩
    · rename_i e hu
      rw [Bool.and_eq_true] at hg
      have he : e ∈ ts := by simpa using hg.1
      have hz : 0 < P.cellsOf e := by simpa using hg.2
      rcases DataW.trod_slice hu h with ⟨rfl, _⟩ | ⟨a, len, cap, elems, rest, n, hn, rfl, _, _, hcap, _, hel, hget, _⟩
      · rw [List.mem_singleton] at hy; subst hy
        exact ⟨.nils, .nils, rfl, rfl⟩
      · rw [List.mem_singleton] at hy; subst hy
        have hn : fuel = n := by omega
        subst hn
        refine vr_slice hS hz hcap fun j hj => ?_
        have hi : j / P.cellsOf e < len := Nat.div_lt_of_lt_mul (by rw [Nat.mul_comm]; exact hj)
        have hr : j % P.cellsOf e < P.cellsOf e := Nat.mod_lt _ hz
        have hji : j / P.cellsOf e * P.cellsOf e + j % P.cellsOf e = j := Nat.div_add_mod' j _
        have hgi := hget _ hi
        rw [List.getElem?_eq_getElem (by rw [hel]; exact hi)] at hgi
        obtain ⟨cs', hc1, hc2⟩ := Option.bind_eq_some_iff.1 hgi
        obtain ⟨_, hlen, hcell⟩ := World.cells?_some hc1
        have h1 := hcell _ hr
        rw [add_add, hji] at h1
        rw [List.getElem?_eq_getElem (by rw [hlen]; exact hr)] at h1
        exact ⟨_, h1, ih e cs' _ he hc2 _ (List.getElem_mem _)⟩
    · rename_i fs hu
      rw [Bool.and_eq_true] at hg
      obtain ⟨xs, n, hn, _, hlen, _, hget⟩ := DataW.trod_struct hu h
      have hn : fuel = n := by omega
      subst hn
      obtain ⟨i, hi⟩ := List.getElem?_of_mem hy
      have hil : i < cs.length := (List.getElem?_eq_some_iff.1 hi).1
      have hc := List.all_eq_true.1 hg.2 i (by simp; rw [← hlen]; exact hil)
      obtain ⟨f, hf, hb⟩ := List.any_eq_true.1 hc
      rw [Bool.and_eq_true] at hb
      have hb1 : f.offset ≤ i := by simpa using hb.1
      have hb2 : i < f.offset + P.cellsOf f.type := by simpa using hb.2
      have hft : f.type ∈ ts := by
        have := List.all_eq_true.1 hg.1 f hf
        simpa using this
      obtain ⟨j, hj⟩ := List.getElem?_of_mem hf
      rw [Array.getElem?_toList] at hj
      have hgj := hget j f hj
      cases hx : xs[j]? with
      | none =>
        rw [List.getElem?_eq_none_iff] at hx
        have := (Array.getElem?_eq_some_iff.1 hj).1
        omega
      | some x' =>
        rw [hx] at hgj
        refine ih f.type _ _ hft hgj y ?_
        have : ((cs.drop f.offset).take (P.cellsOf f.type))[i - f.offset]? = some y := by
          rw [List.getElem?_take, if_pos (by omega), List.getElem?_drop, show f.offset + (i - f.offset) = i by omega]
          exact hi
        exact List.mem_of_getElem? this
    · cases hg
end
/-! ### laid variables -/
theorem laid_mem {P : Program} {W : World} : ∀ {laid : List (String × DataW Unit)} {ps : List MemPlace}, DataW.LaidVars P W laid ps → ∀ {n : String} {d : DataW Unit}, (n, d) ∈ laid →
    ∃ g t cs fuel p, P.globalNamed n = some g ∧ (P.globals[g]?).map (·.type) = some t ∧ W.var? P n = some cs ∧ DataW.trod (fun _ => ()) P W 0 (fun _ => true) false fuel t cs.toList = some (d, p)
  | [], _, _, _, _, h => by cases h
  | (n', d') :: r, ps, h, n, d, hm => by
    obtain ⟨g, t, cs, fuel, p, q, h1, h2, h3, h4, h5, _⟩ := h
    rcases List.mem_cons.1 hm with e | hm
    · injection e with e1 e2
      subst e1; subst e2
      exact ⟨g, t, cs, fuel, p, h1, h2, h3, h4⟩
    · exact laid_mem h5 hm
noncomputable def intsV (k : IntKind) (zs : List Int) : List V := zs.map fun z => .int k z
theorem ints_vrs {μ : Mu} {Sx : Nat → Prop} {W : World} (k : IntKind) : ∀ zs : List Int, VRs μ Sx W (intsV k zs) (zs.map fun z => Value.int k z)
  | [] => .nil
  | z :: zs => .cons _ _ _ _ (.int k z) (ints_vrs k zs)
theorem ints_data (k : IntKind) : ∀ zs : List Int, dataL (intsV k zs) = true
  | [] => rfl
  | z :: zs => ints_data k zs
/-- A table of integers, laid: what the machine wants of a variable. -/
theorem glob_tab {E : Env} {A : Al} {s : S} {μ : Mu} {P : Program} {W : World} {laid : List (String × DataW Unit)} (hL : laidMet P laid W) {n : String} {k : IntKind} {zs : List Int} (hm : (n, Lib.tabData k zs) ∈ laid) {g t e m : Nat} (hg : P.globalNamed n = some g) (hty : (P.globals[g]?).map (·.type) = some t)
    (ht : P.underlying t = some (.array m e)) (he : P.underlying e = some (.int k)) (hce : P.cellsOf e = 1) (hct : P.cellsOf t = m) {c : List V} (hc : c = intsV k zs) (hpos : 0 < zs.length) (hA : A g) (hO : ¬ Owned s μ 0 g) :
    ∃ xs, VRs μ (St A s μ W) W c xs ∧ CellsAt W g 0 xs ∧ St A s μ W g ∧ dataL c = true := by
  obtain ⟨ps, hps, _⟩ := hL
  obtain ⟨g', t', cs, fuel, p, h1, h2, h3, h4⟩ := laid_mem hps hm
  obtain rfl := Option.some.inj (hg.symm.trans h1)
  obtain rfl := Option.some.inj (hty.symm.trans h2)
  have hcs := Lib.cells_of_tab ht he hce hct h4
  have hvar := h3
  unfold World.var? at hvar
  rw [hg] at hvar
  have hcell : ∀ i, W.cell? ⟨g, i, none⟩ = cs[i]? := by
    intro i
    cases hh : W.heap[g]? with
    | none => simp [hh] at hvar
    | some o =>
      cases o <;> simp [hh] at hvar
      subst hvar
      unfold World.cell?
      simp [hh]
  subst hc
  refine ⟨cs.toList, by rw [hcs]; exact ints_vrs k zs, ?_, ⟨hA, ?_, hO⟩, ints_data k zs⟩
  · intro i x hx
    rw [Nat.zero_add, hcell i, ← Array.getElem?_toList]; exact hx
  · have h0 : W.cell? ⟨g, 0, none⟩ = some (.int k (zs[0]'hpos)) := by
      rw [hcell 0, ← Array.getElem?_toList, hcs]; simp [hpos]
    unfold World.cell? at h0
    cases hh : W.heap[g]? with
    | none => simp [hh] at h0
    | some o => exact (Array.getElem?_eq_some_iff.1 hh).1
/-! ### the call -/
theorem calls_of {E : Env} {P : Program} {W : World} {f n : Nat} {xs : Array Value} {args : List V} {v : V} {s1 : S} (ok : EnvOk E P) (hov : OvOk E P) (R : Rel E (fun _ => True) s0 (fun _ => none) W) (ha : VRs (fun _ => none) (St (fun _ => True) s0 (fun _ => none) W) W args xs.toList)
    (hd : doBody E (recN E n) f args false none s0 = .ret v s1 false) : Calls P f xs W fun e W' => ∃ μ1 x, e = .returned x ∧ VR μ1 (St (fun _ => True) s1 μ1 W') W' v x ∧ RowKit.Below W.heap.size W W' := by
  have hb := body_ok (f := f) (args := args) (xs := xs) ok (rec_ok ok hov n) R ha (show DkOk (fun _ => none) (St (fun _ => True) s0 (fun _ => none) W) W false none .any from rfl)
  rw [hd] at hb
  obtain ⟨hen, hrd, μ1, W1, x, X, R1, hv, hsteps⟩ := hb
  intro cs
  obtain ⟨fr, q0, q1, q2, q3, q4, q5⟩ := hsteps cs trivial
  refine ⟨.returned x, W1, fr, ⟨μ1, x, rfl, hv, ?_⟩, ?_, q1, ?_⟩
  · exact ⟨X.os, X.tape, X.output, X.size, fun k hk => X.keep k hk (by rintro ⟨b, x, σ, _, _, _, h⟩; cases h)⟩
  · exact q0
  · exact ⟨q3, q4, q2, by rw [q1]; exact q5⟩
end Go.AM
end
section
/- What a function leads to: the walk with a mask for what was seen. -/
namespace Go.AM
open Go
noncomputable def fastC (T : Nat → List Nat) (n : Nat) : List Nat → List Nat → Nat → Option (List Nat) := Nat.rec (motive := fun _ => List Nat → List Nat → Nat → Option (List Nat)) (fun _ _ _ => none)
  (fun _ ih todo seen mask => listC todo (some seen.reverse) fun f todo => boolC (Nat.testBit mask f) (ih (app (T f) todo) (f :: seen) (Nat.lor mask (2 ^ f))) (ih todo seen mask)) n
theorem fastC_ok {P : Program} {T : Nat → List Nat} (hT : ∀ f, (P.funcs[f]?).elim [] P.leadsTo = T f) : ∀ (n m : Nat) (todo seen : List Nat) (mask : Nat) (L : List Nat), (∀ f, Nat.testBit mask f = seen.contains f) → n ≤ m + 1 → fastC T n todo seen mask = some L → P.closureVia m todo seen = L := by
  intro n
  induction n with
  | zero => intro m todo seen mask L _ _ h; cases h
  | succ n ih =>
    intro m todo seen mask L hm hle h
    cases todo with
    | nil =>
      have h : some seen.reverse = some L := h
      injection h with h
      subst h
      cases m <;> rfl
    | cons f todo =>
      have h : boolC (Nat.testBit mask f) (fastC T n (app (T f) todo) (f :: seen) (Nat.lor mask (2 ^ f))) (fastC T n todo seen mask) = some L := h
      cases m with
      | zero =>
        have : n = 0 := by omega
        subst this
        rw [boolC_eq] at h
        split at h <;> cases h
      | succ m =>
        show (if seen.contains f then P.closureVia m todo seen else P.closureVia m ((P.funcs[f]?).elim [] P.leadsTo ++ todo) (f :: seen)) = L
        rw [boolC_eq, hm f] at h
        by_cases hc : seen.contains f = true
        · rw [if_pos hc] at h ⊢
          exact ih m todo seen mask L hm (by omega) h
        · rw [if_neg hc] at h ⊢
          rw [hT, ← app_eq]
          refine ih m _ _ _ L (fun g => ?_) (by omega) h
          show Nat.testBit (mask ||| 2 ^ f) g = (f :: seen).contains g
          rw [Nat.testBit_or, hm g, Nat.testBit_two_pow, List.contains_cons]
          by_cases e : g = f
          · subst e; simp
          · have e' : ¬ f = g := fun h => e h.symm
            simp [e, e']
end Go.AM
end
section
/- Closed facts of a program, by looks that go through its lists once: what the row, its tie and its card ask. -/
namespace Go.AM
open Go
noncomputable def allN (f : Nat → Bool) (n : Nat) : Nat → Bool := Nat.rec (motive := fun _ => Nat → Bool) (fun _ => true) (fun _ ih i => boolC (f i) false (ih (i + 1))) n
theorem allN_at {f : Nat → Bool} {n : Nat} : ∀ {i : Nat}, allN f n i = true → ∀ t, i ≤ t → t < i + n → f t = true := by
  induction n with
  | zero => intro i _ t h1 h2; omega
  | succ n ih =>
    intro i h t h1 h2
    have h : boolC (f i) false (allN f n (i + 1)) = true := h
    rw [boolC_eq] at h
    split at h
    · rename_i h0
      by_cases he : t = i
      · subst he; exact h0
      · exact ih h t (by omega) (by omega)
    · cases h
noncomputable def eqNL (a : List Nat) : List Nat → Bool := List.rec (motive := fun _ => List Nat → Bool) (fun b => listC b true fun _ _ => false) (fun x _ ih b => listC b false fun y b => boolC (Nat.beq x y) false (ih b)) a
theorem eqNL_ok : ∀ {a b : List Nat}, eqNL a b = true → a = b := by
  intro a
  induction a with
  | nil => intro b h; cases b with
    | nil => rfl
    | cons => cases h
  | cons x a ih => intro b h; cases b with
    | nil => cases h
    | cons y b =>
      have h : boolC (Nat.beq x y) false (eqNL a b) = true := h
      rw [boolC_eq] at h
      split at h
      · rename_i e
        rw [Nat.eq_of_beq_eq_true e, ih h]
      · cases h
noncomputable def sumN (T : Nat → List Nat) (n : Nat) : Nat → Nat := Nat.rec (motive := fun _ => Nat → Nat) (fun _ => 0) (fun _ ih i => Nat.add (Nat.succ (List.length (T i))) (ih (Nat.succ i))) n
theorem sum_is {h : Func → List Nat} {T : Nat → List Nat} : ∀ (l : List Func) (i : Nat), (∀ k, (l[k]?).elim [] h = T (i + k)) → (l.map fun g => (h g).length + 1).sum = sumN T l.length i := by
  intro l
  induction l with
  | nil => intro i _; rfl
  | cons g l ih =>
    intro i hk
    have h0 : h g = T i := hk 0
    have h1 := ih (i + 1) fun k => by
      have := hk (k + 1)
      rw [show i + (k + 1) = i + 1 + k by omega] at this
      exact this
    show (((h g).length + 1) :: l.map fun g => (h g).length + 1).sum = Nat.add (Nat.succ (List.length (T i))) (sumN T l.length (i + 1))
    rw [List.sum_cons, h1, h0]; rfl
theorem closure_gen {P : Program} {T : Nat → List Nat} {size n : Nat} {f : Nat} {L : List Nat} (hT : ∀ f, (P.funcs[f]?).elim [] P.leadsTo = T f) (hs : P.funcs.size = size) (hn : Nat.ble n (sumN T size 0) = true) (hL : fastC T n [f] [] 0 = some L) : P.closure f = L := by
  unfold Program.closure
  have e := sum_is (h := P.leadsTo) (T := T) P.funcs.toList 0 (fun k => by rw [Array.getElem?_toList, hT, Nat.zero_add])
  have hlen : P.funcs.toList.length = size := by rw [Array.length_toList, hs]
  rw [hlen] at e
  rw [e]
  have hn := Nat.le_of_ble_eq_true hn
  exact fastC_ok hT n _ [f] [] 0 L (fun g => by simp) (by omega) hL
theorem un_gen {P : Program} {f : Nat} {L : List Nat} (h : P.closure f = L) {g : Nat} (hm : L.contains g = true) (hg : ((P.funcs[g]?).any fun fn => match fn.body with | some c => c.unfollowed | none => entryCalls fn) = true) : P.unfollowed f = true := by
  unfold Program.unfollowed
  rw [h]
  exact List.any_eq_true.2 ⟨g, List.contains_iff_mem.1 hm, hg⟩
theorem place_gen {P : Program} {f : Nat} {L : List Nat} (h : P.closure f = L) {R : List String} (hR : L.filterMap (fun g => (P.funcs[g]?).bind fun fn => if fn.ours || fn.body.isNone || fn.name == "runtime.NumGoroutine" then some fn.name else none) = R) : P.inPlace f = R := by
  unfold Program.inPlace
  rw [h, hR]
theorem vars_gen {P : Program} {f : Nat} {L G : List Nat} {R : List String} (h : P.closure f = L) (hG : L.flatMap (fun g => ((P.funcs[g]?).bind (·.body)).elim [] Code.globalsNamed) = G) (hR : L.filterMap (fun g => (P.funcs[g]?).bind fun fn => if fn.body.isNone then entryReads.lookup fn.name else none) = R) : P.varsNamed f = (G.eraseDups.filterMap (fun g => (P.globals[g]?).map (·.name)) ++ R).eraseDups := by
  unfold Program.varsNamed
  rw [h, hG, hR]
theorem rec_gen {P : Program} {f : Nat} (h : P.unfollowed f = true) : P.recurses f = true := by
  unfold Program.recurses
  rw [h]; rfl
noncomputable def gDoor (fn : Func) : Bool := fn.body.isNone && opensWith (nameBytes "var's door: ") (nameBytes fn.name) && ["(look 8)", "(look 8, test files too)", "(list 7)", "(look 7)"].any (endsIn · (nameBytes fn.name).reverse)
noncomputable def gLay (fn : Func) : Bool := fn.body.isNone && (fn.name == "runtime.SetFinalizer" || fn.name == "runtime.AddCleanup" || fn.origin == "runtime.AddCleanup")
noncomputable def gRef (fn : Func) : Bool := fn.body.isNone && (opensWith (nameBytes "reflect.") (nameBytes fn.name) || opensWith (nameBytes "(reflect.") (nameBytes fn.name) || opensWith (nameBytes "(*reflect.") (nameBytes fn.name))
noncomputable def gNone (fn : Func) : Bool := boolC fn.goes (boolC (gLay fn) (boolC (gRef fn) (boolC (gDoor fn) true false) false) false) false
theorem gNone_at {fn : Func} (h : gNone fn = true) : fn.goes = false ∧ gLay fn = false ∧ gRef fn = false ∧ gDoor fn = false := by
  unfold gNone at h
  simp only [boolC_eq] at h
  split at h
  · cases h
  rename_i h1
  split at h
  · cases h
  rename_i h2
  split at h
  · cases h
  rename_i h3
  split at h
  · cases h
  rename_i h4
  exact ⟨Bool.eq_false_iff.2 h1, Bool.eq_false_iff.2 h2, Bool.eq_false_iff.2 h3, Bool.eq_false_iff.2 h4⟩
theorem mem_no {P : Program} (h : P.funcs.all gNone = true) {fn : Func} (hm : fn ∈ P.funcs.toList) : fn.goes = false ∧ gLay fn = false ∧ gRef fn = false ∧ gDoor fn = false :=
  gNone_at (Array.all_eq_true_iff_forall_mem.1 h fn (Array.mem_toList_iff.1 hm))
theorem any_no {P : Program} (h : P.funcs.all gNone = true) {q : Func → Bool} (hq : ∀ fn, (fn.goes = false ∧ gLay fn = false ∧ gRef fn = false ∧ gDoor fn = false) → q fn = false) : P.funcs.toList.any q = false := by
  cases e : P.funcs.toList.any q with
  | false => rfl
  | true =>
    obtain ⟨fn, hm, hf⟩ := List.any_eq_true.1 e
    rw [hq fn (mem_no h hm)] at hf
    cases hf
theorem lays_gen {P : Program} (h : P.funcs.all gNone = true) : P.laysLater = false := by
  unfold Program.laysLater
  rw [← Array.any_toList]
  exact any_no h fun fn k => k.2.1
theorem refl_gen {P : Program} (h : P.funcs.all gNone = true) : P.bearsReflect = false := by
  unfold Program.bearsReflect
  exact any_no h fun fn k => k.2.2.1
theorem door_gen {P : Program} (h : P.funcs.all gNone = true) : P.doorFits [] = true := by
  have e : (P.doorRows.any fun n => ["(look 8)", "(look 8, test files too)", "(list 7)", "(look 7)"].any (endsIn · n)) = false := by
    unfold Program.doorRows
    rw [List.any_map, List.any_filter]
    exact any_no h fun fn k => k.2.2.2
  unfold Program.doorFits
  simp only [e]
  simp
theorem may_gen {P : Program} {c : List Char} {rest : List (List Char)} (h : behindMainWord (wordsSigns P.initOrder.toList) = c :: rest) (hs : stripLifts liftWords (c :: rest) = ([], c :: rest)) (hc : (c == "cut".toList) = true) (ha : P.funcs.all gNone = true) : P.mayEnter = true := by
  unfold Program.mayEnter
  rw [h]
  simp only [hs, lays_gen ha, refl_gen ha, door_gen ha]
  simp at hc
  simp [hc]
theorem goes_gen {P : Program} (h : P.funcs.all gNone = true) (f : Nat) : P.goes f = false := by
  unfold Program.goes
  rw [show P.funcs.any Func.goes = false by rw [← Array.any_toList]; exact any_no h fun fn k => k.1, Bool.and_false, Bool.or_false]
  cases e : (P.closure f).any fun g => (P.funcs[g]?).any Func.goes with
  | false => rfl
  | true =>
    obtain ⟨g, _, hg⟩ := List.any_eq_true.1 e
    cases hf : P.funcs[g]? with
    | none => rw [hf] at hg; cases hg
    | some fn =>
      rw [hf] at hg
      have hm : fn ∈ P.funcs.toList := Array.mem_toList_iff.2 (Array.mem_of_getElem? hf)
      have hg : fn.goes = true := hg
      rw [(mem_no h hm).1] at hg
      cases hg
theorem looks_gen {P : Program} {g : Nat} (hg : g < P.funcs.size) (h : ((P.funcs[g]?).any fun fn => match fn.body with | some c => c.looks P | none => false) = true) : P.looks [] = true := by
  unfold Program.looks
  exact List.any_eq_true.2 ⟨g, List.mem_range.2 hg, h⟩
theorem goes_by_gen {P : Program} {func : String} (h : P.funcs.all gNone = true) : P.goesAt .entering func = false := by
  unfold Program.goesAt Program.goesFrom
  rw [Bool.or_false]
  cases P.funcNamed func with
  | none => rfl
  | some f => exact goes_gen h f
theorem filter_one {p : Nat → Bool} {k : Nat} : ∀ (n : Nat), (∀ i, i < n → p i = decide (i = k)) → (List.range n).filter p = if k < n then [k] else [] := by
  intro n
  induction n with
  | zero => intro _; rfl
  | succ n ih =>
    intro h
    rw [List.range_succ, List.filter_append, ih fun i hi => h i (by omega)]
    have hn := h n (by omega)
    by_cases he : n = k
    · subst he
      rw [decide_eq_true rfl] at hn
      rw [if_neg (by omega), if_pos (by omega)]
      simp [hn]
    · rw [decide_eq_false he] at hn
      by_cases hk : k < n
      · rw [if_pos hk, if_pos (by omega)]; simp [hn]
      · rw [if_neg hk, if_neg (by omega)]; simp [hn]
theorem named_gen {P : Program} {name : String} {size k : Nat} (hs : P.funcs.size = size) (hf : (List.range size).filter (fun i => (P.funcs[i]?).any (·.name == name)) = [k]) : P.funcNamed name = some k := by
  unfold Program.funcNamed
  rw [hs, hf]
noncomputable def noBody (fn : Func) : Option String := if fn.body.isNone then some fn.name else none
theorem worded_gen {P : Program} {N : List String} (h : P.funcs.toList.filterMap noBody = N) (w : String) : P.worded w = N.any (· == w) := by
  subst h
  unfold Program.worded
  rw [← Array.any_toList]
  induction P.funcs.toList with
  | nil => rfl
  | cons fn l ih =>
    rw [List.any_cons, List.filterMap_cons, ih]
    cases hb : fn.body with
    | none => simp [noBody, hb]
    | some c => simp [noBody, hb]
theorem door_bytes_gen {P : Program} {N : List String} (h : P.funcs.toList.filterMap noBody = N) : P.doorBytes = (N.map fun n => n.toUTF8.data.toList).filterMap (bytesBehind "var's door: ".toUTF8.data.toList) := by
  subst h
  unfold Program.doorBytes
  congr 1
  rw [List.map_filterMap]
  congr 1
  funext fn
  cases hb : fn.body with
  | none => simp [noBody, hb]
  | some c => simp [noBody, hb]
noncomputable def onlyAt (p : Func → Bool) (k : Nat) (l : List Func) : Nat → Bool := List.rec (motive := fun _ => Nat → Bool) (fun _ => true) (fun fn _ ih i => boolC (boolC (Nat.beq i k) (!p fn) (p fn)) false (ih (Nat.succ i))) l
theorem onlyAt_ok {p : Func → Bool} {k : Nat} : ∀ (l : List Func) (i : Nat), onlyAt p k l i = true → ∀ j, j < l.length → (l[j]?).any p = decide (i + j = k) := by
  intro l
  induction l with
  | nil => intro i _ j hj; exact absurd hj (Nat.not_lt_zero _)
  | cons fn l ih =>
    intro i h j hj
    have h : boolC (boolC (Nat.beq i k) (!p fn) (p fn)) false (onlyAt p k l (Nat.succ i)) = true := h
    cases hb : boolC (Nat.beq i k) (!p fn) (p fn) with
    | false => rw [hb] at h; cases h
    | true =>
      rw [hb] at h
      have h : onlyAt p k l (Nat.succ i) = true := h
      rw [boolC_eq] at hb
      cases j with
      | zero =>
        show p fn = decide (i + 0 = k)
        split at hb
        · rename_i e
          rw [hb, Nat.add_zero, decide_eq_true (Nat.eq_of_beq_eq_true e)]
        · rename_i e
          have hne : ¬ i + 0 = k := fun e' => e (by rw [← e', Nat.add_zero]; exact Nat.beq_refl i)
          rw [decide_eq_false hne]
          simpa using hb
      | succ j =>
        have := ih (Nat.succ i) h j (by simpa using hj)
        rw [show i + (j + 1) = Nat.succ i + j by omega]
        exact this
theorem named_at {P : Program} {name : String} {size k : Nat} (hs : P.funcs.size = size) (hk : k < size) (h : onlyAt (fun fn => fn.name == name) k P.funcs.toList 0 = true) : P.funcNamed name = some k := by
  refine named_gen hs ?_
  rw [filter_one (k := k) size fun i hi => ?_, if_pos hk]
  have := onlyAt_ok P.funcs.toList 0 h i (by rw [Array.length_toList, hs]; exact hi)
  rw [Array.getElem?_toList, Nat.zero_add] at this
  exact this
theorem varsId_gen {P : Program} {k : Nat} (h : P.funcNamed "gosem.cut.vars" = some k) : varsId P = k := by
  unfold varsId
  rw [h]; rfl
theorem tails_gen {P : Program} {D : List (List UInt8)} (h : P.doorBytes = D) (v tail : String) : P.wordedOn v tail = (D.filterMap (bytesBehind v.toUTF8.data.toList)).any fun r => bytesBehind tail.toUTF8.data.toList r == some [] := by
  unfold Program.wordedOn Program.tailsOn
  rw [h]
theorem later_gen {P : Program} {v : String} {k : LaidKind} (h : P.kindBase v = some k) (hk : (match k with | .data | .sentinel | .listed => true | _ => false) = true) : P.kindOfLater v = some k := by
  unfold Program.kindOfLater
  rw [h]
  cases k <;> first | rfl | cases hk
theorem pinned_gen {P : Program} {v : String} {g : Nat} (h1 : P.wordedOn v (kindTail .pinned) = true) (h2 : P.kindBase v = none) (h3 : P.funcNamed "gosem.cut.vars" = some g) (h4 : ((P.globalNamed v).any fun n => ((some g).bind fun g => ((P.funcs[g]?).bind (·.body)).bind (·.laysInOrder [])).any fun stored => !stored.contains n) = true) : P.pinnedFits v = true := by
  unfold Program.pinnedFits
  rw [h1, h2, h3, h4]; rfl
theorem rows_app {P : Program} {w : World} {fuel : Nat} {ms : List String} (hm : ((DataW.laidRun P w fuel ms).any fun x => laidRowsB P w x.2) = true) : ∀ (ns : List String), ((DataW.laidRun P w fuel ns).any fun x => laidRowsB P w x.2) = true → ((DataW.laidRun P w fuel (ns ++ ms)).any fun x => laidRowsB P w x.2) = true := by
  intro ns
  induction ns with
  | nil => intro _; exact hm
  | cons n ns ih =>
    intro h
    simp only [DataW.laidRun, List.cons_append] at h ⊢
    cases hg : P.globalNamed n with
    | none => simp [hg] at h
    | some g =>
      simp only [hg] at h ⊢
      cases ht : (P.globals[g]?).map (·.type) with
      | none => simp [ht] at h
      | some t =>
        cases hc : w.var? P n with
        | none => simp [ht, hc] at h
        | some cs =>
          simp only [ht, hc] at h ⊢
          cases ha : DataW.trod (fun _ => ()) P w 0 (fun _ => true) false fuel t cs.toList with
          | none => simp [ha] at h
          | some a =>
            cases hy : DataW.laidRun P w fuel ns with
            | none => simp [ha, hy] at h
            | some y =>
              simp only [ha, hy, Option.any_some] at h
              unfold laidRowsB at h
              rw [List.all_append, Bool.and_eq_true] at h
              have hi := ih (by rw [hy]; exact h.2)
              cases hz : DataW.laidRun P w fuel (ns ++ ms) with
              | none => rw [hz] at hi; cases hi
              | some z =>
                rw [hz] at hi
                simp only [ha, Option.any_some]
                unfold laidRowsB
                rw [List.all_append, h.1]
                exact hi
theorem laid_of_parts {P : Program} {laid : List (String × DataW Unit)} {w : World} (fuel M : Nat) (h : (DataW.laidRun P w fuel (laid.map (·.1))).map (·.1) = some laid)
    (hn : ((DataW.laidRun P w fuel (laid.map (·.1))).any fun x => nodupBits M x.2 0) = true)
    (hr : ((DataW.laidRun P w fuel (laid.map (·.1))).any fun x => laidRowsB P w x.2) = true) : laidMet P laid w := by
  cases hx : DataW.laidRun P w fuel (laid.map (·.1)) with
  | none => simp [hx] at h
  | some x =>
    obtain ⟨l', ps⟩ := x
    simp only [hx, Option.map_some, Option.some.injEq] at h
    simp only [hx, Option.any_some] at hn hr
    subst h
    exact laidMet_of_run fuel hx (decide_eq_true (nodupBits_sound hn).1) hr
theorem alone_gen {P : Program} {g : FuncId} {code : Code} (h1 : code.unfollowedBeside P = false) (h2 : (code.tempsApart 0).isSome = true) (h3 : code.regionsFit P [] = true) (h4 : code.storedByHandle P = []) : P.callsLaidAlone g code = true := by
  unfold Program.callsLaidAlone
  rw [h1, h2, h3, h4]; rfl
theorem fits_gen {P : Program} {l : List (String × DataW Unit)} (h : P.headLifts.contains "ownunsafe" = false) (hf : P.funcsFit l = true) : P.listedFits l = true := by
  unfold Program.listedFits
  rw [h, hf]; rfl
theorem joined_gen {P : Program} {f : FuncId} {fn : Func} {s : ChangeSpec} {c : OpenClaim}
    (k0 : (c.wf (OpenSpec.ofChange s)) = true)
    (k1 : (laidOutB P) = true)
    (k2 : (mapsRowed P) = true)
    (k3 : (fn.params.all (P.readableRec ·)) = true)
    (k4 : (namedTie P c.named s.vars) = true)
    (k5 : ((c.stops == [])) = true)
    (k6 : ((P.stops == [])) = true)
    (k7 : ((c.knobs == [])) = true)
    (k8 : ((P.stopKnobs == [])) = true)
    (k9 : ((c.inPlace == P.inPlace f)) = true)
    (k10 : ((c.unfollowed == P.unfollowed f)) = true)
    (k11 : ((c.recurses == P.recurses f)) = true)
    (k12 : ((c.named == P.varsNamed f)) = true)
    (k13 : ((c.maps == (fn.params.toList ++ s.plain.varTypes P).any (P.mapsRec ·))) = true)
    (k14 : ((c.ifaces == (fn.params.toList ++ s.plain.varTypes P).any (P.ifacesRec ·))) = true)
    (k15 : ((c.mapsOut == P.mapsAmong fn.resultTypes.toList)) = true)
    (k16 : ((c.loops == (fn.params.toList ++ s.plain.varTypes P).any (P.loopsFrom ·))) = true)
    (k17 : ((c.wideKeys == (fn.params.toList ++ s.plain.varTypes P ++ fn.resultTypes.toList).any (P.wideKeysFrom ·))) = true)
    (k18 : (s.vars.all (P.varReadable ·)) = true)
    (k19 : (fn.resultTypes.all (fun t => P.readableRec t && decide (t < P.types.size))) = true)
    (k20 : ((c.ifacesOut == fn.resultTypes.toList.any (P.ifacesRec ·))) = true)
    (k21 : ((c.loopsOut == fn.resultTypes.toList.any (P.loopsFrom ·))) = true)
    (k22 : ((c.plainKeys == P.plainKeys)) = true)
    (k23 : (c.shortTexts.isNone) = true)
    (k24 : (P.stopsHeard) = true)
    (k25 : (P.mayEnter) = true)
    (k26 : ((c.lifted == P.liftsFinal)) = true)
    (k27 : ((P.make == some c.make)) = true)
    (k28 : ((c.kinds == (if c.domain.isEmpty then [] else fn.params.toList.map fun t => match P.underlying t with | some (.int k) => some k | _ => none))) = true)
    (k29 : ((c.pinned == c.pinnedBy)) = true)
    (k30 : ((c.veiled == (fn.params.toList ++ s.plain.varTypes P ++ fn.resultTypes.toList).any (P.veiledRec ·))) = true)
    (k31 : (c.veiledFits P fn.params.toList (fn.params.toList ++ s.plain.varTypes P ++ fn.resultTypes.toList)) = true) : joinedFacts P f fn s c = true := by
  unfold joinedFacts
  simp only [Bool.and_eq_true]
  exact ⟨⟨⟨⟨⟨⟨⟨⟨⟨⟨⟨⟨⟨⟨⟨⟨⟨⟨⟨⟨⟨⟨⟨⟨⟨⟨⟨⟨⟨⟨⟨k0, k1⟩, k2⟩, k3⟩, k4⟩, k5⟩, k6⟩, k7⟩, k8⟩, k9⟩, k10⟩, k11⟩, k12⟩, k13⟩, k14⟩, k15⟩, k16⟩, k17⟩, k18⟩, k19⟩, k20⟩, k21⟩, k22⟩, k23⟩, k24⟩, k25⟩, k26⟩, k27⟩, k28⟩, k29⟩, k30⟩, k31⟩
noncomputable def walkN (q : Func → Nat → Bool) (l : List Func) : Nat → Bool := List.rec (motive := fun _ => Nat → Bool) (fun _ => true) (fun fn _ ih i => boolC (q fn i) false (ih (Nat.succ i))) l
theorem walkN_at {q : Func → Nat → Bool} : ∀ {l : List Func} {i : Nat}, walkN q l i = true → ∀ (j : Nat) (fn : Func), l[j]? = some fn → q fn (i + j) = true := by
  intro l
  induction l with
  | nil => intro i _ j fn hj; simp at hj
  | cons f l ih =>
    intro i h j fn hj
    have h : boolC (q f i) false (walkN q l (Nat.succ i)) = true := h
    rw [boolC_eq] at h
    split at h
    · rename_i h0
      cases j with
      | zero =>
        have hj : some f = some fn := hj
        injection hj with hj
        subst hj
        exact h0
      | succ j =>
        have := ih h j fn (by simpa using hj)
        rw [show i + (j + 1) = Nat.succ i + j by omega]
        exact this
    · cases h
noncomputable def tab {α : Type} (t : Tr α) (size : Nat) (d : α) (f : Nat) : α := boolC (Nat.blt f size) d (optC (t.get f) d fun x => x)
theorem tab_out {α : Type} {t : Tr α} {size : Nat} {d : α} {f : Nat} (h : size ≤ f) : tab t size d f = d := by
  unfold tab
  rw [boolC_eq, if_neg (by rw [Nat.blt_eq]; omega)]
theorem leads_gen {P : Program} {t : Tr (List Nat)} {size : Nat} (hs : P.funcs.size = size) (h : walkN (fun fn i => eqNL (P.leadsTo fn) (tab t size [] i)) P.funcs.toList 0 = true) (f : Nat) : (P.funcs[f]?).elim [] P.leadsTo = tab t size [] f := by
  cases hf : P.funcs[f]? with
  | none =>
    rw [tab_out (by rw [← hs]; exact Array.getElem?_eq_none_iff.1 hf)]; rfl
  | some fn =>
    have := walkN_at h f fn (by rw [Array.getElem?_toList, hf])
    rw [Nat.zero_add] at this
    exact eqNL_ok this
noncomputable def plOf (fn : Func) : Option String := if fn.ours || fn.body.isNone || fn.name == "runtime.NumGoroutine" then some fn.name else none
noncomputable def glOf (fn : Func) : List Nat := fn.body.elim [] Code.globalsNamed
noncomputable def rdOf (fn : Func) : Option String := if fn.body.isNone then entryReads.lookup fn.name else none
noncomputable def pgrOk (p : Tr (Option String)) (g : Tr (List Nat)) (r : Tr (Option String)) (size : Nat) (fn : Func) (i : Nat) : Bool :=
  boolC (decide (plOf fn = tab p size none i)) false (boolC (eqNL (glOf fn) (tab g size [] i)) false (decide (rdOf fn = tab r size none i)))
theorem pgr_at {P : Program} {p : Tr (Option String)} {g : Tr (List Nat)} {r : Tr (Option String)} {size : Nat} (h : walkN (pgrOk p g r size) P.funcs.toList 0 = true) {f : Nat} {fn : Func} (hf : P.funcs[f]? = some fn) :
    plOf fn = tab p size none f ∧ glOf fn = tab g size [] f ∧ rdOf fn = tab r size none f := by
  have := walkN_at h f fn (by rw [Array.getElem?_toList, hf])
  rw [Nat.zero_add] at this
  unfold pgrOk at this
  rw [boolC_eq, boolC_eq] at this
  split at this
  · rename_i h0
    split at this
    · rename_i h1
      exact ⟨of_decide_eq_true h0, eqNL_ok h1, of_decide_eq_true this⟩
    · cases this
  · cases this
theorem place_at {P : Program} {p : Tr (Option String)} {g : Tr (List Nat)} {r : Tr (Option String)} {size : Nat} (hs : P.funcs.size = size) (h : walkN (pgrOk p g r size) P.funcs.toList 0 = true) {f : Nat} {L : List Nat} (hc : P.closure f = L) {R : List String} (hR : L.filterMap (tab p size none) = R) : P.inPlace f = R := by
  refine place_gen hc ?_
  rw [← hR]
  congr 1
  funext k
  cases hf : P.funcs[k]? with
  | none => rw [tab_out (by rw [← hs]; exact Array.getElem?_eq_none_iff.1 hf)]; rfl
  | some fn => exact (pgr_at h hf).1
theorem vars_at {P : Program} {p : Tr (Option String)} {g : Tr (List Nat)} {r : Tr (Option String)} {size : Nat} (hs : P.funcs.size = size) (h : walkN (pgrOk p g r size) P.funcs.toList 0 = true) {f : Nat} {L G : List Nat} (hc : P.closure f = L) {R : List String} (hG : L.flatMap (tab g size []) = G) (hR : L.filterMap (tab r size none) = R) : P.varsNamed f = (G.eraseDups.filterMap (fun g => (P.globals[g]?).map (·.name)) ++ R).eraseDups := by
  refine vars_gen hc ?_ ?_
  · rw [← hG]
    congr 1
    funext k
    cases hf : P.funcs[k]? with
    | none => rw [tab_out (by rw [← hs]; exact Array.getElem?_eq_none_iff.1 hf)]; rfl
    | some fn => exact (pgr_at h hf).2.1
  · rw [← hR]
    congr 1
    funext k
    cases hf : P.funcs[k]? with
    | none => rw [tab_out (by rw [← hs]; exact Array.getElem?_eq_none_iff.1 hf)]; rfl
    | some fn => exact (pgr_at h hf).2.2
theorem allN_cat {f : Nat → Bool} {m : Nat} : ∀ {n i : Nat}, allN f n i = true → allN f m (i + n) = true → allN f (n + m) i = true := by
  intro n
  induction n with
  | zero => intro i _ h; rw [Nat.zero_add]; exact h
  | succ n ih =>
    intro i h h2
    have h : boolC (f i) false (allN f n (i + 1)) = true := h
    rw [show n + 1 + m = (n + m) + 1 by omega]
    show boolC (f i) false (allN f (n + m) (i + 1)) = true
    rw [boolC_eq] at h ⊢
    split at h
    · rename_i h0
      rw [if_pos h0]
      exact ih h (by rw [show i + 1 + n = i + (n + 1) by omega]; exact h2)
    · cases h
theorem allN_app {f : Nat → Bool} {n m size : Nat} (h1 : allN f n 0 = true) (h2 : allN f m n = true) (hs : size = n + m) : (List.range size).all f = true := by
  rw [List.all_eq_true]
  intro t ht
  rw [List.mem_range] at ht
  by_cases h : t < n
  · exact allN_at h1 t (Nat.zero_le t) (by omega)
  · exact allN_at h2 t (by omega) (by omega)
noncomputable def fMap (P : Program) (t : Nat) : Bool := match P.underlying t with | some (.map _ e) => decide (e < P.types.size) | _ => true
noncomputable def fKey (P : Program) (t : Nat) : Bool := match P.underlying t with
    | some (.map k _) => (match P.underlying k with | some (.array _ _) | some (.struct _) => false | _ => true)
    | _ => true
noncomputable def fType (P : Program) (t : Nat) : Bool := boolC (fMap P t) false (boolC (fKey P t) false (rowFine P t))
theorem fType_at {P : Program} {t : Nat} (h : fType P t = true) : fMap P t = true ∧ fKey P t = true ∧ rowFine P t = true := by
  unfold fType at h
  rw [boolC_eq, boolC_eq] at h
  split at h
  · rename_i h0
    split at h
    · rename_i h1; exact ⟨h0, h1, h⟩
    · cases h
  · cases h
theorem types_all {P : Program} (h : (List.range P.types.size).all (fType P) = true) {g : Nat → Bool} (hg : ∀ t, fType P t = true → g t = true) : (List.range P.types.size).all g = true := by
  rw [List.all_eq_true] at h ⊢
  exact fun t ht => hg t (h t ht)
theorem maps_rowed {P : Program} (h : (List.range P.types.size).all (fType P) = true) : mapsRowed P = true := types_all h fun t ht => (fType_at ht).1
theorem plain_keys {P : Program} (h : (List.range P.types.size).all (fType P) = true) : P.plainKeys = true := types_all h fun t ht => (fType_at ht).2.1
noncomputable def gStop (fn : Func) : Bool := (Stop.rowOf fn).isNone || !fn.norace
theorem stops_heard {P : Program} (h : P.funcs.toList.all gStop = true) : P.stopsHeard = true := by
  rw [Array.all_toList] at h
  exact h
theorem laid_out {P : Program} {size : Nat} (hs : P.types.size = size) (h : (List.range P.types.size).all (fType P) = true) (hg : (P.globals.toList.all fun g => decide (g.type < size)) = true) (hp : (P.funcs.toList.all fun f => f.params.toList.all fun t => decide (t < size)) = true) : laidOutB P = true := by
  subst hs
  unfold laidOutB
  rw [types_all h fun t ht => (fType_at ht).2.2]
  rw [Array.all_toList] at hg hp
  simp only [Array.all_toList] at hp
  rw [hg, hp]; rfl
theorem funcs_all' {P : Program} (h : P.funcs.toList.all gNone = true) : P.funcs.all gNone = true := by
  rw [Array.all_toList] at h
  exact h
end Go.AM
end
