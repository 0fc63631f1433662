import Derived.Orders
import Derived.RangeFuncRecord
import Derived.Laws.IdiomRangeMap
import Derived.Test.YtkkbeakephmkdaaGreatDoorAm1
set_option linter.all false
section
namespace Go.AM
open Go
structure Pd where
  e : PE
  x : Value
  ob : Option B
  val : Nat → V
  β : Nat
  obj : Obj
inductive PdOk (E : Env) (all : List Oper) (A0 : Al) (W0 : World) (A : Al) (s : S) (μ : Mu) (W : World) (T : List V) (p : Pd) : Prop where
  | skip (hw : wantedIn all T p.e.o.guard = false) (ho : p.ob = none) (hx : p.x = Go.undef)
  | none (hw : wantedIn all T p.e.o.guard = true) (ho : p.ob = none) (ha : aShape p.e.o.op E T = some (none, p.val)) (hx : ∀ μ2 Sx2 W2, VR μ2 Sx2 W2 (p.val 0) p.x)
  | some (B : AM.B) (hw : wantedIn all T p.e.o.guard = true) (ho : p.ob = some B) (ha : aShape p.e.o.op E T = some (some B, p.val)) (h1 : p.β < W.heap.size) (h2 : W.heap[p.β]? = some p.obj) (h3 : ¬ A p.β) (h4 : A0 p.β) (h5 : W0.heap.size ≤ p.β)
      (h6 : ∀ b μ2 Sx2 W2, μ2 b = some (p.β, 0) → W2.heap[p.β]? = some p.obj → VR μ2 Sx2 W2 (p.val b) p.x)
      (h7 : ∀ μ2 Sx2 W2, VExt μ μ2 (St A s μ W) Sx2 W W2 → W2.heap[p.β]? = some p.obj → BR μ2 Sx2 W2 p.β 0 B)
def hid (pend : List Pd) (a : Act) : Act := pend.foldl (fun a p => a.put p.e.o.dst p.x) a
section
variable {E : Env} {all : List Oper} {A0 A A1 : Al} {W0 W W1 : World} {s s1 : S} {μ μ1 : Mu} {T T1 : List V} {p : Pd}
theorem VExt.trans {μ2 : Mu} {Sx Sx1 Sx2 : Nat → Prop} {W2 : World} (X : VExt μ μ1 Sx Sx1 W W1) (Y : VExt μ1 μ2 Sx1 Sx2 W1 W2) : VExt μ μ2 Sx Sx2 W W2 :=
  ⟨fun b p h => Y.mu b p (X.mu b p h), fun β h => let ⟨h1, h2⟩ := X.st β h; let ⟨h3, h4⟩ := Y.st β h1; ⟨h3, h4.trans h2⟩, fun b β σ h => (Y.row b β σ (X.mu b _ h)).trans (X.row b β σ h)⟩
theorem PdOk.step (h : PdOk E all A0 W0 A s μ W T p) (V : VExt μ μ1 (St A s μ W) (St A1 s1 μ1 W1) W W1) (hs : W.heap.size ≤ W1.heap.size)
    (hk : p.ob.isSome = true → p.β < W.heap.size → ¬ A p.β → W1.heap[p.β]? = W.heap[p.β]? ∧ ¬ A1 p.β) (hw : wantedIn all T1 p.e.o.guard = wantedIn all T p.e.o.guard) (ha : aShape p.e.o.op E T1 = aShape p.e.o.op E T) : PdOk E all A0 W0 A1 s1 μ1 W1 T1 p := by
  cases h with
  | skip h1 h2 h3 => exact .skip (hw.trans h1) h2 h3
  | none h1 h2 h3 h4 => exact .none (hw.trans h1) h2 (ha.trans h3) h4
  | some B q1 q2 q3 h1 h2 h3 h4 h5 h6 h7 =>
    obtain ⟨k1, k2⟩ := hk (by rw [q2]; rfl) h1 h3
    exact .some B (hw.trans q1) q2 (ha.trans q3) (Nat.lt_of_lt_of_le h1 hs) (k1.trans h2) k2 h4 h5 h6 fun μ2 Sx2 W2 X => h7 μ2 Sx2 W2 (V.trans X)
end
theorem hid_append (P1 P2 : List Pd) (a : Act) : hid (P1 ++ P2) a = hid P2 (hid P1 a) := List.foldl_append
theorem hid_put {pend : List Pd} {d : Option Nat} (x : Value) (h : ∀ p ∈ pend, ∀ t, d = some t → p.e.o.dst ≠ some t) (a : Act) : hid pend (a.put d x) = (hid pend a).put d x := by
  induction pend generalizing a with
  | nil => rfl
  | cons p pend ih =>
    show hid pend ((a.put d x).put p.e.o.dst p.x) = (hid pend (a.put p.e.o.dst p.x)).put d x
    rw [Act.put_comm a x p.x (h p (by simp))]
    exact ih (fun q hq => h q (by simp [hq])) _
theorem hid_defers {pend : List Pd} (a : Act) : (hid pend a).defers = a.defers := by
  induction pend generalizing a with
  | nil => rfl
  | cons p pend ih =>
    refine (ih (a.put p.e.o.dst p.x)).trans ?_
    cases p.e.o.dst <;> rfl
theorem hid_defer {pend : List Pd} (a : Act) (d : List Deferred) : hid pend { a with defers := d } = { hid pend a with defers := d } := by
  induction pend generalizing a with
  | nil => rfl
  | cons p pend ih =>
    show hid pend (({ a with defers := d } : Act).put p.e.o.dst p.x) = { hid pend (a.put p.e.o.dst p.x) with defers := d }
    rw [← ih]
    congr 1
    cases p.e.o.dst <;> rfl
theorem hid_tmp {pend : List Pd} {t : Nat} (h : ∀ p ∈ pend, p.e.o.dst ≠ some t) (a : Act) : (hid pend a).tmps[t]? = a.tmps[t]? := by
  induction pend generalizing a with
  | nil => rfl
  | cons p pend ih =>
    refine (ih (fun q hq => h q (by simp [hq])) (a.put p.e.o.dst p.x)).trans ?_
    have := h p (by simp)
    cases hd : p.e.o.dst with
    | none => rfl
    | some d =>
      show (a.tmps.setIfInBounds d p.x)[t]? = a.tmps[t]?
      rw [Array.getElem?_setIfInBounds_ne]
      rintro rfl; exact this hd
theorem hid_eval {pend : List Pd} {z : Operand} (h : ∀ p ∈ pend, ∀ t, p.e.o.dst = some t → z ≠ .tmp t) (a : Act) : (hid pend a).eval z = a.eval z := by
  induction pend generalizing a with
  | nil => rfl
  | cons p pend ih => exact (ih (fun q hq => h q (by simp [hq])) _).trans (Act.eval_put (h p (by simp)))
theorem semAt_congr {ρ ρ' : Operand → Value} {o : Oper} (ro : Option Nat) (hs : ∀ cs b, o.op ≠ .select cs b) (h : ∀ x ∈ o.op.operands, ρ x = ρ' x) : o.semAt ro ρ = o.semAt ro ρ' := by
  unfold Oper.semAt
  cases ro with
  | none => exact execOp_congr o hs h
  | some l =>
    cases ho : o.op <;> dsimp only <;> first | exact execOp_congr o hs h | skip
    case defer c => rw [resolve_congr c o.type fun x hx => h x (by rw [ho]; exact hx)]
theorem hid_wanted {ops : Array Oper} {pend : List Pd} {o : Oper} (h : ∀ p ∈ pend, ∀ t, p.e.o.dst = some t → t ∉ looksOf ops.toList o) (a : Act) : Region.wanted o (yielded ops (hid pend a).tmps) = Region.wanted o (yielded ops a.tmps) := by
  unfold Region.wanted
  cases hg : o.guard with
  | none => rfl
  | some q =>
    obtain ⟨j, want⟩ := q
    have : yielded ops (hid pend a).tmps j = yielded ops a.tmps j := by
      unfold yielded
      cases hj : (ops[j]?).bind (·.dst) with
      | none => rfl
      | some t =>
        show (match (hid pend a).tmps[t]? with | some (.bool b) => some b | _ => none) = (match a.tmps[t]? with | some (.bool b) => some b | _ => none)
        rw [hid_tmp]
        intro p hp e
        refine h p hp t e (List.mem_append_right _ ?_)
        unfold guardTemps
        rw [hg]
        cases hq : ops[j]? with
        | none => rw [hq] at hj; cases hj
        | some q =>
          rw [hq] at hj
          have hj : q.dst = some t := hj
          simp [hq, hj]
    dsimp only
    rw [this]
theorem hid_gok {ops : Array Oper} {pend : List Pd} {o : Oper} {KK : Nat → Prop} {b : Frame} {a : Act} (hs : ∀ cs b, o.op ≠ .select cs b) (h : ∀ p ∈ pend, ∀ t, p.e.o.dst = some t → t ∉ looksOf ops.toList o) (hw : Region.wanted o (yielded ops a.tmps) = true)
    (hk : ∀ p ∈ pend, ∀ t, p.e.o.dst = some t → ¬ KK t) : GOk KK (hid pend) b ops o a where
  sem := semAt_congr _ hs fun x hx => hid_eval (fun p hp t ht e => by subst e; exact h p hp t ht (List.mem_append_left _ (mem_opTemps hx))) a
  wanted := by rw [hid_wanted h]; exact hw
  defs := hid_defers a
  defer d := hid_defer a d
  keep t ht := hid_tmp (fun p hp e => hk p hp t e ht) a
structure StP (x y : PE) : Prop where
  x0 : x.cls = 0
  y0 : y.cls = 0
  sx : isSt x.o.op = true
  sy : isSt y.o.op = true
  gx : x.o.guard = none
  gy : y.o.guard = none
structure Loose (all : List Oper) (K : List Nat) (x y : PE) : Prop where
  nc : NoClash all x.o y.o
  c2 : x.cls = 0 → y.cls = 1 ∨ StP x y
  c34 : x.cls = 1 → y.cls ≠ 0 ∧ y.cls ≠ 3
  k1 : x.cls = 0 → ∀ t ∈ K, y.o.dst ≠ some t
  k2 : y.cls = 0 → ∀ t ∈ K, x.o.dst ≠ some t
theorem notIn_ne {K : List Nat} {o : Oper} (h : notIn K o = true) : ∀ t ∈ K, o.dst ≠ some t := by
  intro t ht e
  unfold notIn at h
  rw [e] at h
  simp [ht] at h
theorem pairOk_loose {all : List Oper} {K : List Nat} {x y : PE} (h : pairOk all K x y = true) (hb : bit y.mask x.i = false) : Loose all K x y := by
  unfold pairOk at h
  rw [hb, Bool.false_or, Bool.and_eq_true, Bool.or_eq_true] at h
  obtain ⟨_, h⟩ := h
  rcases h with h | h
  case inr =>
    unfold stPair at h
    simp only [Bool.and_eq_true, Bool.not_eq_true', beq_iff_eq, Option.isNone_iff_eq_none] at h
    obtain ⟨⟨⟨⟨⟨⟨⟨⟨h1, h2⟩, h3⟩, h4⟩, h5⟩, h6⟩, h7⟩, h8⟩, h9⟩ := h
    exact ⟨noClash h1, fun _ => .inr ⟨h2, h3, h4, h5, h6, h7⟩, fun h => (by omega), fun _ t _ => (by rw [h9]; simp), fun _ t _ => (by rw [h8]; simp)⟩
  unfold looseOk at h
  simp only [Bool.and_eq_true, Bool.not_eq_true', Bool.or_eq_true, Bool.and_eq_false_iff, Bool.or_eq_false_iff] at h
  obtain ⟨⟨⟨⟨h1, h2⟩, h3⟩, h4⟩, h5⟩ := h
  refine ⟨noClash h1, fun h => ?_, fun h => ?_, fun h => ?_, fun h => ?_⟩
  · rcases h2 with h2 | h2
    · rw [h] at h2; simp at h2
    · exact .inl (by simpa using h2)
  · rcases h3 with h3 | ⟨h3, h3'⟩
    · rw [h] at h3; simp at h3
    · exact ⟨by simpa using h3, by simpa using h3'⟩
  · rcases h4 with h4 | h4
    · rw [h] at h4; simp at h4
    · exact notIn_ne h4
  · rcases h5 with h5 | h5
    · rw [h] at h5; simp at h5
    · exact notIn_ne h5
theorem pairOk_ne {all : List Oper} {K : List Nat} {x y : PE} (h : pairOk all K x y = true) : x.i ≠ y.i ∧ bit x.mask y.i = false := by
  unfold pairOk at h
  simp only [Bool.and_eq_true, Bool.not_eq_true'] at h
  exact ⟨by simpa using h.1.1, h.1.2⟩
theorem pairwise_uniq {α : Type} {f : α → Nat} {l : List α} (h : l.Pairwise fun x y => f x ≠ f y) : ∀ {x y : α}, x ∈ l → y ∈ l → f x = f y → x = y := by
  induction h with
  | nil => intro x y hx; cases hx
  | cons hh _ ih =>
    intro x y hx hy e
    rcases List.mem_cons.1 hx with ex | hx <;> rcases List.mem_cons.1 hy with ey | hy
    · rw [ex, ey]
    · exact absurd (ex ▸ e) (hh y hy)
    · exact absurd (ey ▸ e).symm (hh x hx)
    · exact ih hx hy e
structure Plan (K : List Nat) (ops : Array Oper) (All L0 : List PE) : Prop where
  pw : L0.Pairwise fun x y => pairOk ops.toList K x y = true
  dep : ∀ L1 y L2, L0 = L1 ++ y :: L2 → depOk L1 y = true
  ent : ∀ e ∈ L0, EntOk ops.toList All e
  all : ∀ e ∈ All, EntOk ops.toList All e
  cover : ∀ j, j < ops.size → ∃ e ∈ L0, e.i = j
  edges : ∀ e ∈ L0, ∀ d ∈ e.o.after.toList, bindsA d = true → d.on < ops.size
  len : L0.length = ops.size
  own : ∀ e ∈ L0, bit e.mask e.i = false
  last : ∀ L1 x L2 y L3, L0 = L1 ++ x :: (L2 ++ y :: L3) → x.cls = 0 → y.cls = 0 → bit y.mask x.i = false → L2 = [] ∧ L3 = [] ∧ ∀ z ∈ L1, z.cls = 2 ∨ (bit x.mask z.i = true ∧ bit y.mask z.i = true)
theorem lastOk_ok : ∀ {L bf : List PE}, lastOk bf L = true → ∀ L1 x L2 y L3, L = L1 ++ x :: (L2 ++ y :: L3) → x.cls = 0 → y.cls = 0 → bit y.mask x.i = false → L2 = [] ∧ L3 = [] ∧ ∀ z ∈ bf ++ L1, z.cls = 2 ∨ (bit x.mask z.i = true ∧ bit y.mask z.i = true)
  | [], bf, _, L1, x, L2, y, L3, e, _, _, _ => by simp at e
  | w :: L, bf, h, L1, x, L2, y, L3, e, hx, hy, hb => by
    have hl : stLoose x y = true := by unfold stLoose; rw [hx, hy, hb]; rfl
    unfold lastOk at h
    rw [Bool.and_eq_true] at h
    obtain ⟨h1, h2⟩ := h
    cases L1 with
    | cons u L1 =>
      simp at e
      obtain ⟨rfl, e⟩ := e
      obtain ⟨q1, q2, q3⟩ := lastOk_ok h2 L1 x L2 y L3 e hx hy hb
      exact ⟨q1, q2, fun z hz => q3 z (by simpa using hz)⟩
    | nil =>
      simp at e
      obtain ⟨rfl, rfl⟩ := e
      cases L2 with
      | nil =>
        cases L3 with
        | nil =>
          have h1 : (!stLoose w y || bf.all fun z => z.cls == 2 || (bit w.mask z.i && bit y.mask z.i)) = true := h1
          refine ⟨rfl, rfl, fun z hz => ?_⟩
          rw [hl] at h1
          have h1 : (bf.all fun z => z.cls == 2 || (bit w.mask z.i && bit y.mask z.i)) = true := h1
          have := List.all_eq_true.1 h1 z (by simpa using hz)
          simpa using this
        | cons v L3 =>
          have h1 : ((y :: v :: L3).all fun y => !stLoose w y) = true := h1
          have := List.all_eq_true.1 h1 y (by simp)
          rw [hl] at this; cases this
      | cons v L2 =>
        have h1 : ((v :: (L2 ++ y :: L3)).all fun y => !stLoose w y) = true := by
          cases L2 <;> exact h1
        have := List.all_eq_true.1 h1 y (by simp)
        rw [hl] at this; cases this
theorem planOf_plan {K : List Nat} {ops : Array Oper} (h : drawOk K ops.toList = true) : Plan K ops (pesF ops.toList 0 []) (planOf ops.toList) := by
  unfold drawOk at h
  simp only [Bool.and_eq_true] at h
  obtain ⟨⟨⟨⟨⟨⟨⟨h1, h0⟩, h2⟩, h3⟩, h4⟩, h5⟩, _⟩, _⟩ := h
  obtain ⟨_, q2, q3⟩ := planOk_pw h1
  have hall : ∀ e ∈ pesF ops.toList 0 [], EntOk ops.toList (pesF ops.toList 0 []) e := by
    have := pesF_ok (ops := ops.toList) (os := ops.toList) (i := 0) (bs := []) (pre := []) rfl (fun k e h => by simp at h) rfl (fun j => by simp)
    simpa using this
  have hent : ∀ e ∈ planOf ops.toList, EntOk ops.toList (pesF ops.toList 0 []) e := fun e he => hall e (planF_sub e he)
  refine ⟨q2, fun L1 y L2 e => by simpa using q3 L1 y L2 e, hent, hall, fun j hj => ?_, fun e he d hd hb => ?_, ?_, fun e he => ?_, fun L1 x L2 y L3 e hx hy hb => by simpa using lastOk_ok h0 L1 x L2 y L3 e hx hy hb⟩
  · have := List.all_eq_true.1 h3 j (by simpa using hj)
    obtain ⟨e, he, hij⟩ := List.any_eq_true.1 this
    exact ⟨e, he, by simpa using hij⟩
  · have := List.all_eq_true.1 h4 e.o (List.mem_of_getElem? (hent e he).at_)
    have := List.all_eq_true.1 this d hd
    rw [hb] at this
    simpa using this
  · have := of_decide_eq_true h2; simpa using this
  · have := List.all_eq_true.1 h5 e he; simpa using this
def Topo (md : Region.Mode) (ops : Array Oper) : Prop := ∃ Q : List Nat, (∀ j, j < ops.size → j ∈ Q) ∧ (∀ j ∈ Q, j < ops.size) ∧ ∀ Q1 i Q2, Q = Q1 ++ i :: Q2 → ∀ o, ops[i]? = some o → ∀ e ∈ o.after.toList, Region.binds md e = true → e.on ∈ Q1
theorem topoChk_ok {t : Bool} {ops : List Oper} : ∀ {Q bf : List Nat}, topoChk t ops bf Q = true → ∀ Q1 i Q2, Q = Q1 ++ i :: Q2 → edgesInO t (bf ++ Q1) ops[i]? = true
  | [], bf, _, Q1, i, Q2, e => by simp at e
  | j :: Q, bf, h, Q1, i, Q2, e => by
    unfold topoChk at h
    rw [Bool.and_eq_true] at h
    cases Q1 with
    | nil => simp at e; obtain ⟨rfl, rfl⟩ := e; simpa using h.1
    | cons k Q1 =>
      simp at e
      obtain ⟨rfl, rfl⟩ := e
      have := topoChk_ok h.2 Q1 i Q2 rfl
      simpa using this
theorem topo_of {t : Bool} {ops : Array Oper} (h : topoOk t ops.toList = true) {md : Region.Mode} (hm : ∀ e, Region.binds md e = true → bindsM t e = true) : Topo md ops := by
  unfold topoOk at h
  simp only [Bool.and_eq_true] at h
  obtain ⟨⟨h1, h2⟩, h3⟩ := h
  refine ⟨topoQ t ops.toList, fun j hj => ?_, fun j hj => ?_, fun Q1 i Q2 e o ho d hd hb => ?_⟩
  · have := List.all_eq_true.1 h2 j (by simpa using hj); simpa using this
  · have := List.all_eq_true.1 h3 j hj; simpa using this
  · have := topoChk_ok h1 Q1 i Q2 e
    rw [List.nil_append, show ops.toList[i]? = some o by simpa using ho] at this
    have := List.all_eq_true.1 this d hd
    rw [hm d hb] at this
    simpa using this
theorem drawOk_topo {K : List Nat} {ops : Array Oper} (h : drawOk K ops.toList = true) (md : Region.Mode) : Topo md ops := by
  unfold drawOk at h
  simp only [Bool.and_eq_true] at h
  obtain ⟨⟨_, h1⟩, h2⟩ := h
  cases md with
  | text => exact topo_of h1 fun e he => by unfold Region.binds at he; unfold bindsM; cases hg : e.ground <;> rw [hg] at he <;> first | rfl | (simp at he)
  | gc => exact topo_of h2 fun e he => by unfold Region.binds at he; unfold bindsM; cases hg : e.ground <;> rw [hg] at he <;> first | rfl | (simp at he)
  | any => exact topo_of h1 fun e he => by unfold Region.binds at he; unfold bindsM; cases hg : e.ground <;> rw [hg] at he <;> first | rfl | (simp at he)
end Go.AM
end
section
namespace Go.AM
open Go
section
variable {E : Env} {P : Program} {rc : Rec} {Fit : (Nat → Prop) → Code → Prop} {K : List Nat} {ops : Array Oper} {b : Frame} {ck : CK} {A0 : Al} {s0 : S} {μ0 : Mu} {W0 : World} {r : R} {All L0 : List PE}
structure Inv (E : Env) (P : Program) (rc : Rec) (K : List Nat) (ops : Array Oper) (b : Frame) (ck : CK) (A0 : Al) (s0 : S) (μ0 : Mu) (W0 : World) (r : R) (All L0 : List PE)
    (listed : Array Bool) (fuel : Nat) (Lr : List PE) (pend : List Pd) (A : Al) (T : List V) (m : M) (s : S) (μ : Mu) (W : World) (a : Act) (H : List HE) (act : Act) : Prop where
  reach : Reach E A0 s0 μ0 W0 A s μ W
  fr : FR A s μ W T m b ck a
  sub : Lr.Sublist L0
  pmem : ∀ p ∈ pend, p.e ∈ Lr ∧ p.e.cls = 1
  pok : ∀ p ∈ pend, PdOk E ops.toList A0 W0 A s μ W T p
  pdist : pend.Pairwise fun p q => p.e.i ≠ q.e.i ∧ (p.ob.isSome = true → q.ob.isSome = true → p.β ≠ q.β)
  pind : ∀ p ∈ pend, ∀ q ∈ pend, bit q.e.mask p.e.i = false
  act : act = hid pend a
  hL : ∀ j, j < ops.size → (listed.getD j true = false ↔ ∃ e ∈ Lr, e.i = j ∧ ∀ p ∈ pend, p.e.i ≠ j)
  lsize : listed.size = ops.size
  dc : ∀ e ∈ All, listed.getD e.i true = true → ∀ j, bit e.mask j = true → listed.getD j true = true
  run : runD E rc ops.toList Lr H T m s = r
  len : (Lr.countP fun x => !listed.getD x.i true) = fuel
  fixd : ∀ N1 z N2, L0 = N1 ++ z :: N2 → z.cls = 0 → listed.getD z.i true = true → ∀ x ∈ N1, x ∈ Lr → x.cls ≠ 1
section facts
variable {listed : Array Bool} {fuel : Nat} {Lr : List PE} {pend : List Pd} {A : Al} {T : List V} {m : M} {s : S} {μ : Mu} {W : World} {a : Act} {H : List HE} {act : Act} {x y : PE} {L1 L2 : List PE}
theorem Inv.pw (I : Inv E P rc K ops b ck A0 s0 μ0 W0 r All L0 listed fuel Lr pend A T m s μ W a H act) (pl : Plan K ops All L0) : Lr.Pairwise fun x y => pairOk ops.toList K x y = true := pl.pw.sublist I.sub
theorem Inv.uniq (I : Inv E P rc K ops b ck A0 s0 μ0 W0 r All L0 listed fuel Lr pend A T m s μ W a H act) (pl : Plan K ops All L0) (hx : x ∈ Lr) (hy : y ∈ Lr) (h : x.i = y.i) : x = y :=
  pairwise_uniq ((I.pw pl).imp fun h => (pairOk_ne h).1) hx hy h
theorem Inv.ent (I : Inv E P rc K ops b ck A0 s0 μ0 W0 r All L0 listed fuel Lr pend A T m s μ W a H act) (pl : Plan K ops All L0) (hx : x ∈ Lr) : EntOk ops.toList All x := pl.ent x (I.sub.subset hx)
theorem EntOk.lt {e : PE} (h : EntOk ops.toList All e) : e.i < ops.size := by
  have := h.at_
  have := (List.getElem?_eq_some_iff.1 this).1
  simpa using this
theorem Inv.notlisted (I : Inv E P rc K ops b ck A0 s0 μ0 W0 r All L0 listed fuel Lr pend A T m s μ W a H act) (pl : Plan K ops All L0) (hx : x ∈ Lr) (hp : ∀ p ∈ pend, p.e ≠ x) : listed.getD x.i true = false :=
  (I.hL x.i (I.ent pl hx).lt).2 ⟨x, hx, rfl, fun p hp' e => hp p hp' (I.uniq pl (I.pmem p hp').1 hx e)⟩
theorem Inv.plisted (I : Inv E P rc K ops b ck A0 s0 μ0 W0 r All L0 listed fuel Lr pend A T m s μ W a H act) (pl : Plan K ops All L0) {p : Pd} (hp : p ∈ pend) : listed.getD p.e.i true = true := by
  cases h : listed.getD p.e.i true with
  | true => rfl
  | false =>
    obtain ⟨e, _, _, h2⟩ := (I.hL p.e.i (I.ent pl (I.pmem p hp).1).lt).1 h
    exact absurd rfl (h2 p hp)
theorem Inv.unbit (I : Inv E P rc K ops b ck A0 s0 μ0 W0 r All L0 listed fuel Lr pend A T m s μ W a H act) (pl : Plan K ops All L0) (hx : x ∈ Lr) (hp : ∀ p ∈ pend, p.e ≠ x) {mask : Nat} (hm : ∀ j, bit mask j = true → listed.getD j true = true) : bit mask x.i = false := by
  cases h : bit mask x.i with
  | false => rfl
  | true => have := hm _ h; rw [I.notlisted pl hx hp] at this; cases this
theorem Inv.pmask (I : Inv E P rc K ops b ck A0 s0 μ0 W0 r All L0 listed fuel Lr pend A T m s μ W a H act) (pl : Plan K ops All L0) (hA : ∀ e ∈ L0, e ∈ All) {p : Pd} (hp : p ∈ pend) : ∀ j, bit p.e.mask j = true → listed.getD j true = true :=
  I.dc p.e (hA _ (I.sub.subset (I.pmem p hp).1)) (I.plisted pl hp)
theorem Inv.pair (I : Inv E P rc K ops b ck A0 s0 μ0 W0 r All L0 listed fuel Lr pend A T m s μ W a H act) (pl : Plan K ops All L0) (hL : Lr = L1 ++ y :: L2) :
    (∀ x ∈ L1, pairOk ops.toList K x y = true) ∧ ∀ x ∈ L2, pairOk ops.toList K y x = true := by
  have := I.pw pl
  rw [hL, List.pairwise_append] at this
  exact ⟨fun x hx => this.2.2 x hx y (by simp), (List.pairwise_cons.1 this.2.1).1⟩
theorem Inv.nc (I : Inv E P rc K ops b ck A0 s0 μ0 W0 r All L0 listed fuel Lr pend A T m s μ W a H act) (pl : Plan K ops All L0) (hx : x ∈ Lr) (hy : y ∈ Lr) (hne : x ≠ y) (h1 : bit x.mask y.i = false) (h2 : bit y.mask x.i = false) : NoClash ops.toList x.o y.o := by
  have go : ∀ {l : List PE}, l.Pairwise (fun x y => pairOk ops.toList K x y = true) → x ∈ l → y ∈ l → NoClash ops.toList x.o y.o := by
    intro l hl
    induction hl with
    | nil => intro hx; cases hx
    | cons hh _ ih =>
      intro hx hy
      rcases List.mem_cons.1 hx with ex | hx <;> rcases List.mem_cons.1 hy with ey | hy
      · exact absurd (ex.trans ey.symm) hne
      · exact (pairOk_loose (ex ▸ hh y hy) h2).nc
      · exact (pairOk_loose (ey ▸ hh x hx) h1).nc.symm
      · exact ih hx hy
  exact go (I.pw pl) hx hy
theorem Inv.pnc (I : Inv E P rc K ops b ck A0 s0 μ0 W0 r All L0 listed fuel Lr pend A T m s μ W a H act) (pl : Plan K ops All L0) {p q : Pd} (hp : p ∈ pend) (hq : q ∈ pend) (hne : p.e.i ≠ q.e.i) : NoClash ops.toList p.e.o q.e.o :=
  I.nc pl (I.pmem p hp).1 (I.pmem q hq).1 (fun e => hne (by rw [e])) (I.pind q hq p hp) (I.pind p hp q hq)
theorem Inv.resolve1 (I : Inv E P rc K ops b ck A0 s0 μ0 W0 r All L0 listed fuel Lr pend A T m s μ W a H act) (pl : Plan K ops All L0) (hAll : ∀ e ∈ L0, e ∈ All) (hr : r ≠ .fail) (hL : Lr = L1 ++ y :: L2) (hpure : ∀ x ∈ L1, 2 ≤ x.cls)
    {p : Pd} (hp : p ∈ pend) (hpy : p.e = y) :
    ∃ A' T' s' μ' a' pend', Inv E P rc K ops b ck A0 s0 μ0 W0 r All L0 listed fuel (L1 ++ L2) pend' A' T' m s' μ' W a' H act ∧ ∀ q ∈ pend', q ∈ pend ∧ q.e.i ≠ y.i := by
  subst hpy
  obtain ⟨P1, P2, hP⟩ := List.append_of_mem hp
  have hpd := I.pdist
  rw [hP, List.pairwise_append, List.pairwise_cons] at hpd
  obtain ⟨d1, ⟨d2, d3⟩, d4⟩ := hpd
  have hmem : ∀ q ∈ P1 ++ P2, q ∈ pend ∧ q.e.i ≠ p.e.i ∧ (q.ob.isSome = true → p.ob.isSome = true → q.β ≠ p.β) := by
    intro q hq
    rcases List.mem_append.1 hq with hq | hq
    · have := d4 q hq p (by simp)
      exact ⟨by rw [hP]; simp [hq], this.1, this.2⟩
    · have := d2 q hq
      exact ⟨by rw [hP]; simp [hq], fun e => this.1 e.symm, fun h1 h2 e => this.2 h2 h1 e.symm⟩
  obtain ⟨hpr1, hpr2⟩ := I.pair pl hL
  have hc1 : p.e.cls = 1 := (I.pmem p hp).2
  have hyLr : p.e ∈ Lr := (I.pmem p hp).1
  have hx1 : ∀ x ∈ L1, 2 ≤ x.cls ∧ Ent x ∧ NoClash ops.toList x.o p.e.o := by
    intro x hx
    have hxL : x ∈ Lr := by rw [hL]; simp [hx]
    have hxp : ∀ q ∈ pend, q.e ≠ x := fun q hq e => by have := (I.pmem q hq).2; rw [e] at this; have := hpure x hx; omega
    exact ⟨hpure x hx, (I.ent pl hxL).cls, (pairOk_loose (hpr1 x hx) (I.unbit pl hxL hxp (I.pmask pl hAll hp))).nc⟩
  have hrun := I.run
  rw [hL] at hrun
  have hnf := new_front hc1 I.reach.R.free hx1 hrun hr
  have hnc : ∀ q ∈ P1 ++ P2, NoClash ops.toList p.e.o q.e.o := fun q hq => I.pnc pl hp (hmem q hq).1 fun e => (hmem q hq).2.1 e.symm
  have hact : ∀ x, x = p.x → act = hid (P1 ++ P2) (a.put p.e.o.dst x) := by
    rintro x rfl
    rw [I.act, hP, hid_append, hid_append]
    show hid P2 ((hid P1 a).put p.e.o.dst p.x) = hid P2 (hid P1 (a.put p.e.o.dst p.x))
    rw [hid_put (pend := P1) p.x (fun q hq t ht => (hnc q (by simp [hq])).dd t ht) a]
  have hsub : (L1 ++ L2).Sublist L0 := by
    refine List.Sublist.trans ?_ I.sub
    rw [hL]
    exact List.Sublist.append (List.Sublist.refl _) (List.sublist_cons_self _ _)
  have hne : ∀ e ∈ L1 ++ L2, e.i ≠ p.e.i := by
    intro e he
    rcases List.mem_append.1 he with he | he
    · exact (pairOk_ne (hpr1 e he)).1
    · exact fun h => (pairOk_ne (hpr2 e he)).1 h.symm
  have hLr : ∀ e, e ∈ Lr ↔ e ∈ L1 ++ L2 ∨ e = p.e := by
    intro e; rw [hL]; simp [or_assoc, or_comm, or_left_comm]
  have hLn : ∀ j, j < ops.size → (listed.getD j true = false ↔ ∃ e ∈ L1 ++ L2, e.i = j ∧ ∀ q ∈ P1 ++ P2, q.e.i ≠ j) := by
    intro j hj
    rw [I.hL j hj]
    constructor
    · rintro ⟨e, he, hej, hq⟩
      rcases (hLr e).1 he with he | rfl
      · exact ⟨e, he, hej, fun q hq' => hq q (hmem q hq').1⟩
      · exact absurd hej (hq p hp)
    · rintro ⟨e, he, hej, hq⟩
      refine ⟨e, (hLr e).2 (.inl he), hej, fun q hq' => ?_⟩
      rw [hP] at hq'
      rcases List.mem_append.1 hq' with h | h
      · exact hq q (by simp [h])
      · rcases List.mem_cons.1 h with rfl | h
        · exact fun e' => hne e he (hej.trans e'.symm)
        · exact hq q (by simp [h])
  have hpd' : (P1 ++ P2).Pairwise fun p q => p.e.i ≠ q.e.i ∧ (p.ob.isSome = true → q.ob.isSome = true → p.β ≠ q.β) := by
    rw [List.pairwise_append]
    exact ⟨d1, d3, fun q hq q' hq' => d4 q hq q' (by simp [hq'])⟩
  have hpm : ∀ q ∈ P1 ++ P2, q.e ∈ L1 ++ L2 ∧ q.e.cls = 1 := by
    intro q hq
    have hq' := hmem q hq
    refine ⟨?_, (I.pmem q hq'.1).2⟩
    rcases (hLr q.e).1 (I.pmem q hq'.1).1 with h | h
    · exact h
    · exact absurd (by rw [h]) hq'.2.1
  have hlen : ((L1 ++ L2).countP fun x => !listed.getD x.i true) = fuel := by
    have h := I.len
    rw [hL, List.countP_append, List.countP_cons, I.plisted pl hp] at h
    rw [List.countP_append]
    simpa using h
  have hwd : ∀ q ∈ P1 ++ P2, ∀ w, wantedIn ops.toList (setD T p.e.o.dst w) q.e.o.guard = wantedIn ops.toList T q.e.o.guard := fun q hq w => wanted_setD (hnc q hq).xy
  have had : ∀ q ∈ P1 ++ P2, ∀ w, aShape q.e.o.op E (setD T p.e.o.dst w) = aShape q.e.o.op E T := fun q hq w => aShape_congr (opv_setD_looks (hnc q hq).xy)
  have hpi : ∀ q ∈ P1 ++ P2, ∀ q' ∈ P1 ++ P2, bit q'.e.mask q.e.i = false := fun q hq q' hq' => I.pind q (hmem q hq).1 q' (hmem q' hq').1
  have hout : ∀ q ∈ P1 ++ P2, q ∈ pend ∧ q.e.i ≠ p.e.i := fun q hq => ⟨(hmem q hq).1, (hmem q hq).2.1⟩
  have same : ∀ w : V, VR μ (St A s μ W) W w p.x → runD E rc ops.toList (L1 ++ L2) H (setD T p.e.o.dst w) m s = r →
      Inv E P rc K ops b ck A0 s0 μ0 W0 r All L0 listed fuel (L1 ++ L2) (P1 ++ P2) A (setD T p.e.o.dst w) m s μ W (a.put p.e.o.dst p.x) H act := fun w hw hrun =>
    ⟨I.reach, I.fr.put hw _, hsub, hpm, fun q hq => (I.pok q (hmem q hq).1).step ⟨fun _ _ h => h, fun _ h => ⟨h, rfl⟩, fun _ _ _ _ => rfl⟩ (Nat.le_refl _) (fun _ _ h => ⟨rfl, h⟩) (hwd q hq w) (had q hq w), hpd', hpi, hact _ rfl, hLn, I.lsize, I.dc, hrun, hlen, fun N1 z N2 e hz hl x hx hxL => I.fixd N1 z N2 e hz hl x hx ((hLr x).2 (.inl hxL))⟩
  rcases hnf with ⟨hw, hrun'⟩ | ⟨hw, ob, mk, ha, hrun'⟩
  · cases I.pok p hp with
    | skip q1 q2 q3 => exact ⟨A, _, s, μ, _, P1 ++ P2, same undef (q3 ▸ undef_rel) hrun', hout⟩
    | none q1 _ _ _ => rw [q1] at hw; cases hw
    | some _ q1 _ _ _ _ _ _ _ _ _ => rw [q1] at hw; cases hw
  · cases I.pok p hp with
    | skip q1 _ _ => rw [q1] at hw; cases hw
    | none q1 q2 q3 q4 =>
      rw [q3] at ha
      cases ha
      exact ⟨A, _, s, μ, _, P1 ++ P2, same (p.val 0) (q4 _ _ _) hrun', hout⟩
    | some B q1 q2 q3 h1 h2 h3 h4 h5 h6 h7 =>
      rw [q3] at ha
      cases ha
      have V := late_vext (B := B) I.reach.R h3
      have hB := h7 _ _ _ V h2
      refine ⟨_, setD T p.e.o.dst (p.val s.next), s.new B, _, a.put p.e.o.dst p.x, P1 ++ P2, ⟨I.reach.late h1 h3 h4 h5 hB, (I.fr.vext V).put (h6 _ _ _ _ (Mu.add_self _ _ _) h2) _, hsub, hpm, fun q hq => ?_, hpd', hpi, hact _ rfl, hLn, I.lsize, I.dc, hrun', hlen, fun N1 z N2 e hz hl x hx hxL => I.fixd N1 z N2 e hz hl x hx ((hLr x).2 (.inl hxL))⟩, hout⟩
      refine (I.pok q (hmem q hq).1).step V (Nat.le_refl _) (fun ho _ hA => ⟨rfl, ?_⟩) (hwd q hq _) (had q hq _)
      rintro (h | h)
      · exact hA h
      · exact (hmem q hq).2.2 ho (by rw [q2]; rfl) h
theorem Inv.resolve (pl : Plan K ops All L0) (hAll : ∀ e ∈ L0, e ∈ All) (hr : r ≠ .fail) : ∀ (L1 N : List PE) {L2 : List PE} {pend : List Pd} {A : Al} {T : List V} {s : S} {μ : Mu} {a : Act},
    Inv E P rc K ops b ck A0 s0 μ0 W0 r All L0 listed fuel (N ++ (L1 ++ L2)) pend A T m s μ W a H act → (∀ x ∈ N, 2 ≤ x.cls) → (∀ x ∈ L1, 2 ≤ x.cls ∨ ∃ p ∈ pend, p.e = x) →
    ∃ A' T' s' μ' a' pend' N', Inv E P rc K ops b ck A0 s0 μ0 W0 r All L0 listed fuel (N' ++ L2) pend' A' T' m s' μ' W a' H act ∧ (∀ x ∈ N', 2 ≤ x.cls) ∧ (∀ q ∈ pend', q ∈ pend) ∧ (∀ x ∈ N', x ∈ N ++ L1) ∧ ∀ x ∈ N ++ L1, 2 ≤ x.cls → x ∈ N'
  | [], N, L2, pend, A, T, s, μ, a, I, hN, _ => ⟨A, T, s, μ, a, pend, N, I, hN, fun _ h => h, fun x hx => by simpa using hx, fun x hx _ => by simpa using hx⟩
  | x :: L1, N, L2, pend, A, T, s, μ, a, I, hN, hL => by
    by_cases hx : 2 ≤ x.cls
    · have I' : Inv E P rc K ops b ck A0 s0 μ0 W0 r All L0 listed fuel ((N ++ [x]) ++ (L1 ++ L2)) pend A T m s μ W a H act := by simpa using I
      obtain ⟨A', T', s', μ', a', pend', N', q1, q2, q3, q4, q5⟩ := Inv.resolve pl hAll hr L1 (N ++ [x]) I' (fun z hz => by
        rcases List.mem_append.1 hz with hz | hz
        · exact hN z hz
        · simp at hz; subst hz; exact hx) fun z hz => hL z (by simp [hz])
      exact ⟨A', T', s', μ', a', pend', N', q1, q2, q3, fun z hz => by simpa using q4 z hz, fun z hz => by simpa using q5 z (by simpa using hz)⟩
    · obtain ⟨p, hp, hpx⟩ := (hL x (by simp)).resolve_left hx
      obtain ⟨A1, T1, s1, μ1, a1, pend1, I1, hp1⟩ := I.resolve1 pl hAll hr (L1 := N) (L2 := L1 ++ L2) (y := x) rfl hN hp hpx
      have hxn : ∀ z ∈ L1, z.i ≠ x.i := by
        intro z hz
        have := (I.pair pl (L1 := N) (y := x) (L2 := L1 ++ L2) rfl).2 z (by simp [hz])
        exact fun e => (pairOk_ne this).1 e.symm
      have hLL : ∀ z ∈ L1, 2 ≤ z.cls ∨ ∃ p ∈ pend1, p.e = z := by
        intro z hz
        rcases hL z (by simp [hz]) with h | ⟨q, hq, hqz⟩
        · exact .inl h
        · rcases Nat.lt_or_ge z.cls 2 with hc | hc
          · right
            have hzl := I.plisted pl hq
            have hzL : z ∈ N ++ (L1 ++ L2) := by simp [hz]
            by_cases hex : ∃ p ∈ pend1, p.e = z
            · exact hex
            · have := I1.notlisted pl hzL fun p hp e => hex ⟨p, hp, e⟩
              rw [← hqz, hzl] at this; cases this
          · exact .inl hc
      obtain ⟨A', T', s', μ', a', pend', N', q1, q2, q3, q4, q5⟩ := Inv.resolve pl hAll hr L1 N I1 hN hLL
      refine ⟨A', T', s', μ', a', pend', N', q1, q2, fun q hq => (hp1 q (q3 q hq)).1, fun z hz => ?_, fun z hz hc => ?_⟩
      · rcases List.mem_append.1 (q4 z hz) with h | h <;> simp [h]
      · refine q5 z ?_ hc
        rcases List.mem_append.1 hz with h | h
        · simp [h]
        · rcases List.mem_cons.1 h with rfl | h
          · exact absurd hc hx
          · simp [h]
end facts
end
end Go.AM
end
section
namespace Go.AM
open Go
theorem getD_set {listed : Array Bool} {i j : Nat} (h : i < listed.size) : (listed.setIfInBounds i true).getD j true = if j = i then true else listed.getD j true := by
  rw [Array.getD_eq_getD_getElem?, Array.getD_eq_getD_getElem?]
  by_cases hj : j = i
  · subst hj; rw [if_pos rfl, Array.getElem?_setIfInBounds_self_of_lt h]; rfl
  · rw [if_neg hj, Array.getElem?_setIfInBounds_ne (Ne.symm hj)]
section
variable {E : Env} {P : Program} {rc : Rec} {Fit : (Nat → Prop) → Code → Prop} {K : List Nat} {ops : Array Oper} {b : Frame} {ck : CK} {A0 : Al} {s0 : S} {μ0 : Mu} {W0 : World} {r : R} {All L0 : List PE}
variable {listed : Array Bool} {fuel : Nat} {Lr : List PE} {pend : List Pd} {A : Al} {T : List V} {m : M} {s : S} {μ : Mu} {W : World} {a : Act} {H : List HE} {act : Act} {x y : PE} {L1 L2 : List PE}
structure Now (ops : Array Oper) (listed : Array Bool) (y : PE) : Prop where
  at_ : ops[y.i]? = some y.o
  un : listed.getD y.i true = false
  edges : ∀ d ∈ y.o.after.toList, bindsA d = true → listed.getD d.on true = true
theorem binds_any {md : Region.Mode} {e : Edge} (h : bindsA e = true) : Region.binds md e = true := by unfold bindsA at h; unfold Region.binds; cases hg : e.ground <;> rw [hg] at h <;> first | rfl | (cases h)
theorem ready_now {md : Region.Mode} {i : Nat} (h : i ∈ Region.ready md ops listed) : ∃ o, ops[i]? = some o ∧ listed.getD i true = false ∧ ∀ d ∈ o.after.toList, bindsA d = true → listed.getD d.on true = true := by
  unfold Region.ready at h
  rw [List.mem_filter] at h
  obtain ⟨_, h⟩ := h
  simp only [Bool.and_eq_true, Bool.not_eq_true'] at h
  obtain ⟨h1, h2⟩ := h
  cases ho : ops[i]? with
  | none => rw [ho] at h2; cases h2
  | some o =>
    rw [ho] at h2
    refine ⟨o, rfl, h1, fun d hd hb => ?_⟩
    have h2 : (o.after.all fun e => !Region.binds md e || listed.getD e.on false) = true := h2
    rw [Array.all_eq_true_iff_forall_mem] at h2
    have := h2 d (by simpa using hd)
    rw [binds_any hb] at this
    have this : listed.getD d.on false = true := by simpa using this
    rw [Array.getD_eq_getD_getElem?] at this ⊢
    cases hl : listed[d.on]? with
    | none => rw [hl] at this; cases this
    | some c => rw [hl] at this; exact this
theorem Inv.mask_listed (I : Inv E P rc K ops b ck A0 s0 μ0 W0 r All L0 listed fuel Lr pend A T m s μ W a H act) {e : PE} (he : EntOk ops.toList All e) (hd : ∀ d ∈ e.o.after.toList, bindsA d = true → listed.getD d.on true = true) :
    ∀ j, bit e.mask j = true → listed.getD j true = true := by
  intro j hj
  obtain ⟨d, hd', hb, h⟩ := he.mask j hj
  rcases h with rfl | ⟨f, hf, hfi, hfj⟩
  · exact hd d hd' hb
  · exact I.dc f hf (by rw [hfi]; exact hd d hd' hb) j hfj
theorem Inv.dc' (I : Inv E P rc K ops b ck A0 s0 μ0 W0 r All L0 listed fuel Lr pend A T m s μ W a H act) (pl : Plan K ops All L0) (hy : y ∈ Lr) (hn : Now ops listed y) :
    ∀ e ∈ All, (listed.setIfInBounds y.i true).getD e.i true = true → ∀ j, bit e.mask j = true → (listed.setIfInBounds y.i true).getD j true = true := by
  have hlt : y.i < listed.size := I.lsize ▸ (I.ent pl hy).lt
  intro e he hl j hj
  rw [getD_set hlt] at hl ⊢
  split
  · rfl
  · by_cases hei : e.i = y.i
    · refine I.mask_listed (pl.all e he) (fun d hd hb => hn.edges d ?_ hb) j hj
      have h1 := (pl.all e he).at_
      have h2 := (I.ent pl hy).at_
      rw [hei, h2] at h1
      rw [Option.some.inj h1]; exact hd
    · rw [if_neg hei] at hl; exact I.dc e he hl j hj
theorem Inv.next (I : Inv E P rc K ops b ck A0 s0 μ0 W0 r All L0 listed (fuel + 1) Lr pend A T m s μ W a H act) (pl : Plan K ops All L0) (hL : Lr = L1 ++ y :: L2) (hn : Now ops listed y) (hy : ∀ p ∈ pend, p.e ≠ y)
    {T' : List V} {m' : M} {s' : S} {μ' : Mu} {W' : World} {a' : Act} {act' : Act} (hreach : Reach E A0 s0 μ0 W0 A s' μ' W') (hfr : FR A s' μ' W' T' m' b ck a') (hpok : ∀ p ∈ pend, PdOk E ops.toList A0 W0 A s' μ' W' T' p)
    (hact : act' = hid pend a') (hrun : runD E rc ops.toList (L1 ++ L2) H T' m' s' = r) (hfx : y.cls = 0 → ∀ x ∈ L1, x.cls ≠ 1) :
    Inv E P rc K ops b ck A0 s0 μ0 W0 r All L0 (listed.setIfInBounds y.i true) fuel (L1 ++ L2) pend A T' m' s' μ' W' a' H act' := by
  have hyL : y ∈ Lr := by rw [hL]; simp
  have hlt : y.i < listed.size := I.lsize ▸ (I.ent pl hyL).lt
  obtain ⟨hp1, hp2⟩ := I.pair pl hL
  have hne : ∀ e ∈ L1 ++ L2, e.i ≠ y.i := by
    intro e he
    rcases List.mem_append.1 he with he | he
    · exact (pairOk_ne (hp1 e he)).1
    · exact fun h => (pairOk_ne (hp2 e he)).1 h.symm
  have hLr : ∀ e, e ∈ Lr ↔ e ∈ L1 ++ L2 ∨ e = y := by
    intro e; rw [hL]; simp [or_comm, or_left_comm]
  refine ⟨hreach, hfr, ?_, fun p hp => ⟨?_, (I.pmem p hp).2⟩, hpok, I.pdist, I.pind, hact, fun j hj => ?_, by simp [I.lsize], I.dc' pl hyL hn, hrun, ?_, ?_⟩
  · refine List.Sublist.trans ?_ I.sub
    rw [hL]
    exact List.Sublist.append (List.Sublist.refl _) (List.sublist_cons_self _ _)
  · exact ((hLr p.e).1 (I.pmem p hp).1).resolve_right (hy p hp)
  · rw [getD_set hlt]
    constructor
    · intro h
      split at h
      · cases h
      · rename_i hji
        obtain ⟨e, he, hej, hq⟩ := (I.hL j hj).1 h
        refine ⟨e, ((hLr e).1 he).resolve_right fun h => hji (by rw [← hej, h]), hej, hq⟩
    · rintro ⟨e, he, hej, hq⟩
      rw [if_neg (hej ▸ hne e he)]
      exact (I.hL j hj).2 ⟨e, (hLr e).2 (.inl he), hej, hq⟩
  · have h := I.len
    rw [hL, List.countP_append, List.countP_cons, hn.un] at h
    rw [List.countP_append]
    have e : ∀ l : List PE, (∀ x ∈ l, x.i ≠ y.i) → (l.countP fun x => !(listed.setIfInBounds y.i true).getD x.i true) = l.countP fun x => !listed.getD x.i true := fun l hl =>
      List.countP_congr fun x hx => by rw [getD_set hlt, if_neg (hl x hx)]
    rw [e L1 fun x hx => hne x (by simp [hx]), e L2 fun x hx => hne x (by simp [hx])]
    simp only [Bool.not_false, if_true] at h
    omega
  · intro N1 z N2 e hz hl x hx hxL
    rw [getD_set hlt] at hl
    by_cases hzy : z.i = y.i
    · have hzy : z = y := pairwise_uniq (pl.pw.imp fun h => (pairOk_ne h).1) (by rw [e]; simp) (I.sub.subset hyL) hzy
      subst hzy
      rcases List.mem_append.1 hxL with h | h
      · exact hfx hz x h
      · exfalso
        have hs := I.sub
        rw [hL] at hs
        have p1 := (pl.pw.imp (S := fun a b => a.i ≠ b.i) fun h => (pairOk_ne h).1)
        have hNd : ∀ u ∈ N1, ∀ v ∈ z :: N2, u.i ≠ v.i := by rw [e, List.pairwise_append] at p1; exact p1.2.2
        obtain ⟨M1, M2, h1, h2, h3⟩ := List.append_sublist_iff.1 hs
        obtain ⟨Q1, Q2, h4, h5, h6⟩ := List.cons_sublist_iff.1 h3
        obtain ⟨R1, R2, h7⟩ := List.append_of_mem h5
        have hxz : x.i ≠ z.i := hNd x hx z (by simp)
        -- x stands behind z in the plan, and ahead of it
        have p2 := p1
        rw [h1, h4, h7] at p2
        have e2 : N1 ++ z :: N2 = (M1 ++ R1) ++ z :: (R2 ++ Q2) := by rw [← e, h1, h4, h7]; simp
        have e3 : N1 = M1 ++ R1 := by
          have key : ∀ {A B A' B' : List PE}, A ++ z :: B = A' ++ z :: B' → (∀ u ∈ A, u.i ≠ z.i) → (∀ u ∈ A', u.i ≠ z.i) → A = A' := by
            intro A
            induction A with
            | nil =>
              intro B A' B' h _ ha'
              cases A' with
              | nil => rfl
              | cons u A' => simp at h; exact absurd (by rw [h.1]) (ha' u (by simp))
            | cons u A ih =>
              intro B A' B' h ha ha'
              cases A' with
              | nil => simp at h; exact absurd (by rw [h.1]) (ha u (by simp))
              | cons u' A' =>
                simp at h
                rw [h.1, ih h.2 (fun v hv => ha v (by simp [hv])) (fun v hv => ha' v (by simp [hv]))]
          refine key e2 (fun u hu => hNd u hu z (by simp)) fun u hu => ?_
          have e4 : (M1 ++ (R1 ++ z :: R2 ++ Q2)) = (M1 ++ R1) ++ (z :: (R2 ++ Q2)) := by simp
          rw [e4, List.pairwise_append] at p2
          exact p2.2.2 u hu z (by simp)
        rw [e3] at hx
        have e4 : (M1 ++ (R1 ++ z :: R2 ++ Q2)) = (M1 ++ R1) ++ (z :: (R2 ++ Q2)) := by simp
        rw [e4, List.pairwise_append] at p2
        have hxQ : x ∈ R2 ++ Q2 := List.mem_append_right _ (h6.subset h)
        exact p2.2.2 x hx x (by simp only [List.mem_cons]; exact .inr hxQ) rfl
    · rw [if_neg hzy] at hl
      exact I.fixd N1 z N2 e hz hl x hx ((hLr x).2 (.inl hxL))
theorem depFrom_dep {bf : List PE} {y : PE} : ∀ {l : List PE}, depFrom bf y l = true → ∀ l1 x l2, l = l1 ++ x :: l2 → x.cls = 1 → bit y.mask x.i = true → (∃ z ∈ l2, z.cls = 0 ∧ bit y.mask z.i = true) ∨ ∀ z ∈ bf, 2 ≤ z.cls ∨ bit y.mask z.i = true
  | [], _, l1, x, l2, e, _, _ => by simp at e
  | w :: l, h, l1, x, l2, e, hc, hb => by
    have h : ((!(w.cls == 1 && bit y.mask w.i) || (l.any fun z => z.cls == 0 && bit y.mask z.i) || bf.all fun z => decide (2 ≤ z.cls) || bit y.mask z.i) && depFrom bf y l) = true := h
    rw [Bool.and_eq_true] at h
    cases l1 with
    | cons u l1 => simp at e; exact depFrom_dep h.2 l1 x l2 e.2 hc hb
    | nil =>
      simp at e
      obtain ⟨rfl, rfl⟩ := e
      rw [Bool.or_eq_true, Bool.or_eq_true] at h
      rcases h.1 with (h | h) | h
      · simp [hc, hb] at h
      · left
        obtain ⟨z, hz, h⟩ := List.any_eq_true.1 h
        simp at h
        exact ⟨z, hz, h.1, h.2⟩
      · right
        intro z hz
        have := List.all_eq_true.1 h z hz
        simpa using this
theorem Inv.dep (I : Inv E P rc K ops b ck A0 s0 μ0 W0 r All L0 listed fuel Lr pend A T m s μ W a H act) (pl : Plan K ops All L0) (hL : Lr = L1 ++ y :: L2) (hm : ∀ j, bit y.mask j = true → listed.getD j true = true) (hx : x ∈ L1) (hc : x.cls = 1) (hb : bit y.mask x.i = true) : ∀ z ∈ L1, 2 ≤ z.cls ∨ bit y.mask z.i = true := by
  have hs := I.sub
  rw [hL] at hs
  obtain ⟨M1, M2, h1, h2, h3⟩ := List.append_sublist_iff.1 hs
  obtain ⟨N1, N2, h4, h5, h6⟩ := List.cons_sublist_iff.1 h3
  obtain ⟨Q1, Q2, h7⟩ := List.append_of_mem h5
  have hd := pl.dep (M1 ++ Q1) y (Q2 ++ N2) (by rw [h1, h4, h7]; simp)
  obtain ⟨l1, l2, h8⟩ := List.append_of_mem (h2.subset hx)
  rcases depFrom_dep (show depFrom (M1 ++ Q1) y (M1 ++ Q1) = true from hd) l1 x (l2 ++ Q1) (by rw [h8]; simp) hc hb with ⟨z, hz, hz0, hzb⟩ | h
  · exfalso
    obtain ⟨q1, q2, h9⟩ := List.append_of_mem hz
    have := I.fixd (l1 ++ x :: q1) z (q2 ++ (y :: (Q2 ++ N2))) (by
      have e : M1 ++ Q1 = l1 ++ x :: (q1 ++ z :: q2) := by rw [← h9, h8]; simp
      rw [h1, h4, h7]
      have : M1 ++ (Q1 ++ y :: Q2 ++ N2) = (M1 ++ Q1) ++ (y :: (Q2 ++ N2)) := by simp
      rw [this, e]; simp) hz0 (hm _ hzb) x (by simp) (by rw [hL]; simp [hx])
    omega
  · intro z hz
    exact h z (List.mem_append_left _ (h2.subset hz))
theorem Inv.ahead (I : Inv E P rc K ops b ck A0 s0 μ0 W0 r All L0 listed fuel Lr pend A T m s μ W a H act) (pl : Plan K ops All L0) (hL : Lr = L1 ++ y :: L2) (hm : ∀ j, bit y.mask j = true → listed.getD j true = true)
    (h : ∀ z ∈ L1, 2 ≤ z.cls ∨ bit y.mask z.i = true) : ∀ z ∈ L1, 2 ≤ z.cls ∨ ∃ p ∈ pend, p.e = z := by
  intro z hz
  rcases h z hz with h | h
  · exact .inl h
  · right
    by_cases hex : ∃ p ∈ pend, p.e = z
    · exact hex
    · have := I.unbit pl (x := z) (by rw [hL]; simp [hz]) (fun p hp e => hex ⟨p, hp, e⟩) hm
      rw [this] at h; cases h
end
end Go.AM
end
section
namespace Go.AM
open Go
theorem go_succ {md : Region.Mode} {ops : Array Oper} {fuel t : Nat} {listed : Array Bool} : Region.linearise.go md ops (fuel + 1) t listed [] =
    match (Region.ready md ops listed)[t % (Region.ready md ops listed).length]? with
    | some i => i :: Region.linearise.go md ops fuel (t / (Region.ready md ops listed).length) (listed.setIfInBounds i true) []
    | none => [] := by
  simp only [Region.linearise.go]
  change (match (Region.ready md ops listed)[t % (Region.ready md ops listed).length]? with
      | some i => Region.linearise.go md ops fuel (t / (Region.ready md ops listed).length) (listed.setIfInBounds i true) [i]
      | none => [].reverse) = _
  cases (Region.ready md ops listed)[t % (Region.ready md ops listed).length]? with
  | none => rfl
  | some i =>
    show Region.linearise.go md ops fuel _ _ [i] = _
    rw [linearise_go_acc]
    rfl
theorem ready_of {md : Region.Mode} {ops : Array Oper} {listed : Array Bool} {i : Nat} {o : Oper} (h : ops[i]? = some o) (hl : listed.getD i true = false) (hd : ∀ d ∈ o.after.toList, Region.binds md d = true → listed.getD d.on false = true) : i ∈ Region.ready md ops listed := by
  unfold Region.ready
  rw [List.mem_filter]
  refine ⟨by rw [List.mem_range]; exact (Array.getElem?_eq_some_iff.1 h).1, ?_⟩
  rw [hl, h]
  show (true && o.after.all fun e => !Region.binds md e || listed.getD e.on false) = true
  rw [Bool.true_and, Array.all_eq_true_iff_forall_mem]
  intro d hd'
  cases hb : Region.binds md d with
  | false => rfl
  | true => rw [hd d (by simpa using hd') hb]; simp
theorem first_split {α : Type} {p : α → Bool} : ∀ {l : List α}, 0 < l.countP p → ∃ M1 x M2, l = M1 ++ x :: M2 ∧ p x = true ∧ ∀ z ∈ M1, p z = false
  | [], h => by simp at h
  | x :: l, h => by
    cases hp : p x with
    | true => exact ⟨[], x, l, rfl, hp, fun z hz => by cases hz⟩
    | false =>
      rw [List.countP_cons, hp] at h
      obtain ⟨M1, y, M2, h1, h2, h3⟩ := first_split (p := p) (l := l) (by simpa using h)
      refine ⟨x :: M1, y, M2, by rw [h1]; rfl, h2, fun z hz => ?_⟩
      rcases List.mem_cons.1 hz with rfl | hz
      · exact hp
      · exact h3 z hz
section
variable {E : Env} {P : Program} {rc : Rec} {Fit : (Nat → Prop) → Code → Prop} {K : List Nat} {ops : Array Oper} {b : Frame} {ck : CK} {A0 : Al} {s0 : S} {μ0 : Mu} {W0 : World} {r : R} {All L0 : List PE}
variable {listed : Array Bool} {fuel : Nat} {Lr : List PE} {pend : List Pd} {A : Al} {T : List V} {m : M} {s : S} {μ : Mu} {W : World} {a : Act} {H : List HE} {act : Act} {x y : PE} {L1 L2 : List PE}
abbrev KP (K : List Nat) : Nat → Prop := fun t => t ∈ K
theorem Inv.some_ready (I : Inv E P rc K ops b ck A0 s0 μ0 W0 r All L0 listed (fuel + 1) Lr pend A T m s μ W a H act) (pl : Plan K ops All L0) {md : Region.Mode} (ht : Topo md ops) : Region.ready md ops listed ≠ [] := by
  obtain ⟨M1, x, M2, hL, hx, _⟩ := first_split (p := fun x => !listed.getD x.i true) (l := Lr) (by rw [I.len]; omega)
  have hxL : x ∈ Lr := by rw [hL]; simp
  obtain ⟨Q, q1, q2, q3⟩ := ht
  have hpos : 0 < Q.countP fun j => !listed.getD j true := List.countP_pos_iff.2 ⟨x.i, q1 _ (I.ent pl hxL).lt, hx⟩
  obtain ⟨Q1, i, Q2, hQ, hi, hQ1⟩ := first_split hpos
  have hin : i < ops.size := q2 i (by rw [hQ]; simp)
  have hat : ops[i]? = some ops[i] := Array.getElem?_eq_getElem hin
  intro hnil
  have : i ∈ Region.ready md ops listed := by
    refine ready_of hat (by simpa using hi) fun d hd hb => ?_
    have hd1 := q3 Q1 i Q2 hQ _ hat d hd hb
    have hdn := q2 d.on (by rw [hQ]; simp [hd1])
    have hl : listed.getD d.on true = true := by simpa using hQ1 _ hd1
    rw [Array.getD_eq_getD_getElem?] at hl ⊢
    have : d.on < listed.size := by rw [I.lsize]; exact hdn
    rw [Array.getElem?_eq_getElem this] at hl ⊢
    exact hl
  rw [hnil] at this; cases this
theorem owned_not (R : Rel E A s μ W) {β : Nat} (h : ¬ A β) : ¬ Owned s μ s.lo β := fun ho => h (R.owned_al ho)
theorem PdOk.after {p : Pd} {T1 : List V} {s1 : S} {μ1 : Mu} {W1 : World} (h : PdOk E ops.toList A0 W0 A s μ W T p) (R : Rel E A s μ W) (X : ExtA A s μ W s1 μ1 W1) (hw : wantedIn ops.toList T1 p.e.o.guard = wantedIn ops.toList T p.e.o.guard) (ha : aShape p.e.o.op E T1 = aShape p.e.o.op E T) :
    PdOk E ops.toList A0 W0 A s1 μ1 W1 T1 p := h.step (X.vext R) X.size (fun _ hβ hA => ⟨X.keep _ hβ (owned_not R hA), hA⟩) hw ha
theorem not_select {o : Op} (hc : cls o ≠ 0 ∨ o1 o E rc T m s ≠ .fail) : ∀ cs bb, o ≠ .select cs bb := by
  rintro cs bb rfl
  rcases hc with h | h
  · exact h rfl
  · exact h rfl
structure Comes (E : Env) (P : Program) (rc : Rec) (K : List Nat) (ops : Array Oper) (b : Frame) (ck : CK) (A0 : Al) (s0 : S) (μ0 : Mu) (W0 : World) (r : R) (All L0 : List PE)
    (listed : Array Bool) (fuel : Nat) (L1 : List PE) (y : PE) (L2 : List PE) (pend : List Pd) (A : Al) (T : List V) (m : M) (s : S) (μ : Mu) (W : World) (a : Act) (H : List HE) (act : Act) : Prop where
  I : Inv E P rc K ops b ck A0 s0 μ0 W0 r All L0 listed (fuel + 1) (L1 ++ y :: L2) pend A T m s μ W a H act
  now : Now ops listed y
  np : ∀ p ∈ pend, p.e ≠ y
  mask : ∀ j, bit y.mask j = true → listed.getD j true = true
  nod : ∀ x ∈ L1, x.cls = 1 → bit y.mask x.i = false
  fix : y.cls = 0 → ∀ x ∈ L1, x.cls ≠ 1
section comes
variable (C : Comes E P rc K ops b ck A0 s0 μ0 W0 r All L0 listed fuel L1 y L2 pend A T m s μ W a H act) (pl : Plan K ops All L0) (hAll : ∀ e ∈ L0, e ∈ All)
include C pl hAll
theorem Comes.pbit {p : Pd} (hp : p ∈ pend) : bit y.mask p.e.i = false ∧ bit p.e.mask y.i = false := by
  refine ⟨?_, C.I.unbit pl (by simp) C.np (C.I.pmask pl hAll hp)⟩
  have hm := (C.I.pmem p hp).1
  rcases List.mem_append.1 hm with h | h
  · exact C.nod _ h (C.I.pmem p hp).2
  · rcases List.mem_cons.1 h with h | h
    · exact absurd h (C.np p hp)
    · exact (pairOk_ne ((C.I.pair pl rfl).2 _ h)).2
theorem Comes.pnc {p : Pd} (hp : p ∈ pend) : NoClash ops.toList y.o p.e.o :=
  C.I.nc pl (by simp) (C.I.pmem p hp).1 (fun e => C.np p hp e.symm) (C.pbit pl hAll hp).1 (C.pbit pl hAll hp).2
theorem Comes.ahead {x : PE} (hx : x ∈ L1) : bit y.mask x.i = false ∧ Loose ops.toList K x y := by
  have hb : bit y.mask x.i = false := by
    by_cases hp : ∃ p ∈ pend, p.e = x
    · obtain ⟨p, hp, rfl⟩ := hp
      exact C.nod _ hx (C.I.pmem p hp).2
    · exact C.I.unbit pl (by simp [hx]) (fun p hp' e => hp ⟨p, hp', e⟩) C.mask
  exact ⟨hb, pairOk_loose ((C.I.pair pl rfl).1 x hx) hb⟩
theorem Comes.cl : y.cls ≤ 3 := by rw [(C.I.ent pl (x := y) (by simp)).cls]; exact cls_le _
theorem Comes.wd {p : Pd} (hp : p ∈ pend) (w : V) : wantedIn ops.toList (setD T y.o.dst w) p.e.o.guard = wantedIn ops.toList T p.e.o.guard := wanted_setD (C.pnc pl hAll hp).xy
theorem Comes.ad {p : Pd} (hp : p ∈ pend) (w : V) : aShape p.e.o.op E (setD T y.o.dst w) = aShape p.e.o.op E T := aShape_congr (opv_setD_looks (C.pnc pl hAll hp).xy)
theorem Comes.hput (xv : Value) (a' : Act) : (hid pend a').put y.o.dst xv = hid pend (a'.put y.o.dst xv) := (hid_put xv (fun p hp t ht => (C.pnc pl hAll hp).dd t ht) a').symm
theorem Comes.skip (rest : List Nat) (hw : wantedIn ops.toList T y.o.guard = false) (hrun : runD E rc ops.toList (L1 ++ L2) H (setD T y.o.dst undef) m s = r) :
    Inv E P rc K ops b ck A0 s0 μ0 W0 r All L0 (listed.setIfInBounds y.i true) fuel (L1 ++ L2) pend A (setD T y.o.dst undef) m s μ W (a.put y.o.dst Go.undef) H (act.put y.o.dst Go.undef) ∧
    ∀ base, Bs ck base → ∀ k, Steps P (lone (b.atR act (.inRegion ops (y.i :: rest) :: k)) (csOf m base) W) (lone (b.atR (act.put y.o.dst Go.undef) (.inRegion ops rest :: k)) (csOf m base) W) := by
  refine ⟨C.I.next pl rfl C.now C.np C.I.reach (C.I.fr.put undef_rel _) (fun p hp => (C.I.pok p hp).after C.I.reach.R (ExtA.refl _ _ _ _) (C.wd pl hAll hp _) (C.ad pl hAll hp _)) (by rw [C.I.act]; exact C.hput pl hAll _ _) hrun C.fix, fun base hB k => .one ?_⟩
  have h := stepR_op_skip (P := P) (b := b) (a := act) (k := k) (cs := csOf m base) (w := W) (ops := ops) (i := y.i) (rest := rest) (by
    rw [C.now.at_]
    show Region.wanted y.o (yielded ops act.tmps) = false
    rw [C.I.act, hid_wanted (fun p hp t ht => (C.pnc pl hAll hp).yx t ht), ← wanted_eq C.I.fr.tmps]; exact hw)
  rw [C.now.at_] at h
  exact h
theorem Comes.gok {KK : Nat → Prop} (hs : ∀ cs bb, y.o.op ≠ .select cs bb) (hw : wantedIn ops.toList T y.o.guard = true) (hk : ∀ p ∈ pend, ∀ t, p.e.o.dst = some t → ¬ KK t) : GOk KK (hid pend) b ops y.o a :=
  hid_gok hs (fun p hp t ht => (C.pnc pl hAll hp).yx t ht) (by rw [← wanted_eq C.I.fr.tmps]; exact hw) hk
theorem Comes.val {KK : Nat → Prop} (rest : List Nat) {v : V} {m' : M} {s' : S} (h : OpOk E P A KK b ck (hid pend) ops y.i rest y.o s μ W T m a (.val v m' s')) (hrun : runD E rc ops.toList (L1 ++ L2) H (setD T y.o.dst v) m' s' = r) :
    ∃ μ' W' a' act', Inv E P rc K ops b ck A0 s0 μ0 W0 r All L0 (listed.setIfInBounds y.i true) fuel (L1 ++ L2) pend A (setD T y.o.dst v) m' s' μ' W' a' H act' ∧
    ∀ base, Bs ck base → ∀ k, Steps P (lone (b.atR act (.inRegion ops (y.i :: rest) :: k)) (csOf m base) W) (lone (b.atR act' (.inRegion ops rest :: k)) (csOf m' base) W') := by
  obtain ⟨μ1, W1, a1, xv, X, R1, F1, hv, _, hst⟩ := h
  refine ⟨μ1, W1, a1.put y.o.dst xv, _, C.I.next pl rfl C.now C.np (C.I.reach.step X R1) (F1.put hv _) (fun p hp => (C.I.pok p hp).after C.I.reach.R X (C.wd pl hAll hp _) (C.ad pl hAll hp _)) (C.hput pl hAll xv a1) hrun C.fix, fun base hB k => ?_⟩
  rw [C.I.act]; exact hst base hB k
end comes
end
end Go.AM
end
section
namespace Go.AM
open Go
abbrev Sx3 := List V × M × S
section
variable {E : Env} {rc : Rec} {all : List Oper} {o p : Oper} {st st' st1 st2 : Sx3} {r : Sx3}
noncomputable def stepO (E : Env) (rc : Rec) (o : Oper) (st : Sx3) : Option Sx3 := match o1 o.op E rc st.1 st.2.1 st.2.2 with
  | .val v m s => some (setD st.1 o.dst v, m, s)
  | _ => none
noncomputable def runI (E : Env) (rc : Rec) : List Oper → Sx3 → Option Sx3
  | [], st => some st
  | o :: l, st => (stepO E rc o st).bind (runI E rc l)
theorem runI_append {l k : List Oper} : runI E rc (l ++ k) st = (runI E rc l st).bind (runI E rc k) := by
  induction l generalizing st with
  | nil => rfl
  | cons o l ih =>
    show (stepO E rc o st).bind (runI E rc (l ++ k)) = ((stepO E rc o st).bind (runI E rc l)).bind (runI E rc k)
    cases stepO E rc o st with
    | none => rfl
    | some st1 => exact ih
theorem opv_back {d : Option Nat} {v : V} {T : List V} (h : ∀ t, d = some t → t ∉ looksOf all o) : ∀ z ∈ o.op.operands, opv E (setD T d v) z = opv E T z := opv_setD_looks h
noncomputable def asRun (a : AS) (s : S) : VS := match a with
  | none => none
  | some (none, f) => some (f 0, s)
  | some (some B, f) => some (f s.next, s.new B)
theorem new_o1 (hc : cls p.op = 1) {T : List V} {m : M} {s : S} : o1 p.op E rc T m s = ofVS (asRun (aShape p.op E T) s) m := by
  generalize p.op = q at hc
  cases q <;> first | (cases hc; done) | skip
  case alloc t =>
    show ofVS (bind (E.ti t) fun ti => newCells (t + 1) ti.zero s) m = ofVS (asRun (bind (E.ti t) fun ti => asPtr (t + 1) ti.zero) s) m
    cases E.ti t <;> rfl
  case box t x =>
    show ofVS (bind (opv E T x) fun v => newCells (t + 1) (cellsOf v) s) m = ofVS (asRun (bind (opv E T x) fun v => asPtr (t + 1) (cellsOf v)) s) m
    cases opv E T x <;> rfl
  case buildSlice t n ps =>
    show ofVS (bind (elemTi E t) fun te => boolC (Nat.ble (n * te.size) 16777216) none (buildSl E T ps.toList n te s)) m = ofVS (asRun (bind (elemTi E t) fun te => boolC (Nat.ble (n * te.size) 16777216) none (asBuildSl E T ps.toList n te)) s) m
    cases elemTi E t with
    | none => rfl
    | some te =>
      show ofVS (boolC (Nat.ble (n * te.size) 16777216) none (buildSl E T ps.toList n te s)) m = ofVS (asRun (boolC (Nat.ble (n * te.size) 16777216) none (asBuildSl E T ps.toList n te)) s) m
      cases Nat.ble (n * te.size) 16777216 with
      | false => rfl
      | true =>
        show ofVS (buildSl E T ps.toList n te s) m = ofVS (asRun (asBuildSl E T ps.toList n te) s) m
        unfold buildSl asBuildSl
        cases n with
        | zero => cases ps.toList <;> rfl
        | succ n =>
          show ofVS (bind (bind (parts E T (rowPlace te.size) ps.toList) (build (repeatL te.zero (n + 1)))) _) m = ofVS (asRun (bind (bind (parts E T (rowPlace te.size) ps.toList) (build (repeatL te.zero (n + 1)))) _) s) m
          cases bind (parts E T (rowPlace te.size) ps.toList) (build (repeatL te.zero (n + 1))) <;> rfl
  case makeMap t x => cases x <;> rfl
  case convert a b x =>
    have hc : boolC (cvtT a b) 0 2 = 1 := hc
    cases h : cvtT a b <;> rw [h] at hc <;> cases hc
  case makeSlice t l c =>
    show ofVS (bind (elemTi E t) fun te => bind (toNO (opv E T l)) fun l => bind (toNO (opv E T c)) fun c => makeSl te l c s) m = ofVS (asRun (bind (elemTi E t) fun te => bind (toNO (opv E T l)) fun l => bind (toNO (opv E T c)) fun c => asMakeSl te l c) s) m
    cases elemTi E t with
    | none => rfl
    | some te =>
      cases hl : toNO (opv E T l) with
      | none => rfl
      | some l =>
        cases hcc : toNO (opv E T c) with
        | none => rfl
        | some c =>
          show ofVS (makeSl te l c s) m = ofVS (asRun (asMakeSl te l c) s) m
          unfold makeSl asMakeSl
          cases (Nat.ble l c && (Nat.ble c maxInt && Nat.ble (c * te.bytes) room)) with
          | false => rfl
          | true => cases c <;> rfl
  case call c =>
    have hc : clsCall c = 1 := hc
    unfold clsCall at hc
    split at hc
    · unfold clsB at hc
      split at hc <;> cases hc
    · cases hc
theorem pF_some {q : Op} (hc : 2 ≤ cls q) : ∃ f, pF q = some f := by
  cases q <;> first | exact ⟨_, rfl⟩ | (exact absurd hc (by show ¬ (2 ≤ 0); omega)) | (exact absurd hc (by show ¬ (2 ≤ 1); omega)) | skip
  case convert a b x =>
    have hc : 2 ≤ boolC (cvtT a b) 0 2 := hc
    cases h : cvtT a b with
    | false => rw [h] at hc; exact absurd hc (by decide)
    | true => exact ⟨oConvI a b x, by show boolC (cvtT a b) none (some (oConvI a b x)) = _; rw [h]; rfl⟩
  case call c =>
    have hc : 2 ≤ clsCall c := hc
    unfold clsCall at hc
    show ∃ f, pFCall c = some f
    unfold pFCall
    split at hc
    · rename_i b hb; exact ⟨_, rfl⟩
    · omega
theorem step_pure (hc : 2 ≤ cls o.op) {T : List V} {m : M} {s : S} (h : stepO E rc o (T, m, s) = some st1) : ∃ f v, pF o.op = some f ∧ f E T s = some (v, s) ∧ st1 = (setD T o.dst v, m, s) := by
  obtain ⟨f, hf⟩ := pF_some hc
  unfold stepO at h
  rw [pF_o1 hc hf] at h
  obtain ⟨g, hg, _⟩ := (pure_all (E := E) (T := T) o.op hc hf).1
  cases hv : f E T s with
  | none => rw [hv] at h; cases h
  | some q =>
    have hq := hv
    rw [hg] at hq
    obtain ⟨_, h2⟩ := ret1_iff.1 hq
    rw [hv] at h
    obtain ⟨v, s1⟩ := q
    simp only at h2
    subst h2
    have h : some (setD T o.dst v, m, s1) = some st1 := h
    cases h
    exact ⟨f, v, hf, hv, rfl⟩
theorem pure_step (hc : 2 ≤ cls o.op) {f : Env → List V → S → VS} (hf : pF o.op = some f) {T : List V} {m : M} {s : S} {v : V} (hv : f E T s = some (v, s)) : stepO E rc o (T, m, s) = some (setD T o.dst v, m, s) := by
  unfold stepO
  rw [pF_o1 hc hf, hv]
  rfl
theorem pure_under {f : Env → List V → S → VS} (hf : pF o.op = some f) (hn : ∀ t, p.dst = some t → t ∉ looksOf all o) {T : List V} {s : S} {w : V} : f E (setD T p.dst w) s = f E T s := pF_congr hf (opv_back hn)
theorem swap_pure (hn : NoClash all o p) (ho : 2 ≤ cls o.op) (hp : 2 ≤ cls p.op ∨ cls p.op = 1 ∨ (cls o.op = 2 ∧ isSt p.op = true)) {T : List V} {m : M} {s : S} (hfree : cls p.op = 1 → s.heap.get s.next = none)
    (h1 : stepO E rc o (T, m, s) = some st1) (h2 : stepO E rc p st1 = some st2) : ∃ st3, stepO E rc p (T, m, s) = some st3 ∧ stepO E rc o st3 = some st2 := by
  obtain ⟨f, v, hf, hv, rfl⟩ := step_pure ho h1
  have hcomm : ∀ w, setD (setD T o.dst v) p.dst w = setD (setD T p.dst w) o.dst v := fun w => setD_comm hn.dd
  -- what p comes to does not look at o's value
  have hcong : ∀ s', o1 p.op E rc (setD T o.dst v) m s' = o1 p.op E rc T m s' := fun s' => o1_congr (opv_setD_looks hn.xy)
  have back : ∀ w m' s', o1 p.op E rc T m s = .val w m' s' → m' = m → f E (setD T p.dst w) s' = some (v, s') → st2 = (setD (setD T o.dst v) p.dst w, m', s') → ∃ st3, stepO E rc p (T, m, s) = some st3 ∧ stepO E rc o st3 = some st2 := by
    intro w m' s' hw hm hfv hst
    subst hm
    refine ⟨(setD T p.dst w, m', s'), ?_, ?_⟩
    · unfold stepO; rw [hw]
    · rw [pure_step ho hf hfv, hst, hcomm]
  rcases hp with hp | hp | ⟨h0, hp⟩
  · obtain ⟨g, w, hg, hw, rfl⟩ := step_pure hp h2
    rw [pure_under (p := o) hg hn.xy] at hw
    exact back w m s (by rw [pF_o1 hp hg, hw]; rfl) rfl (by rw [pure_under (p := p) hf hn.yx]; exact hv) rfl
  · unfold stepO at h2
    rw [show o1 p.op E rc (setD T o.dst v) m s = o1 p.op E rc T m s from hcong s] at h2
    rw [new_o1 hp] at h2
    cases ha : asRun (aShape p.op E T) s with
    | none => rw [ha] at h2; cases h2
    | some q =>
      obtain ⟨w, s'⟩ := q
      rw [ha] at h2
      have h2 : some (setD (setD T o.dst v) p.dst w, m, s') = some st2 := h2
      injection h2 with h2
      refine back w m s' (by rw [new_o1 hp, ha]; rfl) rfl ?_ h2.symm
      rw [pure_under (p := p) hf hn.yx]
      have hs' : s' = s ∨ ∃ B, s' = s.new B := by
        unfold asRun at ha
        split at ha
        · cases ha
        · injection ha with ha; injection ha with q1 q2; exact .inl q2.symm
        · injection ha with ha; injection ha with q1 q2; exact .inr ⟨_, q2.symm⟩
      rcases hs' with rfl | ⟨B, rfl⟩
      · exact hv
      · obtain ⟨g, hg, hgn⟩ := (pure_all (E := E) (T := T) o.op ho hf).1
        rw [hg] at hv ⊢
        obtain ⟨hv, _⟩ := ret1_iff.1 hv
        exact ret1_iff.2 ⟨hgn s B v (hfree hp) hv, rfl⟩
  · unfold stepO at h2
    rw [show o1 p.op E rc (setD T o.dst v) m s = o1 p.op E rc T m s from hcong s] at h2
    cases hw : o1 p.op E rc T m s with
    | fail => rw [hw] at h2; cases h2
    | pan w m' s' => rw [hw] at h2; cases h2
    | val w m' s' =>
      rw [hw] at h2
      have h2 : some (setD (setD T o.dst v) p.dst w, m', s') = some st2 := h2
      injection h2 with h2
      have hm : m' = m := by
        cases hq : p.op <;> rw [hq] at hp hw <;> first | (cases hp; done) | skip
        case store t a x =>
          have hw : ofVS (oStore t a x E T s) m = .val w m' s' := hw
          cases hz : oStore t a x E T s with
          | none => rw [hz] at hw; cases hw
          | some q => rw [hz] at hw; cases hw; rfl
      refine back w m' s' hw hm ?_ h2.symm
      rw [pure_under (p := p) hf hn.yx]
      obtain ⟨x, hx⟩ := (pure_all (E := E) (T := T) o.op ho hf).2 h0
      rw [hx] at hv ⊢
      obtain ⟨hv, _⟩ := ret1_iff.1 hv
      exact ret1_iff.2 ⟨hv, rfl⟩
theorem Tr.putF_enough {α : Type} : ∀ {f g : Nat} {t : Tr α} {k : Nat} {x : Option α}, k < f → k < g → Tr.putF f t k x = Tr.putF g t k x
  | 0, _, _, _, _, h, _ => absurd h (Nat.not_lt_zero _)
  | _, 0, _, _, _, _, h => absurd h (Nat.not_lt_zero _)
  | f + 1, g + 1, t, k, x, hf, hg => by
    have key : ∀ (l : Tr α) (v : Option α) (r : Tr α), Tr.putN (fun t k x => Tr.putF f t k x) l v r k x = Tr.putN (fun t k x => Tr.putF g t k x) l v r k x := by
      intro l v r
      cases k with
      | zero => rfl
      | succ k =>
        show natC (k % 2) (Tr.n (Tr.putF f l (k / 2) x) v r) (fun _ => Tr.n l v (Tr.putF f r (k / 2) x)) = natC (k % 2) (Tr.n (Tr.putF g l (k / 2) x) v r) (fun _ => Tr.n l v (Tr.putF g r (k / 2) x))
        have h1 : k / 2 < f := by omega
        have h2 : k / 2 < g := by omega
        rw [Tr.putF_enough h1 h2 (t := l) (x := x), Tr.putF_enough h1 h2 (t := r) (x := x)]
    cases t with
    | e => exact key _ _ _
    | n l v r => exact key _ _ _
theorem Tr.putF_comm {α : Type} : ∀ {f : Nat} {t : Tr α} {a b : Nat} {x y : Option α}, a < f → b < f → a ≠ b → Tr.putF f (Tr.putF f t a x) b y = Tr.putF f (Tr.putF f t b y) a x
  | 0, _, _, _, _, _, h, _, _ => absurd h (Nat.not_lt_zero _)
  | f + 1, t, a, b, x, y, ha, hb, hab => by
    have key : ∀ (l : Tr α) (v : Option α) (r : Tr α), Tr.putF (f + 1) (Tr.putN (fun t k x => Tr.putF f t k x) l v r a x) b y = Tr.putF (f + 1) (Tr.putN (fun t k x => Tr.putF f t k x) l v r b y) a x := by
      intro l v r
      cases a with
      | zero =>
        cases b with
        | zero => exact absurd rfl hab
        | succ b =>
          show Tr.putN (fun t k x => Tr.putF f t k x) l x r (b + 1) y = Tr.putF (f + 1) (natC (b % 2) _ _) 0 x
          unfold Tr.putN
          show natC (b % 2) _ _ = Tr.putF (f + 1) (natC (b % 2) _ _) 0 x
          cases b % 2 <;> rfl
      | succ a =>
        cases b with
        | zero =>
          show Tr.putF (f + 1) (natC (a % 2) _ _) 0 y = Tr.putN (fun t k x => Tr.putF f t k x) l y r (a + 1) x
          unfold Tr.putN
          show Tr.putF (f + 1) (natC (a % 2) _ _) 0 y = natC (a % 2) _ _
          cases a % 2 <;> rfl
        | succ b =>
          show Tr.putF (f + 1) (natC (a % 2) (.n (Tr.putF f l (a / 2) x) v r) (fun _ => .n l v (Tr.putF f r (a / 2) x))) (b + 1) y = Tr.putF (f + 1) (natC (b % 2) (.n (Tr.putF f l (b / 2) y) v r) (fun _ => .n l v (Tr.putF f r (b / 2) y))) (a + 1) x
          have hda : a / 2 < f := by omega
          have hdb : b / 2 < f := by omega
          have e : ∀ (l' r' : Tr α) (k : Nat) (z : Option α), Tr.putF (f + 1) (.n l' v r') (k + 1) z = natC (k % 2) (.n (Tr.putF f l' (k / 2) z) v r') (fun _ => .n l' v (Tr.putF f r' (k / 2) z)) := fun _ _ _ _ => rfl
          rcases Nat.mod_two_eq_zero_or_one a with h1 | h1 <;> rcases Nat.mod_two_eq_zero_or_one b with h2 | h2 <;> rw [h1, h2]
          · show Tr.putF (f + 1) (.n (Tr.putF f l (a / 2) x) v r) (b + 1) y = Tr.putF (f + 1) (.n (Tr.putF f l (b / 2) y) v r) (a + 1) x
            rw [e, e, h1, h2]
            show Tr.n _ v r = Tr.n _ v r
            rw [Tr.putF_comm hda hdb (by omega)]
          · show Tr.putF (f + 1) (.n (Tr.putF f l (a / 2) x) v r) (b + 1) y = Tr.putF (f + 1) (.n l v (Tr.putF f r (b / 2) y)) (a + 1) x
            rw [e, e, h1, h2]; rfl
          · show Tr.putF (f + 1) (.n l v (Tr.putF f r (a / 2) x)) (b + 1) y = Tr.putF (f + 1) (.n (Tr.putF f l (b / 2) y) v r) (a + 1) x
            rw [e, e, h1, h2]; rfl
          · show Tr.putF (f + 1) (.n l v (Tr.putF f r (a / 2) x)) (b + 1) y = Tr.putF (f + 1) (.n l v (Tr.putF f r (b / 2) y)) (a + 1) x
            rw [e, e, h1, h2]
            show Tr.n l v _ = Tr.n l v _
            rw [Tr.putF_comm hda hdb (by omega)]
    cases t with
    | e => exact key _ _ _
    | n l v r => exact key _ _ _
theorem Tr.put_comm {α : Type} {t : Tr α} {a b : Nat} {x y : Option α} (hab : a ≠ b) : (t.put a x).put b y = (t.put b y).put a x := by
  have e : ∀ (t : Tr α) (k : Nat) (z : Option α), k < a + b + 1 → t.put k z = Tr.putF (a + b + 1) t k z := fun t k z h => Tr.putF_enough (Nat.lt_succ_self _) h
  rw [e _ a _ (by omega), e _ b _ (by omega), e _ b _ (by omega), e _ a _ (by omega)]
  exact Tr.putF_comm (by omega) (by omega) hab
theorem store_val {q : Op} (hq : isSt q = true) {T : List V} {m m' : M} {s s' : S} {v : V} {b : Nat} (hb : addrB E T q = some b) (h : o1 q E rc T m s = .val v m' s') :
    v = undef ∧ m' = m ∧ ∃ (off : Nat) (cs vs : List V), ∀ s0 : S, s0.lo = s.lo → s0.heap.get b = s.heap.get b → ∃ c', s.heap.get b = some (.cells true c' cs) ∧ ∃ c2, o1 q E rc T m s0 = .val undef m (s0.put b (.cells true c' c2)) ∧ s' = s.put b (.cells true c' c2) := by
  cases q <;> first | (cases hq; done) | skip
  case store t a x =>
  have hw : ofVS (oStore t a x E T s) m = .val v m' s' := h
  cases hz : oStore t a x E T s with
  | none => rw [hz] at hw; cases hw
  | some q0 =>
  rw [hz] at hw
  obtain ⟨v0, s0'⟩ := q0
  cases hw
  obtain ⟨ti, hti, g1⟩ := bind_eq_some.1 hz
  obtain ⟨av, hav, g2⟩ := bind_eq_some.1 g1
  obtain ⟨xv, hxv, g3⟩ := bind_eq_some.1 g2
  obtain ⟨av', hav', hb⟩ := bind_eq_some.1 (show bind (opv E T a) ptrB = some b from hb)
  rw [hav] at hav'
  injection hav' with hav'
  subst hav'
  unfold ptrB at hb
  split at hb
  case h_2 => cases hb
  rename_i b' off
  injection hb with hb; subst hb
  have g3 : boolC (Nat.beq (len (cellsOf xv)) ti.size && oneL (cellsOf xv)) none (bind (s.store b' off (cellsOf xv)) fun s => some (undef, s)) = some _ := g3
  rw [boolC_eq] at g3
  split at g3
  case isFalse => cases g3
  rename_i hh
  obtain ⟨s1, hs1, g4⟩ := bind_eq_some.1 g3
  injection g4 with g4; injection g4 with q1 q2; subst q1; subst q2
  obtain ⟨tt, c, c2, hbb, hlo, hp, rfl⟩ := store_some hs1
  refine ⟨rfl, rfl, off, c, cellsOf xv, fun s0 hl hg => ⟨tt, hbb, c2, ?_, rfl⟩⟩
  show ofVS (oStore t a x E T s0) m = _
  have hst : s0.store b' off (cellsOf xv) = some (s0.put b' (.cells true tt c2)) := by
    unfold S.store
    rw [boolC_eq, if_neg (by
      have : ¬ b' < s0.lo := by omega
      simpa [Nat.blt_eq] using this), hg, hbb]
    show bind (putN c off (cellsOf xv)) (fun c' => some (s0.put b' (.cells true tt c'))) = _
    rw [hp]; rfl
  have : oStore t a x E T s0 = some (undef, s0.put b' (.cells true tt c2)) := by
    show bind (E.ti t) _ = _
    rw [hti]
    show bind (opv E T a) _ = _
    rw [hav]
    show bind (opv E T x) _ = _
    rw [hxv]
    show boolC (Nat.beq (len (cellsOf xv)) ti.size && oneL (cellsOf xv)) none (bind (s0.store b' off (cellsOf xv)) fun s => some (undef, s)) = _
    rw [boolC_eq, if_pos hh, hst]; rfl
  rw [this]; rfl
theorem swap_store (hn : NoClash all o p) (ho : isSt o.op = true) (hp : isSt p.op = true) {T : List V} {m : M} {s : S} (hap : apartO E T o p = true)
    (h1 : stepO E rc o (T, m, s) = some st1) (h2 : stepO E rc p st1 = some st2) : ∃ st3, stepO E rc p (T, m, s) = some st3 ∧ stepO E rc o st3 = some st2 := by
  unfold apartO at hap
  cases hb : addrB E T o.op with
  | none => rw [hb] at hap; cases hap
  | some b =>
  rw [hb, optC_some] at hap
  cases hc : addrB E T p.op with
  | none => rw [hc] at hap; cases hap
  | some c =>
  rw [hc, optC_some, boolC_eq] at hap
  split at hap
  case isTrue => cases hap
  rename_i hne
  have hne : b ≠ c := fun e => hne (by rw [e]; exact Nat.beq_refl c)
  unfold stepO at h1
  cases hw1 : o1 o.op E rc T m s with
  | fail => rw [hw1] at h1; cases h1
  | pan w m' s' => rw [hw1] at h1; cases h1
  | val v m1 s1 =>
  rw [hw1] at h1
  obtain ⟨hv1, hm1, off, cs, vs, hA⟩ := store_val ho hb hw1
  have hm1 := hm1.symm
  subst hv1; subst hm1
  have h1 : some (setD T o.dst undef, m, s1) = some st1 := h1
  injection h1 with h1; subst h1
  unfold stepO at h2
  have hcong : o1 p.op E rc (setD T o.dst undef) m s1 = o1 p.op E rc T m s1 := o1_congr (opv_setD_looks hn.xy)
  have h2 : (match o1 p.op E rc (setD T o.dst undef) m s1 with | .val v m s => some (setD (setD T o.dst undef) p.dst v, m, s) | _ => none) = some st2 := h2
  rw [hcong] at h2
  cases hw2 : o1 p.op E rc T m s1 with
  | fail => rw [hw2] at h2; cases h2
  | pan w m' s' => rw [hw2] at h2; cases h2
  | val w m2 s2 =>
  rw [hw2] at h2
  obtain ⟨hv2, hm2, off2, cs2, vs2, hB⟩ := store_val hp hc hw2
  have hm2 := hm2.symm
  subst hv2; subst hm2
  have h2 : some (setD (setD T o.dst undef) p.dst undef, m, s2) = some st2 := h2
  injection h2 with h2; subst h2
  obtain ⟨ta, ga, ca, ea, fa⟩ := hA s rfl rfl
  have hs1c : s1.heap.get c = s.heap.get c := by rw [fa]; rw [S.put_get, if_neg (Ne.symm hne)]
  have hlo1 : s.lo = s1.lo := by rw [fa]; rfl
  obtain ⟨tb, gb, cb, eb, fb⟩ := hB s hlo1 hs1c.symm
  obtain ⟨ta', ga', ca', ea', fa'⟩ := hA (s.put c (.cells true tb cb)) rfl (by rw [S.put_get, if_neg hne])
  refine ⟨(setD T p.dst undef, m, s.put c (.cells true tb cb)), ?_, ?_⟩
  · unfold stepO; rw [eb]
  · unfold stepO
    show (match o1 o.op E rc (setD T p.dst undef) m (s.put c (.cells true tb cb)) with | .val v m s => some (setD (setD T p.dst undef) o.dst v, m, s) | _ => none) = _
    rw [show o1 o.op E rc (setD T p.dst undef) m (s.put c (.cells true tb cb)) = o1 o.op E rc T m (s.put c (.cells true tb cb)) from o1_congr (opv_setD_looks hn.yx), ea']
    show some (setD (setD T p.dst undef) o.dst undef, m, (s.put c (.cells true tb cb)).put b (.cells true ta' ca')) = some (setD (setD T o.dst undef) p.dst undef, m, s2)
    have e1 : (B.cells true ta' ca') = .cells true ta ca := by
      have h3 : s.put b (.cells true ta' ca') = s.put b (.cells true ta ca) := fa'.symm.trans fa
      have h4 := congrArg (fun z : S => z.heap.get b) h3
      simp only [S.put_get, if_true] at h4
      exact Option.some.inj h4
    have e2 : s2 = (s.put b (.cells true ta ca)).put c (.cells true tb cb) := by rw [fb, fa]
    rw [e1, e2, setD_comm hn.dd]
    have e3 : (s.put c (.cells true tb cb)).put b (.cells true ta ca) = (s.put b (.cells true ta ca)).put c (.cells true tb cb) := by
      show (⟨(s.heap.put c (some (.cells true tb cb))).put b (some (.cells true ta ca)), s.next, s.lo⟩ : S) = ⟨(s.heap.put b (some (.cells true ta ca))).put c (some (.cells true tb cb)), s.next, s.lo⟩
      rw [Tr.put_comm (Ne.symm hne)]
    rw [e3]
theorem store_nopan {q : Op} (hq : isSt q = true) {T : List V} {m m' : M} {s s' : S} {v : V} (h : o1 q E rc T m s = .pan v m' s') : False := by
  cases q <;> first | (cases hq; done) | skip
  case store t a x =>
  have h : ofVS (oStore t a x E T s) m = .pan v m' s' := h
  cases hz : oStore t a x E T s with
  | none => rw [hz] at h; cases h
  | some q0 => rw [hz] at h; cases h
theorem runD_store {x : PE} {L : List PE} {T : List V} {m : M} {s : S} {r : R} (hx : x.cls = 0) (hs : isSt x.o.op = true) (hg : x.o.guard = none) (h : runD E rc all (x :: L) [] T m s = r) (hr : r ≠ .fail) :
    newsOk E all x T L = true ∧ ∃ st1, stepO E rc x.o (T, m, s) = some st1 ∧ runD E rc all L [] st1.1 st1.2.1 st1.2.2 = r := by
  have hw : wantedIn all T x.o.guard = true := by rw [hg]; rfl
  rw [runD_cons, dStep_want hw, dOne0 hx] at h
  unfold dFix at h
  cases hn : newsOk E all x T L with
  | false => rw [hn] at h; exact absurd h.symm hr
  | true =>
    rw [hn] at h
    have h : doOp x.o.op E rc T m s (fun v m s => boolC (recheck x.mask s []) .fail (runD E rc all L [] (setD T x.o.dst v) m s)) = r := h
    rw [doOp_eq] at h
    cases ho : o1 x.o.op E rc T m s with
    | fail => rw [ho] at h; exact absurd h.symm hr
    | pan v m1 s1 => exact (store_nopan hs ho).elim
    | val v m1 s1 =>
      rw [ho] at h
      have h : runD E rc all L [] (setD T x.o.dst v) m1 s1 = r := h
      exact ⟨rfl, (setD T x.o.dst v, m1, s1), by unfold stepO; rw [ho], h⟩
theorem runD_store' {x : PE} {T : List V} {m : M} {s : S} {st1 : Sx3} {r : R} (hx : x.cls = 0) (hg : x.o.guard = none) (h1 : stepO E rc x.o (T, m, s) = some st1) (h : R.norm st1.1 st1.2.1 st1.2.2 = r) : runD E rc all [x] [] T m s = r := by
  have hw : wantedIn all T x.o.guard = true := by rw [hg]; rfl
  rw [runD_cons, dStep_want hw, dOne0 hx]
  show doOp x.o.op E rc T m s (fun v m s => runD E rc all [] [] (setD T x.o.dst v) m s) = r
  rw [doOp_eq]
  unfold stepO at h1
  cases ho : o1 x.o.op E rc T m s with
  | fail => rw [ho] at h1; cases h1
  | pan v m1 s1 => rw [ho] at h1; cases h1
  | val v m1 s1 =>
    rw [ho] at h1
    injection h1 with h1
    subst h1
    exact h
theorem swap_front {x y : PE} (hx : x.cls = 0) (hy : y.cls = 0) (sx : isSt x.o.op = true) (sy : isSt y.o.op = true) (gx : x.o.guard = none) (gy : y.o.guard = none) (hb : bit y.mask x.i = false) (hn : NoClash all x.o y.o) {r : R} (hr : r ≠ .fail) :
    ∀ {L1 : List PE} {T : List V} {m : M} {s : S}, (∀ z ∈ L1, z.cls = 2 ∧ Ent z ∧ NoClash all z.o y.o) → runD E rc all (L1 ++ [x, y]) [] T m s = r →
      ∃ v m1 s1, o1 y.o.op E rc T m s = .val v m1 s1 ∧ runD E rc all (L1 ++ [x]) [] (setD T y.o.dst v) m1 s1 = r
  | [], T, m, s, _, h => by
    obtain ⟨hnw, st1, h1, h⟩ := runD_store hx sx gx h hr
    have ha : newOk E all x T y = true := newsOk_all hnw y (by simp)
    have ha : apartO E T x.o y.o = true := by
      unfold newOk at ha
      rw [hy, hb] at ha
      exact ha
    obtain ⟨_, st2, h2, h⟩ := runD_store hy sy gy h hr
    obtain ⟨st3, h3, h4⟩ := swap_store hn sx sy ha h1 h2
    unfold stepO at h3
    cases ho : o1 y.o.op E rc T m s with
    | fail => rw [ho] at h3; cases h3
    | pan v m1 s1 => rw [ho] at h3; cases h3
    | val v m1 s1 =>
      rw [ho] at h3
      injection h3 with h3
      subst h3
      exact ⟨v, m1, s1, rfl, runD_store' hx gx h4 h⟩
  | z :: L1, T, m, s, hz, h => by
    obtain ⟨hc, he, hnz⟩ := hz z (by simp)
    have h : runD E rc all (z :: (L1 ++ [x, y])) [] T m s = r := h
    obtain ⟨u, hu, ⟨h3, h⟩ | ⟨hw1, h3, f, hf, h⟩⟩ := runD_head (by omega) he h hr
    · obtain ⟨v, m1, s1, ho, h⟩ := swap_front hx hy sx sy gx gy hb hn hr (fun w hw => hz w (by simp [hw])) h
      rw [o1_congr (opv_setD_looks hnz.xy)] at ho
      refine ⟨v, m1, s1, ho, ?_⟩
      show runD E rc all (z :: (L1 ++ [x])) [] (setD T y.o.dst v) m1 s1 = r
      refine runD_head' (by omega) ((hu.pure0 he hc s1).setD hnz.yx) ?_ (.inl (by omega))
      rw [← setD_comm hnz.dd]
      exact h
    · omega
end
end Go.AM
end
section
namespace Go.AM
open Go
section
variable {E : Env} {P : Program} {rc : Rec} {Fit : (Nat → Prop) → Code → Prop} {K : List Nat} {ops : Array Oper} {b : Frame} {ck : CK} {A0 : Al} {s0 : S} {μ0 : Mu} {W0 : World} {r : R} {All L0 : List PE}
variable {listed : Array Bool} {fuel : Nat} {Lr : List PE} {pend : List Pd} {A A' : Al} {T : List V} {m : M} {s : S} {μ : Mu} {W W' : World} {a : Act} {H : List HE} {act : Act} {x y : PE} {L1 L2 : List PE}
theorem PdOk.lt {p : Pd} (h : PdOk E ops.toList A0 W0 A s μ W T p) (ho : p.ob.isSome = true) : p.β < W.heap.size := by
  cases h with
  | skip _ q _ => rw [q] at ho; cases ho
  | none _ q _ _ => rw [q] at ho; cases ho
  | some _ _ _ _ h1 _ _ _ _ _ _ => exact h1
section comes
variable (C : Comes E P rc K ops b ck A0 s0 μ0 W0 r All L0 listed fuel L1 y L2 pend A T m s μ W a H act) (pl : Plan K ops All L0) (hAll : ∀ e ∈ L0, e ∈ All)
include C pl hAll
theorem Comes.pended (hreach : Reach E A0 s0 μ0 W0 A' s μ W') (V : VExt μ μ (St A s μ W) (St A' s μ W') W W') (hs : W.heap.size ≤ W'.heap.size) (hk : ∀ β, β < W.heap.size → ¬ A β → W'.heap[β]? = W.heap[β]? ∧ ¬ A' β)
    {p : Pd} (hpy : p.e = y) (hc : y.cls = 1) (hp : PdOk E ops.toList A0 W0 A' s μ W' T p) (hβ : p.ob.isSome = true → W.heap.size ≤ p.β) :
    Inv E P rc K ops b ck A0 s0 μ0 W0 r All L0 (listed.setIfInBounds y.i true) fuel (L1 ++ y :: L2) (pend ++ [p]) A' T m s μ W' a H (act.put y.o.dst p.x) := by
  have I := C.I
  have hyL : y ∈ L1 ++ y :: L2 := by simp
  have hlt : y.i < listed.size := I.lsize ▸ (I.ent pl hyL).lt
  refine ⟨hreach, I.fr.vext V, I.sub, fun q hq => ?_, fun q hq => ?_, ?_, fun q hq q' hq' => ?_, ?_, fun j hj => ?_, by simp [I.lsize], I.dc' pl hyL C.now, I.run, ?_, fun N1 z N2 e hz hl x hx hxL => ?_⟩
  · rcases List.mem_append.1 hq with hq | hq
    · exact I.pmem q hq
    · simp at hq; subst hq; rw [hpy]; exact ⟨hyL, hc⟩
  · rcases List.mem_append.1 hq with hq | hq
    · exact (I.pok q hq).step V hs (fun _ h1 h2 => hk _ h1 h2) rfl rfl
    · simp at hq; subst hq; exact hp
  · rw [List.pairwise_append]
    refine ⟨I.pdist, List.pairwise_singleton _ _, fun q hq q' hq' => ?_⟩
    simp at hq'; subst hq'
    refine ⟨fun e => C.np q hq (I.uniq pl (I.pmem q hq).1 hyL (by rw [e, hpy])), fun h1 h2 => ?_⟩
    have := (I.pok q hq).lt h1
    have := hβ h2
    omega
  · rcases List.mem_append.1 hq with h1 | h1 <;> rcases List.mem_append.1 hq' with h2 | h2
    · exact I.pind q h1 q' h2
    · have e : q' = p := by simpa using h2
      rw [e, hpy]; exact (C.pbit pl hAll h1).1
    · have e : q = p := by simpa using h1
      rw [e, hpy]; exact (C.pbit pl hAll h2).2
    · have e : q = p := by simpa using h1
      have e' : q' = p := by simpa using h2
      rw [e, e', hpy]; exact pl.own y (I.sub.subset hyL)
  · rw [hid_append, ← I.act, ← hpy]; rfl
  · rw [getD_set hlt]
    constructor
    · intro h
      split at h
      · cases h
      · rename_i hji
        obtain ⟨e, he, hej, hq⟩ := (I.hL j hj).1 h
        refine ⟨e, he, hej, fun q hq' => ?_⟩
        rcases List.mem_append.1 hq' with hq' | hq'
        · exact hq q hq'
        · simp at hq'; subst hq'; rw [hpy]; exact fun e => hji e.symm
    · rintro ⟨e, he, hej, hq⟩
      have hji : ¬ (j = y.i) := fun e' => hq p (by simp) (by rw [hpy, e'])
      rw [if_neg hji]
      exact (I.hL j hj).2 ⟨e, he, hej, fun q hq' => hq q (by simp [hq'])⟩
  · have h := I.len
    rw [List.countP_append, List.countP_cons, C.now.un] at h
    have hne : ∀ e ∈ L1 ++ L2, e.i ≠ y.i := by
      obtain ⟨hp1, hp2⟩ := I.pair pl (L1 := L1) (y := y) (L2 := L2) rfl
      intro e he
      rcases List.mem_append.1 he with he | he
      · exact (pairOk_ne (hp1 e he)).1
      · exact fun h => (pairOk_ne (hp2 e he)).1 h.symm
    have e : ∀ l : List PE, (∀ x ∈ l, x.i ≠ y.i) → (l.countP fun x => !(listed.setIfInBounds y.i true).getD x.i true) = l.countP fun x => !listed.getD x.i true := fun l hl =>
      List.countP_congr fun x hx => by rw [getD_set hlt, if_neg (hl x hx)]
    rw [List.countP_append, List.countP_cons, e L1 fun x hx => hne x (by simp [hx]), e L2 fun x hx => hne x (by simp [hx]), getD_set hlt, if_pos rfl]
    simp only [Bool.not_false, if_true] at h
    simp only [Bool.not_true, Bool.false_eq_true, if_false]
    omega
  · rw [getD_set hlt] at hl
    by_cases hzy : z.i = y.i
    · have hzy : z = y := pairwise_uniq (pl.pw.imp fun h => (pairOk_ne h).1) (by rw [e]; simp) (I.sub.subset hyL) hzy
      rw [hzy, hc] at hz; cases hz
    · rw [if_neg hzy] at hl
      exact I.fixd N1 z N2 e hz hl x hx hxL
theorem Comes.new (ok : EnvOk E P) (hr : r ≠ .fail) (rest : List Nat) (hc : y.cls = 1) : ∃ p A' W', Inv E P rc K ops b ck A0 s0 μ0 W0 r All L0 (listed.setIfInBounds y.i true) fuel (L1 ++ y :: L2) (pend ++ [p]) A' T m s μ W' a H (act.put y.o.dst p.x) ∧
    ∀ base, Bs ck base → ∀ k, Steps P (lone (b.atR act (.inRegion ops (y.i :: rest) :: k)) (csOf m base) W) (lone (b.atR (act.put y.o.dst p.x) (.inRegion ops rest :: k)) (csOf m base) W') := by
  have I := C.I
  have hent := I.ent pl (x := y) (by simp)
  cases hw : wantedIn ops.toList T y.o.guard with
  | false =>
    refine ⟨⟨y, Go.undef, none, fun _ => undef, 0, default⟩, A, W, C.pended pl hAll I.reach ⟨fun _ _ h => h, fun _ h => ⟨h, rfl⟩, fun _ _ _ _ => rfl⟩ (Nat.le_refl _) (fun _ _ h => ⟨rfl, h⟩) rfl hc (.skip hw rfl rfl) (fun h => by cases h), fun base hB k => .one ?_⟩
    have h := stepR_op_skip (P := P) (b := b) (a := act) (k := k) (cs := csOf m base) (w := W) (ops := ops) (i := y.i) (rest := rest) (by
      rw [C.now.at_]
      show Region.wanted y.o (yielded ops act.tmps) = false
      rw [I.act, hid_wanted (fun p hp t ht => (C.pnc pl hAll hp).yx t ht), ← wanted_eq I.fr.tmps]; exact hw)
    rw [C.now.at_] at h
    exact h
  | true =>
    obtain ⟨⟨ob, mk⟩, ha⟩ := new_now hc (fun x hx => ⟨(I.ent pl (x := x) (by simp [hx])).cls, (C.ahead pl hAll hx).2.nc, (C.ahead pl hAll hx).1⟩) I.run hr hw
    have hs : ∀ cs bb, y.o.op ≠ .select cs bb := fun cs bb e => by rw [e] at ha; cases ha
    have G := C.gok pl hAll (KK := fun _ => False) hs hw (fun _ _ _ _ h => h)
    obtain ⟨xs, hsem, xv, hx⟩ := aShape_sound (W := W) ok I.reach.R I.fr.tmps ha b.roundOf
    have hst : ∀ W1, xs.run P W = .ok xv W1 → ∀ base, Bs ck base → ∀ k, Steps P (lone (b.atR act (.inRegion ops (y.i :: rest) :: k)) (csOf m base) W) (lone (b.atR (act.put y.o.dst xv) (.inRegion ops rest :: k)) (csOf m base) W1) := by
      intro W1 hrun base hB k
      refine .one (step_plain C.now.at_ (by rw [I.act]; exact G.wanted) (nx := .value xv) ?_ (.inl rfl))
      rw [I.act, G.sem, hsem]
      simp [hrun]
    cases ob with
    | none =>
      obtain ⟨⟨W1, hrun, hW⟩, hv⟩ := hx
      rcases hW with rfl | ⟨o, rfl⟩
      · exact ⟨⟨y, xv, none, mk, 0, default⟩, A, W1, C.pended pl hAll I.reach ⟨fun _ _ h => h, fun _ h => ⟨h, rfl⟩, fun _ _ _ _ => rfl⟩ (Nat.le_refl _) (fun _ _ h => ⟨rfl, h⟩) rfl hc (.none hw rfl ha hv) (fun h => by cases h), hst _ hrun⟩
      · obtain ⟨X, R1⟩ := I.reach.R.junk o
        exact ⟨⟨y, xv, none, mk, 0, default⟩, A, _, C.pended pl hAll (I.reach.step X.toA R1) (X.vext I.reach.R) X.size (fun β hβ h => ⟨World.add_old W o hβ, h⟩) rfl hc (.none hw rfl ha hv) (fun h => by cases h), hst _ hrun⟩
    | some B =>
      obtain ⟨obj, hrun, hm, h6, h7⟩ := hx
      obtain ⟨Re, V⟩ := I.reach.aside obj
      have hsz : (World.add W obj).heap.size = W.heap.size + 1 := by simp [World.add]
      refine ⟨⟨y, xv, some B, mk, W.heap.size, obj⟩, _, _, C.pended pl hAll Re V (by omega) (fun β hβ h => ⟨World.add_old W obj hβ, fun h' => h h'.1⟩) rfl hc (.some B hw rfl ha (by show W.heap.size < _; omega) (World.add_new W obj) (fun h => h.2 rfl) (I.reach.sub _ (I.reach.R.new _ (Nat.le_refl _))) I.reach.X.size h6 fun μ2 Sx2 W2 Y => h7 μ2 Sx2 W2 (V.trans Y)) (fun _ => Nat.le_refl _), hst _ hrun⟩
end comes
theorem pure_op {y : PE} (he : Ent y) (hc : 2 ≤ y.cls) : ∀ cs bb, y.o.op ≠ .select cs bb := fun cs bb e => by
  rw [he, e] at hc; exact absurd hc (by show ¬ (2 ≤ 0); decide)
theorem draw_sim (ok : EnvOk E P) (hrc : RecOk E P Fit rc) (hy : YieldOk E P rc) (pl : Plan K ops All L0) (hAll : ∀ e ∈ L0, e ∈ All) (R0 : Rel E A0 s0 μ0 W0) (hr : r ≠ .fail) {md : Region.Mode} (htopo : Topo md ops) : ∀ (fuel t : Nat) {listed : Array Bool} {Lr : List PE} {pend : List Pd} {A : Al} {T : List V} {m : M} {s : S} {μ : Mu} {W : World} {a : Act} {act : Act},
    Inv E P rc K ops b ck A0 s0 μ0 W0 r All L0 listed fuel Lr pend A T m s μ W a [] act →
    Good E P A0 (KP K) b ck s0 μ0 W0 (fun base k => lone (b.atR act (.inRegion ops (Region.linearise.go md ops fuel t listed []) :: k)) (csOf m base) W) r := by
  intro fuel
  induction fuel with
  | zero =>
    intro t listed Lr pend A T m s μ W a act I
    have hall : ∀ x ∈ Lr, ∃ p ∈ pend, p.e = x := by
      intro x hx
      by_cases h : ∃ p ∈ pend, p.e = x
      · exact h
      · exfalso
        have := I.notlisted pl hx fun p hp e => h ⟨p, hp, e⟩
        have hl := List.countP_eq_zero.1 I.len x hx
        rw [this] at hl; exact hl rfl
    have I0 : Inv E P rc K ops b ck A0 s0 μ0 W0 r All L0 listed 0 ([] ++ (Lr ++ [])) pend A T m s μ W a [] act := by simpa using I
    obtain ⟨A1, T1, s1, μ1, a1, pend1, N1, I1, hN, _, hN1, _⟩ := Inv.resolve pl hAll hr Lr [] I0 (fun x hx => by cases hx) fun x hx => .inr (hall x hx)
    have hnil : N1 = [] := by
      cases N1 with
      | nil => rfl
      | cons z N1 =>
        exfalso
        obtain ⟨p, hp, hpz⟩ := hall z (by simpa using hN1 z (by simp))
        have h1 := (I.pmem p hp).2
        have h2 := hN z (by simp)
        rw [hpz] at h1; omega
    subst hnil
    have hpn : pend1 = [] := by
      cases pend1 with
      | nil => rfl
      | cons p _ => have := (I1.pmem p (by simp)).1; simp at this
    subst hpn
    have hrun : R.norm T1 m s1 = r := I1.run
    subst hrun
    have V : VExt μ1 μ1 (St A1 s1 μ1 W) (St A0 s1 μ1 W) W W := ⟨fun _ _ h => h, fun β h => ⟨⟨I1.reach.sub β h.1, h.2⟩, rfl⟩, fun _ _ _ _ => rfl⟩
    refine ⟨μ1, W, a1, I1.reach.X, I1.reach.R.mono I1.reach.sub fun β hβ => R0.new β (Nat.le_trans I1.reach.X.size hβ), I1.fr.vext V, fun base hB k => .one ?_⟩
    have : act = a1 := I1.act
    subst this
    exact stepR_region_end
  | succ fuel ih =>
    intro t listed Lr pend A T m s μ W a act I
    rw [go_succ]
    have hne := I.some_ready pl htopo
    cases hi : (Region.ready md ops listed)[t % (Region.ready md ops listed).length]? with
    | none =>
      exfalso
      have hlen : 0 < (Region.ready md ops listed).length := List.length_pos_iff.2 hne
      have := List.getElem?_eq_none_iff.1 hi
      have := Nat.mod_lt t hlen
      omega
    | some i =>
      dsimp only
      obtain ⟨o, ho, hun, hed⟩ := ready_now (List.mem_of_getElem? hi)
      have hilt : i < ops.size := (Array.getElem?_eq_some_iff.1 ho).1
      obtain ⟨y, hyL, hyi, hnp⟩ := (I.hL i hilt).1 hun
      have hent := I.ent pl hyL
      have hyo : y.o = o := by
        have := hent.at_
        rw [hyi] at this
        have h2 : ops.toList[i]? = some o := by simpa using ho
        rw [h2] at this; exact (Option.some.inj this).symm
      subst hyi
      subst hyo
      have hnow : Now ops listed y := ⟨ho, hun, hed⟩
      have hmask := I.mask_listed hent hed
      have hnp' : ∀ p ∈ pend, p.e ≠ y := fun p hp e => hnp p hp (by rw [e])
      obtain ⟨L1, L2, hL⟩ := List.append_of_mem hyL
      generalize hrest : Region.linearise.go md ops fuel (t / (Region.ready md ops listed).length) (listed.setIfInBounds y.i true) [] = rest
      -- what stands ahead is taken over
      have hcomes : ∃ L1' L2 pend' A' T' s' μ' a', Comes E P rc K ops b ck A0 s0 μ0 W0 r All L0 listed fuel L1' y L2 pend' A' T' m s' μ' W a' [] act ∧
          ((y.cls = 0 → ∀ x ∈ L1', 2 ≤ x.cls) ∨ ∃ N x, L1' = N ++ [x] ∧ L2 = [] ∧ (∀ z ∈ N, z.cls = 2) ∧ StP x y ∧ bit y.mask x.i = false ∧ NoClash ops.toList x.o y.o) := by
        subst hL
        by_cases hsw : y.cls = 0 ∧ ∃ x ∈ L1, x.cls = 0 ∧ bit y.mask x.i = false
        · obtain ⟨hy0, x, hxL, hx0, hxb⟩ := hsw
          have hlo := pairOk_loose ((I.pair pl rfl).1 x hxL) hxb
          have hst : StP x y := (hlo.c2 hx0).resolve_left (by omega)
          obtain ⟨L1a, L1b, rfl⟩ := List.append_of_mem hxL
          have hs := I.sub
          obtain ⟨M1, M2, g1, g2, g3⟩ := List.append_sublist_iff.1 hs
          obtain ⟨N1, N2, g4, g5, g6⟩ := List.cons_sublist_iff.1 g3
          obtain ⟨Q1, Q2, g7⟩ := List.append_of_mem g5
          obtain ⟨A1, A2, e1, e2, e3⟩ := List.append_sublist_iff.1 g2
          obtain ⟨B1, B2, e4, e5, e6⟩ := List.cons_sublist_iff.1 e3
          obtain ⟨C1, C2, e7⟩ := List.append_of_mem e5
          obtain ⟨l1, l2, l3⟩ := pl.last (A1 ++ C1) x (C2 ++ B2 ++ Q1) y (Q2 ++ N2) (by rw [g1, e1, e4, e7, g4, g7]; simp) hx0 hy0 hxb
          have hB2 : B2 = [] := (List.append_eq_nil_iff.1 (List.append_eq_nil_iff.1 l1).1).2
          have hN2 : N2 = [] := (List.append_eq_nil_iff.1 l2).2
          rw [hB2, List.sublist_nil] at e6
          rw [hN2, List.sublist_nil] at g6
          subst e6; subst g6
          have hLa : ∀ z ∈ L1a, z.cls = 2 ∨ bit y.mask z.i = true := fun z hz => (l3 z (List.mem_append_left _ (e2.subset hz))).imp id fun h => h.2
          have I0 : Inv E P rc K ops b ck A0 s0 μ0 W0 r All L0 listed (fuel + 1) ([] ++ (L1a ++ [x, y])) pend A T m s μ W a [] act := by simpa using I
          have hpe : ∀ z ∈ L1a, bit y.mask z.i = true → ∃ p ∈ pend, p.e = z := fun z hz hzb => by
            by_cases hex : ∃ p ∈ pend, p.e = z
            · exact hex
            · have := I.unbit pl (x := z) (by simp [hz]) (fun p hp e => hex ⟨p, hp, e⟩) hmask
              rw [this] at hzb; cases hzb
          obtain ⟨A1', T1, s1, μ1, a1, pend1, N', I1, hN, hp1, hN1, _⟩ := Inv.resolve pl hAll hr L1a [] I0 (fun x hx => by cases hx) fun z hz => (hLa z hz).imp (fun h => by omega) (hpe z hz)
          have hN2' : ∀ z ∈ N', z.cls = 2 := fun z hz => by
            have hzL : z ∈ L1a := by simpa using hN1 z hz
            rcases hLa z hzL with h | h
            · exact h
            · obtain ⟨p, hp, hpz⟩ := hpe z hzL h
              have h1 := (I.pmem p hp).2
              have h2 := hN z hz
              rw [hpz] at h1; omega
          refine ⟨N' ++ [x], [], pend1, A1', T1, s1, μ1, a1, ⟨by simpa using I1, hnow, fun p hp => hnp' p (hp1 p hp), hmask, fun z hz hc => ?_, fun _ z hz => ?_⟩, .inr ⟨N', x, rfl, rfl, hN2', hst, hxb, hlo.nc⟩⟩
          · rcases List.mem_append.1 hz with h | h
            · have := hN2' z h; omega
            · have e : z = x := by simpa using h
              rw [e] at hc; omega
          · rcases List.mem_append.1 hz with h | h
            · have := hN2' z h; omega
            · have e : z = x := by simpa using h
              rw [e]; omega
        by_cases hdep : y.cls = 0 ∨ ∃ x ∈ L1, x.cls = 1 ∧ bit y.mask x.i = true
        · have hb : ∀ z ∈ L1, 2 ≤ z.cls ∨ bit y.mask z.i = true := by
            rcases hdep with h0 | ⟨x, hx, hxc, hxb⟩
            · intro z hz
              cases hzb : bit y.mask z.i with
              | true => exact .inr rfl
              | false =>
                left
                have hl := pairOk_loose ((I.pair pl rfl).1 z hz) hzb
                rcases Nat.lt_or_ge z.cls 2 with h | h
                · exfalso
                  rcases Nat.lt_or_ge z.cls 1 with h' | h'
                  · exact hsw ⟨h0, z, hz, by omega, hzb⟩
                  · exact (hl.c34 (by omega)).1 h0
                · exact h
            · exact I.dep pl rfl hmask hx hxc hxb
          have I0 : Inv E P rc K ops b ck A0 s0 μ0 W0 r All L0 listed (fuel + 1) ([] ++ (L1 ++ y :: L2)) pend A T m s μ W a [] act := by simpa using I
          obtain ⟨A1, T1, s1, μ1, a1, pend1, N1, I1, hN, hp1, hN1, _⟩ := Inv.resolve pl hAll hr L1 [] I0 (fun x hx => by cases hx) (I.ahead pl rfl hmask hb)
          exact ⟨N1, L2, pend1, A1, T1, s1, μ1, a1, ⟨I1, hnow, fun p hp => hnp' p (hp1 p hp), hmask, fun x hx hc => by have := hN x hx; omega, fun _ x hx => by have := hN x hx; omega⟩, .inl fun _ => hN⟩
        · exact ⟨L1, L2, pend, A, T, s, μ, a, ⟨I, hnow, hnp', hmask, fun x hx hc => (by
            cases hxb : bit y.mask x.i with
            | false => rfl
            | true => exact absurd (.inr ⟨x, hx, hc, hxb⟩) hdep), fun h0 => absurd (.inl h0) hdep⟩, .inl fun h0 => absurd (.inl h0) hdep⟩
      clear hL hyL hent hnp hnp' I L2
      obtain ⟨L1', L2, pend', A', T', s', μ', a', C, hway⟩ := hcomes
      have hent := C.I.ent pl (x := y) (by simp)
      have done : ∀ {Lr2 : List PE} {pend2 : List Pd} {A2 : Al} {T2 : List V} {m2 : M} {s2 : S} {μ2 : Mu} {W2 : World} {a2 : Act} {act2 : Act}, Inv E P rc K ops b ck A0 s0 μ0 W0 r All L0 (listed.setIfInBounds y.i true) fuel Lr2 pend2 A2 T2 m2 s2 μ2 W2 a2 [] act2 →
          (∀ base, Bs ck base → ∀ k, Steps P (lone (b.atR act (.inRegion ops (y.i :: rest) :: k)) (csOf m base) W) (lone (b.atR act2 (.inRegion ops rest :: k)) (csOf m2 base) W2)) →
          Good E P A0 (KP K) b ck s0 μ0 W0 (fun base k => lone (b.atR act (.inRegion ops (y.i :: rest) :: k)) (csOf m base) W) r := by
        intro Lr2 pend2 A2 T2 m2 s2 μ2 W2 a2 act2 I2 hst
        have := ih (t / (Region.ready md ops listed).length) I2
        rw [hrest] at this
        exact this.head' R0 hst
      rcases Nat.lt_or_ge y.cls 2 with hc | hc
      · rcases Nat.lt_or_ge y.cls 1 with hc0 | hc1
        · have h0 : y.cls = 0 := by omega
          have hrun := C.I.run
          rcases hway with hway | ⟨N', x, rfl, rfl, hN2, hst, hxb, hnc⟩
          case inr =>
            have hz : ∀ z ∈ N', z.cls = 2 ∧ Ent z ∧ NoClash ops.toList z.o y.o := fun z hz => ⟨hN2 z hz, (C.I.ent pl (x := z) (by simp [hz])).cls, (C.ahead pl hAll (x := z) (by simp [hz])).2.nc⟩
            have hrun : runD E rc ops.toList (N' ++ [x, y]) [] T' m s' = r := by simpa using hrun
            obtain ⟨v, m1, s1, ho, hrun'⟩ := swap_front hst.x0 hst.y0 hst.sx hst.sy hst.gx hst.gy hxb hnc hr hz hrun
            have hw : wantedIn ops.toList T' y.o.guard = true := by rw [hst.gy]; rfl
            have G := C.gok pl hAll (KK := KP K) (not_select (.inr (by rw [ho]; exact fun h => nomatch h))) hw fun p hp t ht hk => by
              have hm := (C.I.pmem p hp).1
              have h2 := (C.I.pmem p hp).2
              rcases List.mem_append.1 hm with h | h
              · rcases List.mem_append.1 h with h | h
                · have := hN2 _ h; omega
                · have e : p.e = x := by simpa using h
                  rw [e, hst.x0] at h2; cases h2
              · have e : p.e = y := by simpa using h
                exact C.np p hp e
            have hop := doOp_ok (rest := rest) (m := m) ok hrc hy C.I.reach.R C.I.fr C.now.at_ G
            rw [ho] at hop
            obtain ⟨μ2, W2, a2, act2, I2, hst2⟩ := C.val pl hAll rest hop (by simpa using hrun')
            exact done I2 hst2
          rcases fix_front (KK := KP K) h0 (fun x hx => ⟨hway h0 x hx, (C.I.ent pl (x := x) (by simp [hx])).cls, (C.ahead pl hAll hx).2.nc, (C.ahead pl hAll hx).1, fun t ht hk => (C.ahead pl hAll hx).2.k2 h0 t hk ht⟩) hrun hr with ⟨hw, hrun'⟩ | ⟨hw, hrun'⟩
          · obtain ⟨I2, hst⟩ := C.skip pl hAll rest hw hrun'
            exact done I2 hst
          · by_cases hfail : o1 y.o.op E rc T' m s' = .fail
            · rw [hfail] at hrun'; exact hrun'.elim
            · have G := C.gok pl hAll (KK := KP K) (not_select (.inr hfail)) hw fun p hp t ht hk => by
                have hm := (C.I.pmem p hp).1
                rcases List.mem_append.1 hm with h | h
                · have h1 := hway h0 _ h
                  have h2 := (C.I.pmem p hp).2
                  omega
                · rcases List.mem_cons.1 h with h | h
                  · exact C.np p hp h
                  · exact (pairOk_loose ((C.I.pair pl rfl).2 _ h) (C.pbit pl hAll hp).2).k1 h0 t hk ht
              have hop := doOp_ok (rest := rest) (m := m) ok hrc hy C.I.reach.R C.I.fr C.now.at_ G
              cases hx : o1 y.o.op E rc T' m s' with
              | fail => exact absurd hx hfail
              | val v m1 s1 =>
                rw [hx] at hop hrun'
                obtain ⟨μ2, W2, a2, act2, I2, hst⟩ := C.val pl hAll rest hop hrun'.2
                exact done I2 hst
              | pan v m1 s1 =>
                rw [hx] at hop hrun'
                obtain ⟨T2, rfl, hT⟩ := hrun'
                have hop : Good E P A' (KP K) b ck s' μ' W (fun base k => lone (b.atR (hid pend' a') (.inRegion ops (y.i :: rest) :: k)) (csOf m base) W) (.pan v T' m1 s1) := hop
                rw [← C.I.act] at hop
                have hop2 := hop.head2 (A := A0) C.I.reach.X C.I.reach.sup C.I.reach.sub R0.new C.I.reach.R (fun _ _ _ => .refl _ _)
                obtain ⟨μ3, W3, a3, vx, q1, q2, q3, q4, q5⟩ := hop2
                exact ⟨μ3, W3, a3, vx, q1, q2, ⟨fun t w hk hw => q3.tmps t w hk (by rw [← hT t hk]; exact hw), q3.df, q3.rnd, q3.kind, q3.caller⟩, q4, q5⟩
        · obtain ⟨p, A2, W2, I2, hst⟩ := C.new pl hAll ok hr rest (by omega)
          exact done I2 hst
      · have hrun := C.I.run
        obtain ⟨v, hv, hrun'⟩ := pure_front hc hent.cls (fun x hx => by
          have ha := (C.ahead pl hAll hx).2
          refine ⟨?_, (C.I.ent pl (x := x) (by simp [hx])).cls, ha.nc, fun h1 => ?_⟩
          · rcases Nat.lt_or_ge x.cls 1 with h | h
            · rcases ha.c2 (by omega) with h | h
              · omega
              · have := h.y0; omega
            · exact h
          · have := (ha.c34 h1).2
            have := C.cl pl hAll
            omega) hrun hr
        rcases hv with ⟨hw, rfl⟩ | ⟨hw, f, hf, hfv⟩
        · obtain ⟨I2, hst⟩ := C.skip pl hAll rest hw hrun'
          exact done I2 hst
        · have G := C.gok pl hAll (KK := fun _ => False) (pure_op hent.cls hc) hw (fun _ _ _ _ h => h)
          have hop := doOp_ok (rest := rest) (m := m) ok hrc hy C.I.reach.R C.I.fr C.now.at_ G
          rw [pF_o1 (by rw [← hent.cls]; exact hc) hf, hfv] at hop
          obtain ⟨μ2, W2, a2, act2, I2, hst⟩ := C.val pl hAll rest hop hrun'
          exact done I2 hst
theorem exec_region_draw (ok : EnvOk E P) (hrc : RecOk E P Fit rc) (hy : YieldOk E P rc) {id : Nat} {A : Al} (hsw : swpTest ops.toList = false) (hd : drawOk K ops.toList = true) : CodeOk E P A (KP K) (exec (.region id ops true) E rc) (.code (.region id ops true)) := by
  intro T m s μ W b ck a R F
  show Good E P A (KP K) b ck s μ W _ (boolC (swpTest ops.toList) (runD E rc ops.toList (planOf ops.toList) [] T m s) (runS E rc ops.toList T m s))
  rw [hsw, boolC_false]
  by_cases hr : runD E rc ops.toList (planOf ops.toList) [] T m s = .fail
  · rw [hr]; trivial
  · have pl := planOf_plan hd
    have Xd := (Ext.drew s μ W (W.drawn + 1)).toA (A := A)
    have Rd := R.drew (W.drawn + 1)
    have hgl : ∀ {n i : Nat}, i < n → (Array.replicate n false).getD i true = false := fun {n i} h => by
      rw [Array.getD_eq_getD_getElem?, Array.getElem?_replicate, if_pos h]; rfl
    have I : Inv E P rc K ops b ck A s μ { W with drawn := W.drawn + 1 } (runD E rc ops.toList (planOf ops.toList) [] T m s) (pesF ops.toList 0 []) (planOf ops.toList) (Array.replicate ops.size false) ops.size (planOf ops.toList) [] A T m s μ { W with drawn := W.drawn + 1 } a [] a := by
      refine ⟨⟨ExtA.refl _ _ _ _, fun _ h => h, fun _ _ h => h, Rd⟩, F.ext R Xd, List.Sublist.refl _, fun p hp => (by cases hp), fun p hp => (by cases hp), .nil, fun p hp => (by cases hp), rfl, fun j hj => ?_, by simp, fun e he hl => ?_, rfl, ?_, fun N1 z N2 e hz hl => ?_⟩
      · rw [hgl hj]
        obtain ⟨e, he, hej⟩ := pl.cover j hj
        exact ⟨fun _ => ⟨e, he, hej, fun p hp => (by cases hp)⟩, fun _ => rfl⟩
      · rw [hgl (pl.all e he).lt] at hl; cases hl
      · rw [← pl.len, List.countP_eq_length]
        intro e he
        have := (pl.ent e he).lt
        rw [pl.len, hgl this]; rfl
      · rw [hgl (pl.ent z (by rw [e]; simp)).lt] at hl; cases hl
    have h := fun md t => draw_sim (md := md) ok hrc hy pl (fun e he => planF_sub e he) Rd hr (drawOk_topo hd md) ops.size t I
    have hs : ∃ md t, Region.schedule (P.follows .mixedOrders) ops (W.tape W.drawn (.order b.fn id)) = Region.linearise.go md ops ops.size t (Array.replicate ops.size false) [] := by
      unfold Region.schedule
      split
      · exact ⟨_, _, rfl⟩
      · exact ⟨_, _, rfl⟩
    obtain ⟨md, t, hs⟩ := hs
    refine (h md t).head Xd Rd fun base hB k => .one ?_
    have := stepR_region_draw (P := P) (b := b) (a := a) (k := k) (cs := csOf m base) (w := W) (ops := ops) (id := id)
    rw [hs] at this
    exact this
end
end Go.AM
end
section
namespace Go.AM
open Go
section
variable {E : Env} {rc : Rec} {all : List Oper} {o p : Oper} {st st' st1 st2 : Sx3} {r : Sx3}
structure Sw (all : List Oper) (o p : Oper) : Prop where
  nc : NoClash all o p
  po : 2 ≤ cls o.op
  how : 2 ≤ cls p.op ∨ cls p.op = 1 ∨ (cls o.op = 2 ∧ isSt p.op = true)
theorem to_front {p : Oper} {B : List Oper} : ∀ {A : List Oper} {T : List V} {m : M} {s : S} {r : Sx3}, (∀ o ∈ A, Sw all o p) → (cls p.op = 1 → s.heap.get s.next = none) → runI E rc (A ++ p :: B) (T, m, s) = some r → runI E rc (p :: (A ++ B)) (T, m, s) = some r
  | [], T, m, s, r, _, _, h => h
  | o :: A, T, m, s, r, hA, hf, h => by
    obtain ⟨st1, h1, h2⟩ := Option.bind_eq_some_iff.1 (show (stepO E rc o (T, m, s)).bind (runI E rc (A ++ p :: B)) = some r from h)
    have hs := hA o (by simp)
    obtain ⟨f, v, hf1, hv, rfl⟩ := step_pure hs.po h1
    have h3 := to_front (fun o ho => hA o (by simp [ho])) hf h2
    obtain ⟨st2, h4, h5⟩ := Option.bind_eq_some_iff.1 (show (stepO E rc p (setD T o.dst v, m, s)).bind (runI E rc (A ++ B)) = some r from h3)
    obtain ⟨st3, h6, h7⟩ := swap_pure hs.nc hs.po hs.how hf h1 h4
    show (stepO E rc p (T, m, s)).bind (fun st => (stepO E rc o st).bind (runI E rc (A ++ B))) = some r
    rw [h6]
    show (stepO E rc o st3).bind (runI E rc (A ++ B)) = some r
    rw [h7]; exact h5
end
section
variable {E : Env} {P : Program} {A : Al} {s s' : S} {μ μ' : Mu} {W W' : World} {T : List V} {m : M} {b : Frame} {ck : CK} {a : Act} {rc : Rec} {ops : Array Oper} {K : Nat → Prop} {Fit : (Nat → Prop) → Code → Prop}
theorem pesF_get {os : List Oper} : ∀ {i : Nat} {bs : List Nat} {j : Nat} {o : Oper}, os[j]? = some o → ∃ e ∈ pesF os i bs, e.i = i + j ∧ e.o = o := by
  induction os with
  | nil => intro i bs j o h; simp at h
  | cons x os ih =>
    intro i bs j o h
    have hc : pesF (x :: os) i bs = ⟨i, x, maskOf bs x.after.toList 0, AM.cls x.op⟩ :: pesF os (i + 1) (app bs [maskOf bs x.after.toList 0]) := rfl
    rw [hc]
    cases j with
    | zero => simp at h; exact ⟨_, List.mem_cons_self .., rfl, h⟩
    | succ j =>
      obtain ⟨e, he, h1, h2⟩ := ih (i := i + 1) (bs := app bs [maskOf bs x.after.toList 0]) (j := j) (o := o) (by simpa using h)
      exact ⟨e, List.mem_cons_of_mem _ he, by omega, h2⟩
structure SwpPlan (ops : Array Oper) : Prop where
  guard : ∀ o ∈ ops.toList, o.guard = none
  ent : ∀ e ∈ pesF ops.toList 0 [], EntOk ops.toList (pesF ops.toList 0 []) e
  pair : ∀ y ∈ pesF ops.toList 0 [], ∀ x ∈ pesF ops.toList 0 [], x.i < y.i → bit y.mask x.i = true ∨ swpPair ops.toList x y = true
  new : ∀ y ∈ pesF ops.toList 0 [], ∀ x ∈ pesF ops.toList 0 [], x.i < y.i → y.cls = 1 → 2 ≤ x.cls
  topo : ∀ md, Topo md ops
theorem swpOk_plan (h : swpOk ops.toList = true) : SwpPlan ops := by
  unfold swpOk at h
  simp only [Bool.and_eq_true] at h
  obtain ⟨⟨⟨⟨⟨h1, h2⟩, h3⟩, h4⟩, h5⟩, h6⟩ := h
  refine ⟨fun o ho => ?_, ?_, fun y hy x hx hlt => ?_, fun y hy x hx hlt hc => ?_, fun md => ?_⟩
  · have := List.all_eq_true.1 h1 o ho
    simpa using this
  · have := pesF_ok (ops := ops.toList) (os := ops.toList) (i := 0) (bs := []) (pre := []) rfl (fun k e h => by simp at h) rfl (fun j => by simp)
    simpa using this
  · have := List.all_eq_true.1 (List.all_eq_true.1 h5 y hy) x hx
    simp only [Bool.or_eq_true, Bool.not_eq_true', decide_eq_false_iff_not] at this
    rcases this with (h | h) | h
    · exact absurd hlt h
    · exact .inl h
    · exact .inr h
  · have := List.all_eq_true.1 (List.all_eq_true.1 h6 y hy) x hx
    simp only [Bool.or_eq_true, Bool.not_eq_true', Bool.and_eq_false_iff, decide_eq_false_iff_not, decide_eq_true_eq] at this
    rcases this with (h | h) | h
    · exact absurd hlt h
    · simp [hc] at h
    · exact h
  · cases md with
    | text => exact topo_of h3 fun e he => by unfold Region.binds at he; unfold bindsM; cases hg : e.ground <;> rw [hg] at he <;> first | rfl | (simp at he)
    | gc => exact topo_of h4 fun e he => by unfold Region.binds at he; unfold bindsM; cases hg : e.ground <;> rw [hg] at he <;> first | rfl | (simp at he)
    | any => exact topo_of h3 fun e he => by unfold Region.binds at he; unfold bindsM; cases hg : e.ground <;> rw [hg] at he <;> first | rfl | (simp at he)
structure SInv (E : Env) (rc : Rec) (ops : Array Oper) (r : Sx3) (listed : Array Bool) (L : List Nat) (T : List V) (m : M) (s : S) : Prop where
  size : listed.size = ops.size
  mem : ∀ j, j < ops.size → (listed.getD j true = false ↔ j ∈ L)
  lt : ∀ j ∈ L, j < ops.size
  dc : ∀ e ∈ pesF ops.toList 0 [], listed.getD e.i true = true → ∀ j, bit e.mask j = true → listed.getD j true = true
  sorted : L.Pairwise (· < ·)
  run : runI E rc (L.filterMap (ops.toList[·]?)) (T, m, s) = some r
  free : (∃ e ∈ pesF ops.toList 0 [], e.cls = 1 ∧ e.i ∈ L) → s.heap.get s.next = none
  apart : ops.size - 2 ∈ L → ops.size - 1 ∈ L → 2 ≤ ops.size → ∃ st x y, runI E rc ((L.filter fun j => decide (j + 2 < ops.size)).filterMap (ops.toList[·]?)) (T, m, s) = some st ∧ ops.toList[ops.size - 2]? = some x ∧ ops.toList[ops.size - 1]? = some y ∧ (isSt x.op = true → isSt y.op = true → apartO E st.1 x y = true)
theorem ready_ne {md : Region.Mode} {listed : Array Bool} (ht : Topo md ops) (hsz : listed.size = ops.size) {x : Nat} (hxl : x < ops.size) (hx : listed.getD x true = false) : Region.ready md ops listed ≠ [] := by
  obtain ⟨Q, q1, q2, q3⟩ := ht
  have hpos : 0 < Q.countP fun j => !listed.getD j true := List.countP_pos_iff.2 ⟨x, q1 _ hxl, by simp only [hx, Bool.not_false]⟩
  obtain ⟨Q1, i, Q2, hQ, hi, hQ1⟩ := first_split hpos
  have hin : i < ops.size := q2 i (by rw [hQ]; simp)
  have hat : ops[i]? = some ops[i] := Array.getElem?_eq_getElem hin
  intro hnil
  have : i ∈ Region.ready md ops listed := by
    refine ready_of hat (by simpa using hi) fun d hd hb => ?_
    have hd1 := q3 Q1 i Q2 hQ _ hat d hd hb
    have hdn := q2 d.on (by rw [hQ]; simp [hd1])
    have hl : listed.getD d.on true = true := by simpa using hQ1 _ hd1
    rw [Array.getD_eq_getD_getElem?] at hl ⊢
    have : d.on < listed.size := by rw [hsz]; exact hdn
    rw [Array.getElem?_eq_getElem this] at hl ⊢
    exact hl
  rw [hnil] at this; cases this
theorem swpPair_sw {x y : PE} (hx : Ent x) (hy : Ent y) (h : swpPair ops.toList x y = true) (hne : ¬ (x.i + 2 = ops.size ∧ y.i + 1 = ops.size)) : Sw ops.toList x.o y.o := by
  unfold swpPair at h
  simp only [Bool.and_eq_true, Bool.not_eq_true', Bool.or_eq_true, decide_eq_true_eq, beq_iff_eq] at h
  obtain ⟨hc, h⟩ := h
  have hn := noClash hc
  have hlen : ops.toList.length = ops.size := rfl
  unfold Ent at hx hy
  rcases h with ((⟨h1, h2⟩ | ⟨h1, h2⟩) | ⟨h1, h2⟩) | ⟨⟨⟨h1, h2⟩, h3⟩, h4⟩
  · exact ⟨hn, hx ▸ h1, .inl (hy ▸ h2)⟩
  · exact ⟨hn, hx ▸ h1, .inr (.inl (hy ▸ h2))⟩
  · exact ⟨hn, by rw [← hx]; omega, .inr (.inr ⟨hx ▸ h1, h2⟩)⟩
  · exact absurd ⟨by omega, by omega⟩ hne
theorem swpPair_st {x y : PE} (hx : Ent x) (hy : Ent y) (h : swpPair ops.toList x y = true) : Sw ops.toList x.o y.o ∨ (NoClash ops.toList x.o y.o ∧ isSt x.o.op = true ∧ isSt y.o.op = true) := by
  by_cases hne : x.i + 2 = ops.size ∧ y.i + 1 = ops.size
  · unfold swpPair at h
    simp only [Bool.and_eq_true, Bool.not_eq_true', Bool.or_eq_true, decide_eq_true_eq, beq_iff_eq] at h
    obtain ⟨hc, h⟩ := h
    have hn := noClash hc
    unfold Ent at hx hy
    rcases h with ((⟨h1, h2⟩ | ⟨h1, h2⟩) | ⟨h1, h2⟩) | ⟨⟨⟨h1, h2⟩, h3⟩, h4⟩
    · exact .inl ⟨hn, hx ▸ h1, .inl (hy ▸ h2)⟩
    · exact .inl ⟨hn, hx ▸ h1, .inr (.inl (hy ▸ h2))⟩
    · exact .inl ⟨hn, by rw [← hx]; omega, .inr (.inr ⟨hx ▸ h1, h2⟩)⟩
    · exact .inr ⟨hn, h1, h2⟩
  · exact .inl (swpPair_sw hx hy h hne)
theorem SInv.next (pl : SwpPlan ops) {r : Sx3} {listed : Array Bool} {L : List Nat} (I : SInv E rc ops r listed L T m s) {i : Nat} {o : Oper} (ho : ops[i]? = some o) (hun : listed.getD i true = false)
    (hed : ∀ d ∈ o.after.toList, bindsA d = true → listed.getD d.on true = true) : ∃ T1 m1 s1 L', stepO E rc o (T, m, s) = some (T1, m1, s1) ∧ SInv E rc ops r (listed.setIfInBounds i true) L' T1 m1 s1 ∧ L'.length + 1 = L.length := by
  have hil : i < ops.size := (Array.getElem?_eq_some_iff.1 ho).1
  have hiL : i ∈ L := (I.mem i hil).1 hun
  obtain ⟨A, B, hL⟩ := List.append_of_mem hiL
  have hsort := I.sorted
  rw [hL, List.pairwise_append] at hsort
  obtain ⟨hsA, hsB, hAB⟩ := hsort
  obtain ⟨hiB, hsB⟩ := List.pairwise_cons.1 hsB
  have hA : ∀ a ∈ A, a < i := fun a ha => hAB a ha i (by simp)
  have hget : ∀ j, j < ops.size → ∃ e ∈ pesF ops.toList 0 [], e.i = j ∧ ops.toList[j]? = some e.o := by
    intro j hj
    obtain ⟨e, he, h1, h2⟩ := pesF_get (os := ops.toList) (i := 0) (bs := []) (j := j) (o := ops[j]) (by simp [hj])
    exact ⟨e, he, by omega, by rw [h2]; simp [hj]⟩
  have hoL : ops.toList[i]? = some o := by simpa using ho
  obtain ⟨ei, hei, heii, heio⟩ := hget i hil
  have heo : ei.o = o := by rw [hoL] at heio; exact (Option.some.inj heio).symm
  have hent := pl.ent ei hei
  have hmask : ∀ j, bit ei.mask j = true → listed.getD j true = true := by
    intro j hj
    obtain ⟨d, hd, hb, h⟩ := hent.mask j hj
    rw [heo] at hd
    rcases h with rfl | ⟨f, hf, hfi, hfj⟩
    · exact hed d hd hb
    · exact I.dc f hf (by rw [hfi]; exact hed d hd hb) j hfj
  have hpairA : ∀ a ∈ A, ∃ ea ∈ pesF ops.toList 0 [], ea.i = a ∧ ops.toList[a]? = some ea.o ∧ swpPair ops.toList ea ei = true := by
    intro a ha
    have hal : a < ops.size := I.lt a (by rw [hL]; simp [ha])
    obtain ⟨ea, he, h1, h2⟩ := hget a hal
    refine ⟨ea, he, h1, h2, ?_⟩
    rcases pl.pair ei hei ea he (by rw [h1, heii]; exact hA a ha) with h | h
    · have := hmask _ h
      rw [h1, (I.mem a hal).2 (by rw [hL]; simp [ha])] at this; cases this
    · exact h
  have hfree : cls o.op = 1 → s.heap.get s.next = none := fun hc => I.free ⟨ei, hei, by rw [hent.cls, heo]; exact hc, by rw [heii]; exact hiL⟩
  have hops : ∀ (X Y : List Nat), (X ++ i :: Y).filterMap (ops.toList[·]?) = X.filterMap (ops.toList[·]?) ++ o :: Y.filterMap (ops.toList[·]?) := by
    intro X Y
    rw [List.filterMap_append, List.filterMap_cons, hoL]
  have hswA : ∀ X : List Nat, (∀ a ∈ X, a ∈ A) → (∀ a ∈ X, ¬ (a + 2 = ops.size ∧ i + 1 = ops.size)) → ∀ q ∈ X.filterMap (ops.toList[·]?), Sw ops.toList q o := by
    intro X hX hne q hq
    obtain ⟨a, ha, hqa⟩ := List.mem_filterMap.1 hq
    obtain ⟨ea, he, h1, h2, h3⟩ := hpairA a (hX a ha)
    have hqa : ops.toList[a]? = some q := hqa
    rw [h2] at hqa; injection hqa with hqa
    rw [← hqa, ← heo]
    exact swpPair_sw (pl.ent ea he).cls hent.cls h3 (by rw [h1, heii]; exact hne a ha)
  have hrun := I.run
  rw [hL, hops] at hrun
  -- to the front
  have front : runI E rc (o :: (A ++ B).filterMap (ops.toList[·]?)) (T, m, s) = some r := by
    rw [List.filterMap_append]
    by_cases hcase : (ops.size - 2) ∈ A ∧ i + 1 = ops.size
    · obtain ⟨hc1, hc2⟩ := hcase
      have h2 : 2 ≤ ops.size := by have := hA _ hc1; omega
      -- the text's last two
      have hB : B = [] := by
        cases B with
        | nil => rfl
        | cons z B =>
          have h3 := hiB z (by simp)
          have h4 := I.lt z (by rw [hL]; simp)
          omega
      obtain ⟨A0, A1, hA01⟩ := List.append_of_mem hc1
      have hA1 : A1 = [] := by
        cases A1 with
        | nil => rfl
        | cons z A1 =>
          rw [hA01, List.pairwise_append] at hsA
          have h3 := (List.pairwise_cons.1 hsA.2.1).1 z (by simp)
          have h4 := hA z (by rw [hA01]; simp)
          omega
      subst hB hA1
      have hA0 : ∀ a ∈ A0, a + 2 < ops.size := by
        intro a ha
        rw [hA01, List.pairwise_append] at hsA
        have := hsA.2.2 a ha (ops.size - 2) (by simp)
        omega
      obtain ⟨ex, hex, hx1, hx2, hx3⟩ := hpairA _ hc1
      obtain ⟨st, x, y, hst, hgx, hgy, hap⟩ := I.apart (by rw [hL]; simp [hc1]) (by rw [show ops.size - 1 = i by omega]; exact hiL) h2
      have hfil : (L.filter fun j => decide (j + 2 < ops.size)) = A0 := by
        rw [hL, hA01]
        rw [List.filter_append, List.filter_append, List.filter_eq_self.2 (fun a ha => by simpa using hA0 a ha)]
        have e1 : ¬ (ops.size - 2 + 2 < ops.size) := by omega
        have e2 : ¬ (i + 2 < ops.size) := by omega
        simp [e1, e2]
      rw [hfil] at hst
      rw [hgx] at hx2; injection hx2 with hx2
      subst hx2
      have hgx' : ops[ops.size - 2]? = some ex.o := by simpa using hgx
      have hyo : y = o := by
        rw [show ops.size - 1 = i by omega, hoL] at hgy
        exact (Option.some.inj hgy).symm
      rcases swpPair_st (pl.ent ex hex).cls hent.cls hx3 with hsw | ⟨hnc, hs1, hs2⟩
      · have hall : ∀ q ∈ A.filterMap (ops.toList[·]?), Sw ops.toList q o := by
          intro q hq
          rw [hA01, List.filterMap_append] at hq
          rcases List.mem_append.1 hq with hq | hq
          · exact hswA A0 (fun a ha => by rw [hA01]; simp [ha]) (fun a ha h => by have := hA0 a ha; omega) q hq
          · simp [hgx'] at hq
            rw [hq, ← heo]; exact hsw
        exact to_front hall hfree hrun
      · rw [heo] at hnc hs2
        rw [hA01, List.filterMap_append, runI_append, runI_append, hst] at hrun
        have hrun : (runI E rc ([ops.size - 2].filterMap (ops.toList[·]?)) st).bind (runI E rc [o]) = some r := hrun
        have e1 : [ops.size - 2].filterMap (ops.toList[·]?) = [ex.o] := by simp [hgx']
        rw [e1] at hrun
        obtain ⟨st1, h5, h6⟩ := Option.bind_eq_some_iff.1 hrun
        obtain ⟨st1', h5', h5''⟩ := Option.bind_eq_some_iff.1 (show (stepO E rc ex.o st).bind (runI E rc []) = some st1 from h5)
        have h5'' : st1' = st1 := Option.some.inj h5''
        subst h5''
        obtain ⟨st2, h6', h6''⟩ := Option.bind_eq_some_iff.1 (show (stepO E rc o st1').bind (runI E rc []) = some r from h6)
        have h6'' : st2 = r := Option.some.inj h6''
        subst h6''
        obtain ⟨st3, h7, h8⟩ := swap_store (T := st.1) (m := st.2.1) (s := st.2.2) hnc hs1 hs2 (by rw [← hyo]; exact hap hs1 (by rw [hyo]; exact hs2)) h5' h6'
        have hnew : runI E rc (A0.filterMap (ops.toList[·]?) ++ o :: [ex.o]) (T, m, s) = some st2 := by
          rw [runI_append, hst]
          show (stepO E rc o st).bind (runI E rc [ex.o]) = some st2
          have h7 : stepO E rc o st = some st3 := h7
          rw [h7]
          show (stepO E rc ex.o st3).bind (runI E rc []) = some st2
          rw [h8]; rfl
        have := to_front (hswA A0 (fun a ha => by rw [hA01]; simp [ha]) (fun a ha h => by have := hA0 a ha; omega)) hfree hnew
        rw [hA01, List.filterMap_append, e1]
        simpa using this
    · refine to_front (hswA A (fun a ha => ha) fun a ha h => hcase ⟨?_, h.2⟩) hfree hrun
      rw [show ops.size - 2 = a by omega]; exact ha
  obtain ⟨st1, hs1, hs2⟩ := Option.bind_eq_some_iff.1 (show (stepO E rc o (T, m, s)).bind (runI E rc ((A ++ B).filterMap (ops.toList[·]?))) = some r from front)
  obtain ⟨T1, m1, s1⟩ := st1
  have hlt : i < listed.size := I.size ▸ hil
  have hsubL : ∀ j, j ∈ A ++ B → j ∈ L := fun j hj => by rw [hL]; rcases List.mem_append.1 hj with h | h <;> simp [h]
  have hni : ∀ j ∈ A ++ B, j ≠ i := by
    intro j hj
    rcases List.mem_append.1 hj with h | h
    · have := hA j h; omega
    · have := hiB j h; omega
  refine ⟨T1, m1, s1, A ++ B, hs1, ⟨by simp [I.size], fun j hj => ?_, fun j hj => I.lt j (hsubL j hj), ?_, ?_, hs2, ?_, ?_⟩, by rw [hL]; simp; omega⟩
  · rw [getD_set hlt]
    constructor
    · intro h
      split at h
      · cases h
      · rename_i hji
        have := (I.mem j hj).1 h
        rw [hL] at this
        rcases List.mem_append.1 this with h | h
        · simp [h]
        · rcases List.mem_cons.1 h with h | h
          · exact absurd h hji
          · simp [h]
    · intro h
      rw [if_neg (hni j h)]
      exact (I.mem j hj).2 (hsubL j h)
  · intro e he hl j hj
    rw [getD_set hlt] at hl ⊢
    split
    · rfl
    · by_cases hei' : e.i = i
      · obtain ⟨d, hd, hb, h⟩ := (pl.ent e he).mask j hj
        have hoe : e.o = o := by
          have := (pl.ent e he).at_
          rw [hei', hoL] at this; exact (Option.some.inj this).symm
        rw [hoe] at hd
        rcases h with rfl | ⟨f, hf, hfi, hfj⟩
        · exact hed d hd hb
        · exact I.dc f hf (by rw [hfi]; exact hed d hd hb) j hfj
      · rw [if_neg hei'] at hl; exact I.dc e he hl j hj
  · rw [List.pairwise_append]
    exact ⟨hsA, hsB, fun a ha c hc => by have := hA a ha; have := hiB c hc; omega⟩
  · rintro ⟨e, he, hec, heL⟩
    have hfr := I.free ⟨e, he, hec, hsubL _ heL⟩
    have hne := hni _ heL
    by_cases h2 : 2 ≤ cls o.op
    · obtain ⟨f, v, _, _, hst⟩ := step_pure h2 hs1
      cases hst; exact hfr
    · exfalso
      have hic : ei.cls = cls o.op := by rw [hent.cls, heo]
      rcases Nat.lt_trichotomy e.i i with h | h | h
      · rcases List.mem_append.1 heL with hm | hm
        · obtain ⟨ea, hea, q1, q2, q3⟩ := hpairA _ hm
          have hee : ea.o = e.o := by
            have := (pl.ent e he).at_
            rw [q2] at this; exact Option.some.inj this
          have hc1 : ea.cls = 1 := by rw [(pl.ent ea hea).cls, hee, ← (pl.ent e he).cls]; exact hec
          rcases swpPair_st (pl.ent ea hea).cls hent.cls q3 with hsw | ⟨_, hst, _⟩
          · have := hsw.po
            rw [← (pl.ent ea hea).cls] at this; omega
          · have hq := (pl.ent ea hea).cls
            unfold Ent at hq
            rw [hc1] at hq
            cases hop : ea.o.op <;> rw [hop] at hst hq <;> first | (cases hst; done) | (cases hq; done)
        · have := hiB _ hm; omega
      · exact hne h
      · have := pl.new e he ei hei (by omega) hec
        omega
  · intro hm2 hm1 hsz
    obtain ⟨st, x, y, hst, hgx, hgy, hap⟩ := I.apart (hsubL _ hm2) (hsubL _ hm1) hsz
    refine ⟨st, x, y, ?_, hgx, hgy, hap⟩
    have hi1 := hni _ hm1
    have hi2 := hni _ hm2
    have hlt2 : i + 2 < ops.size := by omega
    have e1 : (L.filter fun j => decide (j + 2 < ops.size)) = (A.filter fun j => decide (j + 2 < ops.size)) ++ i :: (B.filter fun j => decide (j + 2 < ops.size)) := by
      rw [hL, List.filter_append, List.filter_cons, if_pos (by simpa using hlt2)]
    rw [e1, hops] at hst
    have := to_front (hswA (A.filter fun j => decide (j + 2 < ops.size)) (fun a ha => (List.mem_filter.1 ha).1) (fun a ha h => by omega)) hfree hst
    have h3 : (stepO E rc o (T, m, s)).bind (runI E rc ((A.filter fun j => decide (j + 2 < ops.size)).filterMap (ops.toList[·]?) ++ (B.filter fun j => decide (j + 2 < ops.size)).filterMap (ops.toList[·]?))) = some st := this
    rw [hs1] at h3
    rw [List.filter_append, List.filterMap_append]
    exact h3
theorem swap_sim (ok : EnvOk E P) (hrc : RecOk E P Fit rc) (hy : YieldOk E P rc) (pl : SwpPlan ops) {r : Sx3} {md : Region.Mode} : ∀ (fuel t : Nat) {listed : Array Bool} {L : List Nat} {T : List V} {m : M} {s : S} {μ : Mu} {W : World} {a : Act},
    SInv E rc ops r listed L T m s → L.length = fuel → Rel E A s μ W → FR A s μ W T m b ck a →
    Good E P A K b ck s μ W (fun base k => lone (b.atR a (.inRegion ops (Region.linearise.go md ops fuel t listed []) :: k)) (csOf m base) W) (.norm r.1 r.2.1 r.2.2)
  | 0, t, listed, L, T, m, s, μ, W, a, I, hl, R, F => by
    have hL : L = [] := List.length_eq_zero_iff.1 hl
    subst hL
    have := Option.some.inj I.run
    subst this
    exact ⟨μ, W, a, ExtA.refl _ _ _ _, R, F, fun base hB k => .one stepR_region_end⟩
  | fuel + 1, t, listed, L, T, m, s, μ, W, a, I, hl, R, F => by
    obtain ⟨x, hx⟩ : ∃ x, x ∈ L := by cases L with | nil => cases hl | cons x L => exact ⟨x, by simp⟩
    have hxl := I.lt x hx
    rw [go_succ]
    have hne := ready_ne (pl.topo md) I.size hxl ((I.mem x hxl).2 hx)
    cases hi : (Region.ready md ops listed)[t % (Region.ready md ops listed).length]? with
    | none =>
      exfalso
      have hlen : 0 < (Region.ready md ops listed).length := List.length_pos_iff.2 hne
      have := List.getElem?_eq_none_iff.1 hi
      have := Nat.mod_lt t hlen
      omega
    | some i =>
      dsimp only
      obtain ⟨o, ho, hun, hed⟩ := ready_now (List.mem_of_getElem? hi)
      obtain ⟨T1, m1, s1, L', hs, I', hl'⟩ := I.next pl ho hun hed
      generalize hrest : Region.linearise.go md ops fuel (t / (Region.ready md ops listed).length) (listed.setIfInBounds i true) [] = rest
      have hg : o.guard = none := pl.guard o (by rw [Array.mem_toList_iff]; exact Array.mem_of_getElem? ho)
      have hw : Region.wanted o (yielded ops a.tmps) = true := by unfold Region.wanted; rw [hg]
      have hop := doOp_ok (rest := rest) (K := K) (g := fun a => a) (m := m) ok hrc hy R F ho (GOk.id hw)
      unfold stepO at hs
      cases hx1 : o1 o.op E rc T m s with
      | fail => rw [hx1] at hs; cases hs
      | pan v m2 s2 => rw [hx1] at hs; cases hs
      | val v m2 s2 =>
        rw [hx1] at hs hop
        have hs : some (setD T o.dst v, m2, s2) = some (T1, m1, s1) := hs
        cases hs
        obtain ⟨μ1, W1, a1, xv, X, R1, F1, hv, _, hst⟩ := hop
        have := swap_sim ok hrc hy pl (md := md) fuel (t / (Region.ready md ops listed).length) I' (by omega) R1 (F1.put hv o.dst)
        rw [hrest] at this
        exact this.head X R1 hst
theorem runOps_runI {all : List Oper} : ∀ {os : List Oper} {T T1 : List V} {m m1 : M} {s s1 : S}, (∀ o ∈ os, o.guard = none) → runOps os all E rc T m s = .norm T1 m1 s1 → runI E rc os (T, m, s) = some (T1, m1, s1)
  | [], T, T1, m, m1, s, s1, _, h => by cases h; rfl
  | o :: os, T, T1, m, m1, s, s1, hg, h => by
    have h : boolC (wantedIn all T o.guard) (runOps os all E rc (setD T o.dst undef) m s) (doOp o.op E rc T m s fun v m s => runOps os all E rc (setD T o.dst v) m s) = .norm T1 m1 s1 := h
    rw [show wantedIn all T o.guard = true by rw [hg o (by simp)]; rfl] at h
    have h : doOp o.op E rc T m s (fun v m s => runOps os all E rc (setD T o.dst v) m s) = .norm T1 m1 s1 := h
    rw [doOp_eq] at h
    show (stepO E rc o (T, m, s)).bind (runI E rc os) = _
    unfold stepO
    show (match o1 o.op E rc T m s with | .val v m s => some (setD T o.dst v, m, s) | _ => none).bind (runI E rc os) = _
    cases hx : o1 o.op E rc T m s with
    | fail => rw [hx] at h; cases h
    | pan v m2 s2 => rw [hx] at h; cases h
    | val v m2 s2 =>
      rw [hx] at h
      exact runOps_runI (fun o ho => hg o (by simp [ho])) h
theorem filterMap_same {α β : Type} {f g : α → Option β} : ∀ {l : List α}, (∀ x ∈ l, f x = g x) → l.filterMap f = l.filterMap g
  | [], _ => rfl
  | x :: l, h => by rw [List.filterMap_cons, List.filterMap_cons, h x (by simp), filterMap_same fun y hy => h y (by simp [hy])]
theorem filterMap_range (os : List Oper) : (List.range os.length).filterMap (os[·]?) = os := by
  induction os with
  | nil => rfl
  | cons o os ih =>
    rw [List.length_cons, List.range_succ_eq_map, List.filterMap_cons]
    simp only [List.getElem?_cons_zero, List.filterMap_map]
    congr 1
theorem exec_region_swap (ok : EnvOk E P) (hrc : RecOk E P Fit rc) (hy : YieldOk E P rc) {id : Nat} {A : Al} (hsw : swpTest ops.toList = true) (hd : swpOk ops.toList = true) : CodeOk E P A K (exec (.region id ops true) E rc) (.code (.region id ops true)) := by
  intro T m s μ W b ck a R F
  show Good E P A K b ck s μ W _ (boolC (swpTest ops.toList) (runD E rc ops.toList (planOf ops.toList) [] T m s) (runS E rc ops.toList T m s))
  rw [hsw, boolC_true]
  have pl := swpOk_plan hd
  unfold runS
  cases h1 : runOps (takeB (len ops.toList - 2) ops.toList) ops.toList E rc T m s with
  | norm T1 m1 s1 =>
    show Good E P A K b ck s μ W _ (onlyNorm (boolC (apartL E T1 (dropN (len ops.toList - 2) ops.toList)) .fail (runOps (dropN (len ops.toList - 2) ops.toList) ops.toList E rc T1 m1 s1)))
    cases hap : apartL E T1 (dropN (len ops.toList - 2) ops.toList) with
    | false => trivial
    | true =>
      rw [boolC_true]
      cases h2 : runOps (dropN (len ops.toList - 2) ops.toList) ops.toList E rc T1 m1 s1 with
      | norm T2 m2 s2 =>
        show Good E P A K b ck s μ W _ (.norm T2 m2 s2)
        have hgu := pl.guard
        rw [takeB_eq, len_eq] at h1
        rw [dropN_eq, len_eq] at h2 hap
        have q1 := runOps_runI (fun o ho => hgu o (List.mem_of_mem_take ho)) h1
        have q2 := runOps_runI (fun o ho => hgu o (List.mem_of_mem_drop ho)) h2
        have hrun : runI E rc ops.toList (T, m, s) = some (T2, m2, s2) := by
          have e := List.take_append_drop (ops.toList.length - 2) ops.toList
          rw [← e, runI_append, q1]; exact q2
        have Xd := (Ext.drew s μ W (W.drawn + 1)).toA (A := A)
        have Rd := R.drew (W.drawn + 1)
        have hgl : ∀ {n i : Nat}, i < n → (Array.replicate n false).getD i true = false := fun {n i} h => by
          rw [Array.getD_eq_getD_getElem?, Array.getElem?_replicate, if_pos h]; rfl
        have I : SInv E rc ops (T2, m2, s2) (Array.replicate ops.size false) (List.range ops.size) T m s := by
          refine ⟨by simp, fun j hj => ⟨fun _ => List.mem_range.2 hj, fun _ => hgl hj⟩, fun j hj => List.mem_range.1 hj, fun e he hl => ?_, List.pairwise_lt_range, ?_, fun _ => R.free, fun _ _ h2 => ?_⟩
          · rw [hgl (pl.ent e he).lt] at hl; cases hl
          · rw [show ops.size = ops.toList.length from rfl, filterMap_range]; exact hrun
          · have hn : ops.toList.length = ops.size := rfl
            refine ⟨(T1, m1, s1), ops[ops.size - 2], ops[ops.size - 1], ?_, by simp [show ops.size - 2 < ops.size by omega], by simp [show ops.size - 1 < ops.size by omega], fun _ _ => ?_⟩
            · have e1 : (List.range ops.size).filter (fun j => decide (j + 2 < ops.size)) = List.range (ops.size - 2) := by
                have : List.range ops.size = List.range (ops.size - 2) ++ [ops.size - 2, ops.size - 1] := by
                  have e : ops.size = (ops.size - 2) + 1 + 1 := by omega
                  conv => lhs; rw [e, List.range_succ, List.range_succ]
                  simp; omega
                rw [this, List.filter_append, List.filter_eq_self.2 (fun a ha => by have := List.mem_range.1 ha; simp; omega)]
                have e2 : ¬ (ops.size - 2 + 2 < ops.size) := by omega
                have e3 : ¬ (ops.size - 1 + 2 < ops.size) := by omega
                simp [e2, e3]
              have e2 : (List.range (ops.size - 2)).filterMap (ops.toList[·]?) = ops.toList.take (ops.toList.length - 2) := by
                have := filterMap_range (ops.toList.take (ops.toList.length - 2))
                rw [List.length_take, hn, Nat.min_eq_left (by omega)] at this
                rw [hn]
                refine Eq.trans (filterMap_same fun j hj => ?_) this
                have := List.mem_range.1 hj
                rw [List.getElem?_take, if_pos this]
              rw [e1, e2]; exact q1
            · have e3 : ops.toList.drop (ops.toList.length - 2) = [ops[ops.size - 2], ops[ops.size - 1]] := by
                apply List.ext_getElem?
                intro j
                rw [List.getElem?_drop, hn]
                rcases j with _ | _ | j
                · simp [show ops.size - 2 < ops.size by omega]
                · simp only [List.getElem?_cons_succ, List.getElem?_cons_zero]
                  rw [show ops.size - 2 + (0 + 1) = ops.size - 1 by omega]
                  simp [show ops.size - 1 < ops.size by omega]
                · rw [List.getElem?_eq_none (by rw [hn]; omega)]; simp
              rw [e3] at hap
              exact hap
        have hs : ∃ md t, Region.schedule (P.follows .mixedOrders) ops (W.tape W.drawn (.order b.fn id)) = Region.linearise.go md ops ops.size t (Array.replicate ops.size false) [] := by
          unfold Region.schedule
          split
          · exact ⟨_, _, rfl⟩
          · exact ⟨_, _, rfl⟩
        obtain ⟨md, t, hs⟩ := hs
        have := swap_sim (b := b) (ck := ck) (K := K) (A := A) ok hrc hy pl (md := md) ops.size t I (by simp) Rd (F.ext R Xd)
        refine this.head Xd Rd fun base hB k => .one ?_
        have := stepR_region_draw (P := P) (b := b) (a := a) (k := k) (cs := csOf m base) (w := W) (ops := ops) (id := id)
        rw [hs] at this
        exact this
      | _ => trivial
  | _ => trivial
end
end Go.AM
end
section
namespace Go.AM
open Go
def FitP (K : Nat → Prop) (c : Code) : Prop := ∃ Kl : List Nat, K = KP Kl ∧ cOk Kl c = true
section
variable {E : Env} {P : Program} {A : Al} {s s' : S} {μ μ' : Mu} {Sx : Nat → Prop} {W W' : World} {T : List V} {m : M} {b : Frame} {ck : CK} {a : Act} {v : V} {rc : Rec}
  {ops : Array Oper} {i : Nat} {rest : List Nat} {o : Oper} {K : Nat → Prop} {g : Act → Act}
theorem setAll_rel : ∀ {ps : List Nat} {T T0 vs : List V} {tmps : Array Value} {xs : List Value}, VRs μ Sx W T tmps.toList → VRs μ Sx W vs xs → setAll T ps vs = some T0 →
    xs.length = ps.length ∧ VRs μ Sx W T0 ((ps.zip xs).foldl (fun (t : Array Value) (p : Nat × Value) => t.setIfInBounds p.1 p.2) tmps).toList
  | [], T, T0, vs, tmps, xs, hT, hv, h => by
    cases vs with
    | nil => cases hv; cases h; exact ⟨rfl, hT⟩
    | cons _ _ => cases h
  | p :: ps, T, T0, vs, tmps, xs, hT, hv, h => by
    cases vs with
    | nil => cases h
    | cons w vs =>
      cases hv with
      | cons _ _ x xs hx hv =>
        have h : setAll (setAt T p w) ps vs = some T0 := h
        have hT' : VRs μ Sx W (setAt T p w) (tmps.setIfInBounds p x).toList := by rw [setAt_eq, Array.toList_setIfInBounds]; exact hT.set p hx
        obtain ⟨h1, h2⟩ := setAll_rel hT' hv h
        exact ⟨by simp [h1], h2⟩
theorem step_round (ho : ops[i]? = some o) (hw : Region.wanted o (yielded ops a.tmps) = true) {cs : List Frame} {k : List Item} {l : Nat} {f : FuncId} {tmps : Array Value} {assign body : Code} (hr : (o.semAt b.roundOf a.eval).run P W = .ok (.round l f tmps assign body) W') :
    step P (lone (b.atR a (.inRegion ops (i :: rest) :: k)) cs W) = .next (lone (Frame.round l f tmps assign body .normal) (b.atR a (.inRegion ops (i :: rest) :: k) :: cs) W') := by
  have hg := stepGR_op (P := P) (b := b) (k := k) (cs := cs) (w := W) (rest := rest) ho hw
  exact step_lone_go (by rw [hg]; simp [stepG.apply, hr, Frame.atR])
theorem begunB_some {b : Option B} {x : B} (h : begunB b = some x) : ∃ p mk fn tmps ps c d, b = some (.loop 0 p mk fn tmps ps c d) ∧ x = .loop 1 p mk fn tmps ps c d := by
  unfold begunB at h
  split at h
  · cases h; exact ⟨_, _, _, _, _, _, _, rfl, rfl⟩
  · cases h
theorem endedB_some {j : Option Code} {b : Option B} {x : B} (h : endedB j b = some x) : ∃ st p mk fn tmps ps c d, b = some (.loop st p mk fn tmps ps c d) ∧ x = .loop (optC j 0 fun _ => 2) j mk fn tmps ps c d := by
  unfold endedB at h
  split at h
  · cases h; exact ⟨_, _, _, _, _, _, _, _, rfl, rfl⟩
  · cases h
theorem loop_rel (R : Rel E A s μ W) {l β : Nat} (hm : μ l = some (β, 0)) {st : Nat} {p : Option Code} {mk fn : Nat} {tmps : List V} {ps : List Nat} {c d : Code} (h : s.heap.get l = some (.loop st p mk fn tmps ps c d)) :
    ∃ fn' δ δσ xs, W.heap[β]? = some (.loop { state := loopState st, pending := p, fn := fn', tmps := xs, params := ps.toArray, assign := c, body := d, defers := δ }) ∧ μ mk = some (δ, δσ) ∧ VRs μ (St A s μ W) W tmps xs.toList ∧ CFit c ∧ CFit d ∧ ∀ e, p = some e → ∀ K, cOk K e = true := by
  obtain ⟨β', σ', hm', hbr⟩ := R.br l _ h
  rw [hm] at hm'
  cases hm'
  cases hbr with
  | loop _ _ _ _ fn' δ δσ _ xs _ _ _ hσ hh hmk ht hf => exact ⟨fn', δ, δσ, xs, hh, hmk, ht, hf.1, hf.2.1, hf.2.2⟩
theorem loop_put (R : Rel E A s μ W) {l β : Nat} (hm : μ l = some (β, 0)) (hlo : s.lo ≤ l) {st st' : Nat} {p p' : Option Code} {mk fn : Nat} {tmps : List V} {ps : List Nat} {c d : Code} (h : s.heap.get l = some (.loop st p mk fn tmps ps c d))
    {fn' δ : Nat} {xs : Array Value} (hh : W.heap[β]? = some (.loop { state := loopState st, pending := p, fn := fn', tmps := xs, params := ps.toArray, assign := c, body := d, defers := δ })) (hp : ∀ e, p' = some e → ∀ K, cOk K e = true) :
    Ext s μ W (s.put l (.loop st' p' mk fn tmps ps c d)) μ (setObjW W β (.loop { state := loopState st', pending := p', fn := fn', tmps := xs, params := ps.toArray, assign := c, body := d, defers := δ })) ∧
    Rel E A (s.put l (.loop st' p' mk fn tmps ps c d)) μ (setObjW W β (.loop { state := loopState st', pending := p', fn := fn', tmps := xs, params := ps.toArray, assign := c, body := d, defers := δ })) := by
  obtain ⟨fn2, δ2, δσ, xs2, hh2, hmk, ht, hc, hd, _⟩ := loop_rel R hm h
  rw [hh] at hh2
  cases hh2
  refine R.putObj h rfl hlo hm hh (fun _ _ _ e => by cases e) (fun _ _ _ e => by cases e) fun X => ?_
  refine .loop st' p' mk fn fn' δ δσ tmps xs ps c d rfl ?_ hmk (ht.ext (X.vext R)) ⟨hc, hd, hp⟩
  rw [setObjW_get (R.dom _ _ _ hm).2, if_pos rfl]
theorem csOf_normal (F : FR A s μ W T m b ck a) (hk : b.kind = .normal) (base : List Frame) : csOf m base = base := by
  have : m.dk = false := by
    cases h : m.dk with
    | false => rfl
    | true => have := F.kind; rw [h, hk] at this; cases this
  unfold csOf
  rw [F.caller.1 this]; rfl
theorem yield_ok (hrc : RecOk E P FitP rc) : YieldOk E P rc := by
  intro A K g s μ W T m b ck a ops i rest o l β args xs R F ho hg hm hxs hsem
  unfold yieldO
  cases hb : s.heap.get l with
  | none => trivial
  | some x =>
    cases x with
    | loop st p mk fn tmps ps assign body =>
      cases st with
      | succ st => trivial
      | zero =>
        obtain ⟨fn', δ, δσ, txs, hh, hmk, ht, ⟨Ka, hKa⟩, ⟨Kb, hKb⟩, _⟩ := loop_rel R hm hb
        show OpOk E P A K b ck g ops i rest o s μ W T m a (boolC (Nat.blt l s.lo) (optC (setAll tmps ps args) .fail fun T0 => roundBO rc (rc.ex assign T0 (roundM l) s) l body m) .fail)
        cases hlo : Nat.blt l s.lo with
        | true => trivial
        | false =>
        have hlo : s.lo ≤ l := by
          rcases Nat.lt_or_ge l s.lo with h | h
          · have : Nat.blt l s.lo = true := Nat.ble_eq_true_of_le h
            rw [this] at hlo; cases hlo
          · exact h
        rw [boolC_false]
        cases hT0 : setAll tmps ps args with
        | none => trivial
        | some T0 =>
        rw [optC_some]
        obtain ⟨hlen, hT0r⟩ := setAll_rel ht hxs hT0
        generalize htm : (ps.zip xs.toList).foldl (fun (t : Array Value) (p : Nat × Value) => t.setIfInBounds p.1 p.2) txs = tm at hT0r
        have hrun : (Instr.yield β xs).run P W = .ok (.round β fn' tm assign body) W := by
          have h := run_yield (P := P) (args := xs) hh (by simpa using hlen)
          rw [h]
          congr 2
          rw [← htm]
          show Array.foldl _ txs (ps.toArray.zip xs) = _
          rw [← Array.foldl_toList]
          congr 1
          rw [Array.toList_zip]
        let b' : Frame := { (default : Frame) with fn := fn', kind := .normal, roundOf := some β }
        let a0 : Act := { tmps := tm, defers := [] }
        have hround : Frame.round β fn' tm assign body .normal = b'.atR a0 [.code assign, .beginRound, .code body] := by simp [Frame.round, Frame.atR, b', a0]
        have F0 : FR A s μ W T0 (roundM l) b' .any a0 := ⟨hT0r, .nil, .inr ⟨l, β, rfl, rfl, hm⟩, rfl, ⟨fun _ => rfl, fun h => by cases h⟩⟩
        have h1 := hrc.ex A (KP Ka) assign ⟨Ka, rfl, hKa⟩ T0 (roundM l) s μ W b' .any a0 R F0
        cases hr1 : rc.ex assign T0 (roundM l) s with
        | norm T1 m1 s1 =>
          rw [hr1] at h1
          obtain ⟨μ1, W1, a1, X1, R1, F1, hst1⟩ := h1
          show OpOk E P A K b ck g ops i rest o s μ W T m a (optC (begunB (s1.heap.get l)) .fail fun x => roundO (jumpOf (rc.ex body T1 m1 (s1.put l x))) (memOf (rc.ex body T1 m1 (s1.put l x))) l m)
          cases hbg : begunB (s1.heap.get l) with
          | none => trivial
          | some x =>
            rw [optC_some]
            obtain ⟨p2, mk2, fn2, tmps2, ps2, c2, d2, hb2, rfl⟩ := begunB_some hbg
            have hm1 := X1.mu _ _ hm
            obtain ⟨fn2', δ2, δσ2, txs2, hh2, _, _, _, _, hp2⟩ := loop_rel R1 hm1 hb2
            have hlo1 : s1.lo ≤ l := by rw [X1.lo]; exact hlo
            obtain ⟨X2, R2⟩ := loop_put (st' := 1) (p' := p2) R1 hm1 hlo1 hb2 hh2 hp2
            have hbr := run_beginRound (P := P) hh2 rfl
            have F2 := F1.ext R1 X2.toA
            have h2 := hrc.ex A (KP Kb) body ⟨Kb, rfl, hKb⟩ T1 m1 _ μ1 _ b' .any a1 R2 F2
            generalize hs2 : s1.put l (.loop 1 p2 mk2 fn2 tmps2 ps2 c2 d2) = s2 at *
            generalize hW2 : setObjW W1 β (.loop { state := loopState 1, pending := p2, fn := fn2', tmps := txs2, params := ps2.toArray, assign := c2, body := d2, defers := δ2 }) = W2 at *
            have hbr : (Instr.beginRound β).run P W1 = .ok () W2 := by rw [hbr, ← hW2]; rfl
            have head : ∀ base k, Steps P (lone (b.atR (g a) (.inRegion ops (i :: rest) :: k)) (csOf m base) W) (lone (b'.atR a1 [.code body]) (b.atR (g a) (.inRegion ops (i :: rest) :: k) :: csOf m base) W2) := by
              intro base k
              have e1 := step_round (P := P) (k := k) (cs := csOf m base) (rest := rest) ho hg.wanted (by rw [hg.sem, hsem W]; exact hrun)
              rw [hround] at e1
              have e2 := hst1 (b.atR (g a) (.inRegion ops (i :: rest) :: k) :: csOf m base) trivial [.beginRound, .code body]
              simp only [csOf_normal F0 rfl, csOf_normal F1 rfl] at e2
              exact .head e1 (e2.trans (.one (stepR_beginRound rfl hbr)))
            -- the end of the round
            have fin : ∀ (j : Option Code) (s3 : S) (μ3 : Mu) (W3 : World), (∀ e, j = some e → ∀ K, cOk K e = true) → ExtA A s2 μ1 W2 s3 μ3 W3 → Rel E A s3 μ3 W3 →
                (∀ cs' c', ∀ v w', (Instr.endRound β j).run P W3 = .ok v w' → Steps P (lone (b'.atR a1 [.code body]) (c' :: cs') W2) (lone (c'.finish v) cs' w')) →
                OpOk E P A K b ck g ops i rest o s μ W T m a (optC (endedB j (s3.heap.get l)) .fail fun x => .val (.bool (isNone j)) m (s3.put l x)) := by
              intro j s3 μ3 W3 hj X3 R3 hst3
              cases he : endedB j (s3.heap.get l) with
              | none => trivial
              | some x =>
                rw [optC_some]
                obtain ⟨st3, p3, mk3, fn3, tmps3, ps3, c3, d3, hb3, rfl⟩ := endedB_some he
                have hm3 := X3.mu _ _ hm1
                obtain ⟨fn3', δ3, δσ3, txs3, hh3, _, _, _, _, _⟩ := loop_rel R3 hm3 hb3
                have hlo3 : s3.lo ≤ l := by rw [X3.lo, X2.lo]; exact hlo1
                obtain ⟨X4, R4⟩ := loop_put (st' := optC j 0 fun _ => 2) (p' := j) R3 hm3 hlo3 hb3 hh3 hj
                have her := run_endRound (P := P) j hh3
                have hjs : isNone j = j.isNone ∧ (if j.isNone then LoopState.ready else .done) = loopState (optC j 0 fun _ => 2) := by cases j <;> exact ⟨rfl, rfl⟩
                have XX := X1.trans R1 (X2.toA.trans R2 (X3.trans R3 X4.toA))
                refine ⟨μ3, _, a, .bool j.isNone, XX, R4, F.ext R XX, ?_, ⟨_, rfl⟩, fun base hB k => ?_⟩
                · rw [hjs.1]; exact .bool _
                · rw [← finish_eq ho]
                  refine (head base k).trans (hst3 _ _ _ _ ?_)
                  rw [her]
                  congr 1
                  show setObjW W3 β _ = setObjW W3 β _
                  rw [← hjs.2]
            show OpOk E P A K b ck g ops i rest o s μ W T m a (roundO (jumpOf (rc.ex body T1 m1 s2)) (memOf (rc.ex body T1 m1 s2)) l m)
            cases hr2 : rc.ex body T1 m1 s2 with
            | fail => trivial
            | pan v T2 m2 s3 => trivial
            | norm T2 m2 s3 =>
              rw [hr2] at h2
              obtain ⟨μ3, W3, a3, X3, R3, F3, hst3⟩ := h2
              refine fin none s3 μ3 W3 (fun e h => by cases h) X3 R3 fun cs' c' v w' hv => ?_
              have e3 := hst3 (c' :: cs') trivial []
              simp only [csOf_normal F2 rfl, csOf_normal F3 rfl] at e3
              exact e3.trans (.one (stepR_round_end rfl rfl hv))
            | ret T2 m2 s3 =>
              rw [hr2] at h2
              obtain ⟨μ3, W3, a3, X3, R3, F3, hst3⟩ := h2
              refine fin (some .ret) s3 μ3 W3 (fun e h K => by cases h; rfl) X3 R3 fun cs' c' v w' hv => ?_
              obtain ⟨k₁, e3⟩ := hst3 (c' :: cs') trivial []
              simp only [csOf_normal F2 rfl, csOf_normal F3 rfl] at e3
              exact e3.trans (.one (stepR_round_ret rfl rfl hv))
            | exit id T2 m2 s3 =>
              rw [hr2] at h2
              obtain ⟨μ3, W3, a3, X3, R3, F3, hst3⟩ := h2
              refine fin (some (.exit id)) s3 μ3 W3 (fun e h K => by cases h; rfl) X3 R3 fun cs' c' v w' hv => ?_
              obtain ⟨k₁, hk, e3⟩ := hst3 (c' :: cs') trivial []
              simp only [csOf_normal F2 rfl, csOf_normal F3 rfl] at e3
              exact e3.trans (.one (stepR_round_exit rfl rfl (by rw [hk]; rfl) hv))
        | _ => trivial
    | _ => trivial
end
end Go.AM
end
section
namespace Go.AM
open Go
section
variable {E : Env} {P : Program} {A : Al} {s s' : S} {μ μ' : Mu} {Sx : Nat → Prop} {W W' : World} {T : List V} {m : M} {b : Frame} {ck : CK} {a : Act} {v : V} {rc : Rec} {K : Nat → Prop}
theorem stepR_rangeFunc_value {k : List Item} {cs : List Frame} {w : World} {g : Operand} {ps : Array Tmp} {assign body : Code} {l : Nat} {mark : List Deferred} {w₁ w₁' w₂ : World} {d : Deferred} {v : Value}
    (he : (Instr.enterLoop b.fn a.tmps ps assign body b.roundOf).run P w = .ok (l, mark) w₁)
    (hres : (resolve a.eval (Go.rangeCall g l) 0).run P w₁ = .ok d w₁') (hinv : (invoke d.target d.args).run P w₁' = .ok (.value v) w₂) :
    step P (lone (b.atR a (.code (.rangeFunc g ps assign body) :: k)) cs w) = .next (lone (b.atR { a with defers := mark ++ a.defers } (.endRangeFunc l :: k)) cs w₂) :=
  step_lone_go (by
    have hev := Frame.eval_atR b { a with defers := mark ++ a.defers } (.inRangeFunc l :: k)
    simp only [Frame.atR] at hev
    have hres' : Sem.run P (resolve ({ tmps := a.tmps, defers := mark ++ a.defers } : Act).eval { callee := .value g, args := #[.const (.func (.yield l) #[] #[])], argTypes := #[] } 0) w₁ = .ok d w₁' := hres
    simp [stepG, stepG.exec, Frame.atR, Sem.runT_eq, he, GStep.bare_after, stepG.apply, hev, Sem.run_bind, hres', hinv, Result.andThen, Frame.finish])
theorem run_enterLoop_inner {w : World} {l0 : Nat} {r : Loop} (h : w.heap[l0]? = some (.loop r)) (fn : FuncId) (tmps : Array Value) (ps : Array Tmp) (assign body : Code) :
    (Instr.enterLoop fn tmps ps assign body (some l0)).run P w = .ok (w.heap.size, []) (World.add w (.loop { state := .ready, pending := none, fn, tmps, params := ps, assign, body, defers := r.defers })) := by
  unfold Instr.enterLoop
  simp [Sem.run_bind, run_getLoop h, World.add]
theorem after_good (hrc : RecOk E P FitP rc) (hK : ∃ Kl : List Nat, K = KP Kl) {l β : Nat} (R : Rel E A s μ W) (F : FR A s μ W T m b ck a) (hm : μ l = some (β, 0)) (hlo : s.lo ≤ l) :
    Good E P A K b ck s μ W (fun base k => lone (b.atR a (.endRangeFunc β :: k)) (csOf m base) W) (afterB rc (s.heap.get l) l T m s) := by
  cases hb : s.heap.get l with
  | none => trivial
  | some x =>
    cases x with
    | loop st p mk fn tmps ps c d =>
      show Good E P A K b ck s μ W _ (boolC (Nat.beq st 1) (optC p (.norm T m (s.put l (.loop 3 p mk fn tmps ps c d))) fun e => rc.ex e T m (s.put l (.loop 3 p mk fn tmps ps c d))) .fail)
      cases hst : Nat.beq st 1 with
      | true => trivial
      | false =>
      rw [boolC_false]
      obtain ⟨fn', δ, δσ, txs, hh, _, _, _, _, hp⟩ := loop_rel R hm hb
      have hnb : loopState st ≠ .busy := by
        match st, hst with
        | 0, _ => intro h; cases h
        | 1, h => cases h
        | 2, _ => intro h; cases h
        | n + 3, _ => intro h; cases h
      obtain ⟨X, R1⟩ := loop_put (st' := 3) (p' := p) R hm hlo hb hh hp
      have hend := run_endLoop (P := P) hh hnb
      have hst : ∀ base k, Steps P (lone (b.atR a (.endRangeFunc β :: k)) (csOf m base) W) (lone (b.atR a ((p.map Item.code).toList ++ k)) (csOf m base) (setObjW W β (.loop { state := loopState 3, pending := p, fn := fn', tmps := txs, params := ps.toArray, assign := c, body := d, defers := δ }))) := fun base k => .one (stepR_endRangeFunc hend)
      cases p with
      | none => exact ⟨μ, _, a, X.toA, R1, F.ext R X.toA, fun base hB k => hst base k⟩
      | some e =>
        obtain ⟨Kl, rfl⟩ := hK
        exact (hrc.ex A (KP Kl) e ⟨Kl, rfl, hp e rfl Kl⟩ T m _ μ _ b ck a R1 (F.ext R X.toA)).head X.toA R1 fun base hB k => hst base k
    | _ => trivial
theorem range_call (ok : EnvOk E P) (hrc : RecOk E P FitP rc) (hK : ∃ Kl : List Nat, K = KP Kl) {s0 : S} {μ0 : Mu} {W0 : World} {a0 : Act} {m0 : M} {gx : Operand} {gv : V} {ps : Array Tmp} {assign body : Code} {l β : Nat} {mark : List Deferred}
    (X0 : ExtA A s0 μ0 W0 s μ W) (R : Rel E A s μ W) (F : FR A s μ W T m b ck a) (ha : a = { a0 with defers := mark ++ a0.defers }) (hcs : ∀ base, csOf m base = csOf m0 base) (hg : VR μ (St A s μ W) W gv (a0.eval gx)) (hm : μ l = some (β, 0)) (hlo : s.lo ≤ l)
    (he : (Instr.enterLoop b.fn a0.tmps ps assign body b.roundOf).run P W0 = .ok (β, mark) W) :
    Good E P A K b ck s0 μ0 W0 (fun base k => lone (b.atR a0 (.code (.rangeFunc gx ps assign body) :: k)) (csOf m0 base) W0) (rangeCall rc (target E gv [yieldV l]) l T m s) := by
  have ht := target_sound ok hg (args := [yieldV l]) (xs := #[.func (.yield β) #[] #[]]) (.cons _ _ _ _ (.yield l β hm) .nil)
  cases hT : target E gv [yieldV l] with
  | no => trivial
  | y l' args => trivial
  | f n args =>
    rw [hT] at ht
    obtain ⟨xs, hxs, hrun⟩ := ht
    have hres : ∃ d, (resolve a0.eval (Go.rangeCall gx β) 0).run P W = .ok d W ∧ (invoke d.target d.args).run P W = (callFunc n xs).run P W ∨ False := by
      have h := hrun W
      simp only [Sem.run_bind] at h
      cases hd : (Deferred.ofValue (a0.eval gx) #[.func (.yield β) #[] #[]]).run P W with
      | halt q w =>
        exfalso
        generalize a0.eval gx = gxx at hd hg
        cases hg <;> first | (cases hT; done) | skip
        case fn f c0 c1 ys zs hf hy hz => simp [Deferred.ofValue] at hd
      | ok d w =>
        have hw : w = W := by
          generalize a0.eval gx = gxx at hd hg
          cases hg <;> first | (cases hT; done) | skip
          case fn f c0 c1 ys zs hf hy hz => simp [Deferred.ofValue] at hd; exact hd.2.symm
        subst hw
        refine ⟨d, .inl ⟨?_, ?_⟩⟩
        · have : (Go.rangeCall gx β).args.map a0.eval = #[.func (.yield β) #[] #[]] := by simp [Act.eval]
          unfold resolve
          rw [this]
          exact hd
        · rw [← h, hd]; rfl
    obtain ⟨d, ⟨hd, hi⟩ | hf⟩ := hres
    case inr => exact hf.elim
    have hc := hrc.call A n args xs s μ W R hxs
    show Good E P A K b ck s0 μ0 W0 _ (rangeEnd rc (rc.call n args s) l T m)
    cases hr : rc.call n args s with
    | fail => trivial
    | ret v s1 rd =>
      rw [hr] at hc
      obtain ⟨μ1, W1, x, X, R1, hv, hcase⟩ := hc
      have hm1 := X.mu _ _ hm
      refine (after_good hrc hK R1 (F.ext R X) hm1 (by rw [X.lo]; exact hlo)).head (X0.trans R X) R1 fun base hB k => ?_
      rw [hcs base]
      rcases hcase with ⟨hen, hst⟩ | hval
      · obtain ⟨fr, hst, hfn, hl⟩ := hst (b.atR a (.inRangeFunc β :: k) :: csOf m0 base)
        have e1 := stepR_rangeFunc (P := P) (k := k) (cs := csOf m0 base) he hd (hi.trans hen)
        rw [← ha] at e1
        refine .head e1 (hst.trans (.one ?_))
        rw [← finish_atR_inRangeFunc β x]; exact step_leave_returned hl
      · have e1 := stepR_rangeFunc_value (P := P) (k := k) (cs := csOf m0 base) he hd (hi.trans hval)
        rw [← ha] at e1
        exact .one e1
    | pan v s1 rd =>
      rw [hr] at hc
      obtain ⟨μ1, W1, x, X, R1, hv, hen, hst⟩ := hc
      refine ⟨μ1, W1, a, x, X0.trans R X, R1, (F.ext R X).toK, hv, fun base hB k => ⟨.inRangeFunc β :: k, ?_⟩⟩
      rw [hcs base]
      obtain ⟨fr, hst, hfn, hl⟩ := hst (b.atR a (.inRangeFunc β :: k) :: csOf m0 base)
      have e1 := stepR_rangeFunc (P := P) (k := k) (cs := csOf m0 base) he hd (hi.trans hen)
      rw [← ha] at e1
      refine .head e1 (hst.trans (.one ?_))
      rw [← Frame.raise_atR]; exact step_leave_panicked hl
theorem exec_range (ok : EnvOk E P) (hrc : RecOk E P FitP rc) {gx : Operand} {ps : Array Tmp} {assign body : Code} (hfit : FitP K (.rangeFunc gx ps assign body)) :
    CodeOk E P A K (exec (.rangeFunc gx ps assign body) E rc) (.code (.rangeFunc gx ps assign body)) := by
  intro T m s μ W b ck a R F
  show Good E P A K b ck s μ W _ (optC (opv E T gx) .fail fun g => rangeGo E rc g ps.toList assign body T m s)
  obtain ⟨Kl, hKl, hfit⟩ := hfit
  have hfit : (cOk Kl assign && cOk Kl body) = true := hfit
  rw [Bool.and_eq_true] at hfit
  have hCF : CFit assign ∧ CFit body ∧ ∀ c, (none : Option Code) = some c → ∀ K, cOk K c = true := ⟨⟨Kl, hfit.1⟩, ⟨Kl, hfit.2⟩, fun c h => by cases h⟩
  cases hgv : opv E T gx with
  | none => trivial
  | some gv =>
    rw [optC_some]
    have hg := opv_sound R F.tmps hgv
    rcases F.rnd with ⟨hr, hro⟩ | ⟨l0, β0, hr, hro, hm0⟩
    · unfold rangeGo
      have e0 : ∀ (x : AM.R) (f : Nat → AM.R), optC m.rnd x f = x := fun x f => by rw [hr]; rfl
      rw [e0]
      have R1 := R.add .mark (.deferred (some [])) (.mark rfl (World.add_new _ _))
      have X1 := R.newExt .mark (.deferred (some []))
      have hmk : (μ.add s.next (W.heap.size, 0)) s.next = some (W.heap.size, 0) := Mu.add_self _ _ _
      have hs1 : (World.add W (.deferred (some []))).heap.size = W.heap.size + 1 := by simp [World.add]
      generalize hμ1 : μ.add s.next (W.heap.size, 0) = μ1 at *
      generalize hW1 : World.add W (.deferred (some [])) = W1 at *
      generalize hs' : s.new .mark = s1 at *
      have hn1 : s1.next = s.next + 1 := by rw [← hs']; rfl
      let o : Obj := .loop { state := .ready, pending := none, fn := b.fn, tmps := a.tmps, params := ps, assign := assign, body := body, defers := W.heap.size }
      have X2 := R1.newExt (.loop 0 none s.next 0 T ps.toList assign body) o
      have hbr : BR (μ1.add s1.next (W1.heap.size, 0)) (St A (s1.new (.loop 0 none s.next 0 T ps.toList assign body)) (μ1.add s1.next (W1.heap.size, 0)) (World.add W1 o)) (World.add W1 o) W1.heap.size 0 (.loop 0 none s.next 0 T ps.toList assign body) :=
        .loop 0 none s.next 0 b.fn W.heap.size 0 T a.tmps ps.toList assign body rfl (by rw [World.add_new]; simp [o, loopState]) (X2.mu _ _ hmk) ((F.tmps.ext (X1.vext R)).ext (X2.vext R1)) hCF
      have R2 := R1.add _ o hbr
      have XX := (X1.trans X2).toA (A := A)
      have F2 : FR A (s1.new (.loop 0 none s.next 0 T ps.toList assign body)) (μ1.add s1.next (W1.heap.size, 0)) (World.add W1 o) T { m with df := .map s.next :: m.df } b ck { a with defers := [{ target := .collected W.heap.size, args := #[] }] ++ a.defers } := by
        have F1 := F.ext R XX
        exact ⟨F1.tmps, .cons _ _ _ _ (.mark s.next W.heap.size 0 _ (X2.mu _ _ hmk)) F1.df, .inl ⟨hr, hro⟩, F1.kind, F1.caller⟩
      rw [← hn1]
      refine range_call ok hrc ⟨Kl, hKl⟩ (β := W1.heap.size) (mark := [{ target := .collected W.heap.size, args := #[] }]) XX R2 F2 rfl (fun _ => rfl) (hg.ext ((X1.trans X2).vext R)) (Mu.add_self _ _ _) (by have := R1.lo; exact this) ?_
      rw [hro]
      have := run_enterLoop_outer (P := P) (w := W) b.fn a.tmps ps assign body
      rw [this, hs1, ← hW1]
      rfl
    · unfold rangeGo
      rw [hr, optC_some]
      cases hmkk : loopMk (s.heap.get l0) with
      | none => trivial
      | some mk =>
        rw [optC_some]
        have hl0 : ∃ st p fn tmps ps' c d, s.heap.get l0 = some (.loop st p mk fn tmps ps' c d) := by
          unfold loopMk at hmkk
          split at hmkk
          · rename_i h; cases hmkk; exact ⟨_, _, _, _, _, _, _, h⟩
          · cases hmkk
        obtain ⟨st, p, fn, tmps, ps', c, d, hl0⟩ := hl0
        obtain ⟨fn', δ, δσ, txs, hh, hδ, _⟩ := loop_rel R hm0 hl0
        let o : Obj := .loop { state := .ready, pending := none, fn := b.fn, tmps := a.tmps, params := ps, assign := assign, body := body, defers := δ }
        have X2 := R.newExt (.loop 0 none mk 0 T ps.toList assign body) o
        have hbr : BR (μ.add s.next (W.heap.size, 0)) (St A (s.new (.loop 0 none mk 0 T ps.toList assign body)) (μ.add s.next (W.heap.size, 0)) (World.add W o)) (World.add W o) W.heap.size 0 (.loop 0 none mk 0 T ps.toList assign body) :=
          .loop 0 none mk 0 b.fn δ δσ T a.tmps ps.toList assign body rfl (by rw [World.add_new]; simp [o, loopState]) (X2.mu _ _ hδ) (F.tmps.ext (X2.vext R)) hCF
        have R2 := R.add _ o hbr
        refine range_call ok hrc ⟨Kl, hKl⟩ (β := W.heap.size) (mark := []) X2.toA R2 (F.ext R X2.toA) rfl (fun _ => rfl) (hg.ext (X2.vext R)) (Mu.add_self _ _ _) R.lo ?_
        rw [hro]
        exact run_enterLoop_inner hh b.fn a.tmps ps assign body
end
end Go.AM
end
section
namespace Go.AM
open Go
section
variable {E : Env} {P : Program} {A : Al} {s s' : S} {μ μ' : Mu} {Sx : Nat → Prop} {W W' : World} {T : List V} {m : M} {b : Frame} {ck : CK} {a : Act} {v : V} {rc : Rec} {K : Nat → Prop}
theorem Rel.dropMark (R : Rel E A s μ W) {b β : Nat} (hb : s.heap.get b = some .mark) (hm : μ b = some (β, 0)) (hlo : s.lo ≤ b) (hh : W.heap[β]? = some (.deferred (some []))) :
    Ext s μ W (s.drop b) μ (setObjW W β (.deferred none)) ∧ Rel E A (s.drop b) μ (setObjW W β (.deferred none)) := by
  have hβ := (R.dom b β 0 hm).2
  have hown : Owned s μ s.lo β := ⟨b, _, 0, hlo, hb, rfl, hm⟩
  have hg : ∀ b', (s.drop b).heap.get b' = if b' = b then none else s.heap.get b' := fun b' => Tr.get_put _ _ _ _
  have hoff : ∀ i, i ≠ β → (setObjW W β (.deferred none)).heap[i]? = W.heap[i]? := fun i hi => by rw [setObjW_get hβ, if_neg hi]
  have hrow : rowSize (setObjW W β (.deferred none)) β = rowSize W β := by unfold rowSize; rw [setObjW_get hβ, if_pos rfl, hh]
  have X : Ext s μ W (s.drop b) μ (setObjW W β (.deferred none)) := by
    refine ⟨Nat.le_refl _, rfl, fun _ _ h => h, fun i hi => ?_, by simp [setObjW], fun i hi ho => hoff i fun h => ho (by rw [h]; exact hown), fun i hi ho => ?_, fun i hi => ?_, rfl, rfl, rfl⟩
    · rw [hg, if_neg (by omega)]
    · rintro ⟨b1, y, σ1, h1, h2, h3, h4⟩
      rw [hg] at h2
      split at h2
      · cases h2
      · exact ho ⟨b1, y, σ1, h1, h2, h3, h4⟩
    · by_cases h : i = β
      · rw [h]; exact hrow
      · exact rowSize_of_heap (hoff i h)
  refine ⟨X, R.step X R.top (fun _ _ _ h => .inl h) (fun b1 y h => ?_) fun b1 b2 y1 y2 β1 σ1 σ2 h1 h2 => ?_⟩
  · rw [hg] at h
    split at h
    · cases h
    · rename_i hbb
      exact .inl ⟨h, fun β1 σ1 h1 => hoff _ fun e => hbb (R.excl b b1 _ _ _ _ _ hb h rfl hm (e ▸ h1)).symm⟩
  · rw [hg] at h1 h2
    split at h1
    · cases h1
    · split at h2
      · cases h2
      · exact R.excl b1 b2 y1 y2 β1 σ1 σ2 h1 h2
def TmpK (K : Nat → Prop) (μ : Mu) (Sx : Nat → Prop) (W : World) (T : List V) (tmps : Array Value) : Prop := ∀ t v, K t → T[t]? = some v → ∃ x, tmps[t]? = some x ∧ VR μ Sx W v x
theorem TmpK.ext {Sx' : Nat → Prop} (X : VExt μ μ' Sx Sx' W W') {tmps : Array Value} (h : TmpK K μ Sx W T tmps) : TmpK K μ' Sx' W' T tmps := fun t v hk hv => let ⟨x, h1, h2⟩ := h t v hk hv; ⟨x, h1, h2.ext X⟩
def resF (tmps : Array Value) : ResultVar → Sem Value
  | .tmp t => pure (tmps.getD t Go.undef)
  | .cell a t => do loadVar t (← asAddr (tmps.getD a Go.undef))
theorem results_eq (fn : Func) (tmps : Array Value) : results fn tmps = (do let vs ← List.toArray <$> fn.results.toList.mapM (resF tmps); pure (if h : vs.size = 1 then vs[0] else .tuple vs)) := by
  unfold results
  have : ∀ rs : Array ResultVar, (rs.mapM fun | .tmp t => pure (tmps.getD t Go.undef) | .cell a t => (do loadVar t (← asAddr (tmps.getD a Go.undef)) : Sem Value)) = List.toArray <$> rs.toList.mapM (resF tmps) := by
    intro rs
    rw [← List.mapM_toArray, Array.toArray_toList]
    congr 1
  rw [← this]
  rfl
theorem result1_sound (ok : EnvOk E P) (R : Rel E A s μ W) {tmps : Array Value} {r : ResultVar} (hK : K (resT r)) (hT : TmpK K μ (St A s μ W) W T tmps) (h : result1 E T s r = some v) :
    ∃ x, (resF tmps r).run P W = .ok x W ∧ VR μ (St A s μ W) W v x := by
  cases r with
  | tmp t =>
    have h : nth T t = some v := h
    rw [nth_eq] at h
    obtain ⟨x, hx, hr⟩ := hT t v hK h
    exact ⟨x, by simp [resF, Array.getD_eq_getD_getElem?, hx], hr⟩
  | cell a t =>
    obtain ⟨ti, ht, h⟩ := bind_eq_some.1 h
    obtain ⟨p, hp, h⟩ := bind_eq_some.1 h
    rw [nth_eq] at hp
    obtain ⟨x, hx, hr⟩ := hT a p hK hp
    obtain ⟨c, hc, h⟩ := bind_eq_some.1 h
    obtain ⟨β, o, xs, rfl, hcs, hce⟩ := cellsAt_sound R hr hc
    obtain ⟨y, hy, hv⟩ := loadVar_sound (P := P) (tiOf_ok (ok.ti _ _ ht)) hcs hce h
    refine ⟨y, ?_, hv⟩
    simp [resF, Array.getD_eq_getD_getElem?, hx, asAddr, hy]
theorem resultsL_sound (ok : EnvOk E P) (R : Rel E A s μ W) {tmps : Array Value} (hT : TmpK K μ (St A s μ W) W T tmps) : ∀ {rs : List ResultVar} {l : List V}, (∀ t ∈ resTmps rs, K t) → resultsL E T s rs = some l → ∃ xs, (rs.mapM (resF tmps)).run P W = .ok xs W ∧ VRs μ (St A s μ W) W l xs
  | [], l, _, h => by cases h; exact ⟨[], by simp, .nil⟩
  | r :: rs, l, hK, h => by
    have h : consO (result1 E T s r) (resultsL E T s rs) = some l := h
    obtain ⟨v, q, h1, h2, rfl⟩ := consO_eq_some.1 h
    obtain ⟨x, hx, hv⟩ := result1_sound (P := P) ok R (hK _ (by simp [resTmps])) hT h1
    obtain ⟨xs, hxs, hvs⟩ := resultsL_sound ok R hT (fun t ht => hK t (by simp [resTmps] at ht ⊢; exact .inr ht)) h2
    exact ⟨x :: xs, by simp [hx, hxs], .cons _ _ _ _ hv hvs⟩
theorem results_sound (ok : EnvOk E P) (R : Rel E A s μ W) {fn : Func} {tmps : Array Value} (hT : TmpK K μ (St A s μ W) W T tmps) (hK : ∀ t ∈ resTmps fn.results.toList, K t) {l : List V} (h : resultsL E T s fn.results.toList = some l) :
    ∃ x, (results fn tmps).run P W = .ok x W ∧ VR μ (St A s μ W) W (tupled l) x := by
  obtain ⟨xs, hxs, hv⟩ := resultsL_sound ok R hT hK h
  refine ⟨if h : xs.toArray.size = 1 then xs.toArray[0] else .tuple xs.toArray, ?_, ?_⟩
  · rw [results_eq]
    simp [hxs]
  · cases hv with
    | nil => exact .tup [] #[] .nil
    | cons v c x xs hx ht => cases ht with
      | nil => exact hx
      | cons w c y xs hy ht => exact .tup _ _ (.cons _ _ _ _ hx (.cons _ _ _ _ hy ht))
def ckOf : Option Value → CK
  | none => .ret
  | some vx => .pan vx
def outMode : Option Value → FrameMode
  | none => .returning
  | some vx => .panicking [{ v := vx, recovered := false }]
def PanR (μ : Mu) (Sx : Nat → Prop) (W : World) : Option V → Option Value → Prop
  | none, none => True
  | some v, some vx => VR μ Sx W v vx
  | _, _ => False
theorem PanR.ext {Sx' : Nat → Prop} (X : VExt μ μ' Sx Sx' W W') {p : Option V} {px : Option Value} (h : PanR μ Sx W p px) : PanR μ' Sx' W' p px := by
  cases p <;> cases px <;> first | trivial | exact h.elim | exact VR.ext X h
def LeaveOut (E : Env) (P : Program) (A : Al) (s : S) (μ : Mu) (W : World) (f : Nat) (fn : Func) (kind : CallKind) (tmps : Array Value) (ds : List Deferred) (px : Option Value) (rd : Bool) : CR → Prop
  | .fail => True
  | .ret v s' rd' => rd' = rd ∧ ∃ μ' W' x, ExtA A s μ W s' μ' W' ∧ Rel E A s' μ' W' ∧ VR μ' (St A s' μ' W') W' v x ∧
      ∀ fr cs, fr.fn = f → fr.kind = kind → fr.tmps = tmps → fr.defers = ds → fr.mode = outMode px → ∃ fr', Steps P (lone fr cs W) (lone fr' cs W') ∧ fr'.fn = f ∧ fr'.kind = kind ∧ fr'.mode = .returning ∧ fr'.defers = [] ∧ (results fn fr'.tmps).run P W' = .ok x W'
  | .pan v s' rd' => rd' = rd ∧ ∃ μ' W' x, ExtA A s μ W s' μ' W' ∧ Rel E A s' μ' W' ∧ VR μ' (St A s' μ' W') W' v x ∧
      ∀ fr cs, fr.fn = f → fr.kind = kind → fr.tmps = tmps → fr.defers = ds → fr.mode = outMode px → ∃ fr', Steps P (lone fr cs W) (lone fr' cs W') ∧ fr'.fn = f ∧ fr'.kind = kind ∧ fr'.mode = .panicking [{ v := x, recovered := false }] ∧ fr'.defers = []
theorem LeaveOut.head {f : Nat} {fn : Func} {kind : CallKind} {tmps : Array Value} {ds ds' : List Deferred} {px px' : Option Value} {rd : Bool} {r : CR} (X : ExtA A s μ W s' μ' W') (R' : Rel E A s' μ' W')
    (hst : ∀ fr cs, fr.fn = f → fr.kind = kind → fr.tmps = tmps → fr.defers = ds → fr.mode = outMode px → ∃ fr1, Steps P (lone fr cs W) (lone fr1 cs W') ∧ fr1.fn = f ∧ fr1.kind = kind ∧ fr1.tmps = tmps ∧ fr1.defers = ds' ∧ fr1.mode = outMode px')
    (h : LeaveOut E P A s' μ' W' f fn kind tmps ds' px' rd r) : LeaveOut E P A s μ W f fn kind tmps ds px rd r := by
  cases r with
  | fail => trivial
  | ret v s1 rd' =>
    obtain ⟨h0, μ1, W1, x, h1, h2, h3, h4⟩ := h
    refine ⟨h0, μ1, W1, x, X.trans R' h1, h2, h3, fun fr cs q1 q2 q3 q4 q5 => ?_⟩
    obtain ⟨fr1, p0, p1, p2, p3, p4, p5⟩ := hst fr cs q1 q2 q3 q4 q5
    obtain ⟨fr', k0, k⟩ := h4 fr1 cs p1 p2 p3 p4 p5
    exact ⟨fr', p0.trans k0, k⟩
  | pan v s1 rd' =>
    obtain ⟨h0, μ1, W1, x, h1, h2, h3, h4⟩ := h
    refine ⟨h0, μ1, W1, x, X.trans R' h1, h2, h3, fun fr cs q1 q2 q3 q4 q5 => ?_⟩
    obtain ⟨fr1, p0, p1, p2, p3, p4, p5⟩ := hst fr cs q1 q2 q3 q4 q5
    obtain ⟨fr', k0, k⟩ := h4 fr1 cs p1 p2 p3 p4 p5
    exact ⟨fr', p0.trans k0, k⟩
theorem outMode_ne {px : Option Value} : outMode px ≠ .run := by cases px <;> (intro h; cases h)
theorem leave_ok (ok : EnvOk E P) (hrc : RecOk E P FitP rc) {f : Nat} {fn : Func} {kind : CallKind} {tmps : Array Value} {rd : Bool} (hK : ∀ t ∈ resTmps fn.results.toList, K t) :
    ∀ {df : List V} {s : S} {μ : Mu} {W : World} {pan : Option V} {px : Option Value} {ds : List Deferred}, Rel E A s μ W → DRs μ (St A s μ W) W df ds → TmpK K μ (St A s μ W) W T tmps → PanR μ (St A s μ W) W pan px →
    LeaveOut E P A s μ W f fn kind tmps ds px rd (leave df E rc fn T pan rd s)
  | [], s, μ, W, pan, px, ds, R, hD, hT, hP => by
    cases hD
    cases pan with
    | none =>
      cases px with
      | some _ => exact hP.elim
      | none =>
        show LeaveOut E P A s μ W f fn kind tmps [] none rd (optC (resultsL E T s fn.results.toList) .fail fun l => .ret (tupled l) s rd)
        cases hr : resultsL E T s fn.results.toList with
        | none => trivial
        | some l =>
          obtain ⟨x, hx, hv⟩ := results_sound ok R hT hK hr
          exact ⟨rfl, μ, W, x, ExtA.refl _ _ _ _, R, hv, fun fr cs q1 q2 q3 q4 q5 => ⟨fr, .refl _ _, q1, q2, q5, q4, q3 ▸ hx⟩⟩
    | some v =>
      cases px with
      | none => exact hP.elim
      | some vx => exact ⟨rfl, μ, W, vx, ExtA.refl _ _ _ _, R, hP, fun fr cs q1 q2 q3 q4 q5 => ⟨fr, .refl _ _, q1, q2, q5, q4⟩⟩
  | d :: df, s, μ, W, pan, px, ds, R, hD, hT, hP => by
    cases hD with
    | cons _ d' _ ds hd hD =>
      show LeaveOut E P A s μ W f fn kind tmps (d' :: ds) px rd (leave1 d (leave df) E rc fn T pan rd s)
      cases hd with
      | mark b β σ args hm =>
        show LeaveOut E P A s μ W f fn kind tmps _ px rd (boolC (Nat.blt b s.lo) (boolC (blkMark (s.heap.get b)) .fail (leave df E rc fn T pan rd (s.drop b))) .fail)
        cases hlo : Nat.blt b s.lo with
        | true => trivial
        | false =>
        have hlo : s.lo ≤ b := by
          rcases Nat.lt_or_ge b s.lo with h | h
          · have : Nat.blt b s.lo = true := Nat.ble_eq_true_of_le h
            rw [this] at hlo; cases hlo
          · exact h
        rw [boolC_false]
        cases hbm : blkMark (s.heap.get b) with
        | false => trivial
        | true =>
        rw [boolC_true]
        have hb : s.heap.get b = some .mark := by
          unfold blkMark at hbm
          split at hbm
          · rename_i h; exact h
          · cases hbm
        obtain ⟨β', σ', hm', hbr⟩ := R.br b _ hb
        rw [hm] at hm'
        cases hm'
        cases hbr with
        | mark hσ hh =>
          subst hσ
          obtain ⟨X, R1⟩ := R.dropMark hb hm hlo hh
          have V := X.vext R
          refine (leave_ok ok hrc hK R1 (hD.ext V) (hT.ext V) (hP.ext V)).head X.toA R1 fun fr cs q1 q2 q3 q4 q5 => ?_
          have := step_collected (P := P) (cs := cs) (w := W) (fr := fr) (by rw [q5]; exact outMode_ne) q4 rfl (run_takeDeferred hh)
          exact ⟨_, .one this, q1, q2, q3, rfl, q5⟩
      | fn g c0 c1 xs ys hf ha hc =>
        have ht := target_sound (P := P) ok (VR.fn g c0 c1 xs ys hf ha hc) (args := []) (xs := #[]) .nil
        show LeaveOut E P A s μ W f fn kind tmps _ px rd (leaveTo (target E (.fn g c0 c1) []) (leave df) E rc fn T pan rd s)
        cases hT' : target E (.fn g c0 c1) [] with
        | no => trivial
        | y l args => trivial
        | f n args =>
          rw [hT'] at ht
          obtain ⟨xs', hxs', hrun⟩ := ht
          have hrun : ∀ w, (invoke (.fn g ys) xs).run P w = (callFunc n xs').run P w := fun w => by
            have := hrun w
            simpa [Deferred.ofValue] using this
          show LeaveOut E P A s μ W f fn kind tmps _ px rd (afterDefer (rc.body n args true pan s) pan fun p s => leave df E rc fn T p rd s)
          have hdk : DkOk μ (St A s μ W) W true pan (ckOf px) := by
            cases pan <;> cases px <;> first | exact hP.elim | rfl | exact ⟨_, rfl, hP⟩
          have hb := hrc.body A n args xs' s μ W true pan (ckOf px) R hxs' hdk
          cases hr : rc.body n args true pan s with
          | fail => trivial
          | pan _ _ _ => trivial
          | ret v1 s1 rd1 =>
            rw [hr] at hb
            obtain ⟨hen, _, μ1, W1, x, X, R1, hv, hst⟩ := hb
            show LeaveOut E P A s μ W f fn kind tmps _ px rd (leave df E rc fn T (boolC rd1 pan none) rd s1)
            have V := X.vext R
            have hP1 : PanR μ1 (St A s1 μ1 W1) W1 (boolC rd1 pan none) (if rd1 then none else px) := by
              cases rd1 with
              | true => trivial
              | false => exact hP.ext V
            refine (leave_ok ok hrc hK R1 (hD.ext V) (hT.ext V) hP1).head X R1 fun fr cs q1 q2 q3 q4 q5 => ?_
            have e1 := step_defer (P := P) (cs := cs) (w := W) (fr := fr) (by rw [q5]; exact outMode_ne) q4 rfl ((hrun W).trans hen)
            have hB : Bs (ckOf px) ({ fr with defers := ds } :: cs) := by
              cases px with
              | none => exact ⟨_, _, rfl, q5⟩
              | some vx => exact ⟨_, _, [], rfl, q5⟩
            obtain ⟨fr1, hs1, p1, p2, p3, p4, fn1, p5, p6⟩ := hst ({ fr with defers := ds } :: cs) hB
            have hgo : fr1.going P W1 (.returned x) := ⟨p3, p4, fn1, p1 ▸ p5, p6⟩
            cases rd1 with
            | false =>
              have e2 := step_going_returned (c := { fr with defers := ds }) (cs := cs) p2 hgo
              refine ⟨_, .head e1 (hs1.trans (.one e2)), q1, q2, q3, rfl, ?_⟩
              show settle fr.mode = outMode px
              rw [q5]
              cases px <;> rfl
            | true =>
              have htop : ∃ c, recTop ({ fr with defers := ds } :: cs) = c :: cs ∧ c.fn = fr.fn ∧ c.kind = fr.kind ∧ c.tmps = fr.tmps ∧ c.defers = ds ∧ settle c.mode = .returning := by
                cases px with
                | none =>
                  have q5 : fr.mode = .returning := q5
                  refine ⟨{ fr with defers := ds }, ?_, rfl, rfl, rfl, rfl, ?_⟩
                  · unfold recTop; simp only [q5]
                  · show settle fr.mode = _; rw [q5]; rfl
                | some vx =>
                  have q5 : fr.mode = .panicking [{ v := vx, recovered := false }] := q5
                  refine ⟨{ { fr with defers := ds } with mode := .panicking [{ v := vx, recovered := true }] }, ?_, rfl, rfl, rfl, rfl, rfl⟩
                  unfold recTop; simp only [q5]
              obtain ⟨c, hc0, c1, c2, c3, c4, c5⟩ := htop
              rw [if_pos rfl, hc0] at hs1
              have e2 := step_going_returned (c := c) (cs := cs) p2 hgo
              exact ⟨_, .head e1 (hs1.trans (.one e2)), c1.trans q1, c2.trans q2, c3.trans q3, c4, c5⟩
end
end Go.AM
end
section
namespace Go.AM
open Go
section
variable {E : Env} {P : Program} {A : Al} {s s' : S} {μ μ' : Mu} {Sx : Nat → Prop} {W W' : World} {T : List V} {m : M} {b : Frame} {ck : CK} {a : Act} {v : V} {rc : Rec} {K : Nat → Prop}
theorem FitP.imp {c c' : Code} (h : FitP K c) (hc : ∀ Kl, cOk Kl c = true → cOk Kl c' = true) : FitP K c' := let ⟨Kl, h1, h2⟩ := h; ⟨Kl, h1, hc Kl h2⟩
theorem exec_all (ok : EnvOk E P) (hrc : RecOk E P FitP rc) : ∀ c : Code, FitP K c → CodeOk E P A K (exec c E rc) (.code c)
  | .skip, _ => exec_skip
  | .region id ops d, h => by
    cases d with
    | false => exact exec_region_text ok hrc (yield_ok hrc)
    | true =>
      obtain ⟨Kl, rfl, h⟩ := h
      cases hsw : swpTest ops.toList with
      | true => exact exec_region_swap ok hrc (yield_ok hrc) hsw (by simpa [cOk, hsw] using h)
      | false => exact exec_region_draw ok hrc (yield_ok hrc) hsw (by simpa [cOk, hsw] using h)
  | .seq x y, h => exec_seq (exec_all ok hrc x (h.imp fun Kl h => by simp [cOk] at h; exact h.1)) (exec_all ok hrc y (h.imp fun Kl h => by simp [cOk] at h; exact h.2))
  | .cond c x y, h => exec_cond (exec_all ok hrc x (h.imp fun Kl h => by simp [cOk] at h; exact h.1)) (exec_all ok hrc y (h.imp fun Kl h => by simp [cOk] at h; exact h.2))
  | .block id x, h => exec_block (exec_all ok hrc x (h.imp fun Kl h => h))
  | .loop x, h => exec_loop hrc (h.imp fun Kl h => h) (exec_all ok hrc x (h.imp fun Kl h => h))
  | .rangeFunc g ps x y, h => exec_range ok hrc h
  | .exit id, _ => exec_exit
  | .scope x, h => exec_scope (exec_all ok hrc x (h.imp fun Kl h => h))
  | .label l, _ => exec_label
  | .goto l, _ => fun _ _ _ _ _ _ _ _ _ _ => trivial
  | .ret, _ => exec_ret
  | .refuse w, _ => fun _ _ _ _ _ _ _ _ _ _ => trivial
theorem repeat_undef (n : Nat) : VRs μ Sx W (repeatL [undef] n) (List.replicate n Go.undef) := by
  induction n with
  | zero => exact .nil
  | succ n ih => exact .cons _ _ _ _ undef_rel ih
theorem run_callFunc_enter (ok : EnvOk E P) {f : Nat} {fn : Func} {c : Code} (hf : E.fn f = some fn) (hb : fn.body = some c) (xs : Array Value) : (callFunc f xs).run P W = .ok (.enter f xs) W := by
  have h1 := ok.fn f fn hf
  have h2 := ok.name f fn hf
  have h3 : ¬ fn.name = "runtime.NumGoroutine" := by simpa using h2
  simp [callFunc, h1, h3, hb]
theorem body_good' (ok : EnvOk E P) (hrc : RecOk E P FitP rc) {f : Nat} {fn : Func} {c : Code} (hf : E.fn f = some fn) (hb : fn.body = some c) {args : List V} {xs : Array Value} {dk : Bool} {p : Option V} (R : Rel E A s μ W) (hargs : VRs μ (St A s μ W) W args xs.toList) (hdk : DkOk μ (St A s μ W) W dk p ck)
    {r0 : CR} (hgood : ∀ b a0, FR A s μ W (frame0 fn args) (bodyM dk p) b ck a0 → ∃ r, bodyEnd E rc fn r = r0 ∧ Good E P A (KP (resTmps fn.results.toList)) b ck s μ W (fun base k => lone (b.atR a0 (.code c :: k)) (csOf (bodyM dk p) base) W) r) :
    BodyOut E P A s μ W f xs dk ck r0 := by
  have hen := run_callFunc_enter (W := W) ok hf hb xs
  have hfn := ok.fn f fn hf
  let b : Frame := { (default : Frame) with fn := f, kind := kindOfDk dk, roundOf := none }
  let a0 : Act := { tmps := xs ++ Array.replicate (fn.ntmps - xs.size) Go.undef, defers := [] }
  have henter : Frame.enter P f xs (kindOfDk dk) = b.atR a0 [.code c] := by simp [Frame.enter, Frame.atR, hfn, hb, b, a0]
  have hlen : xs.size = args.length := by have := hargs.length; simpa using this
  have hTr : VRs μ (St A s μ W) W (frame0 fn args) a0.tmps.toList := by
    show VRs _ _ _ (app args (repeatL [undef] (fn.ntmps - len args))) _
    rw [app_eq, len_eq]
    show VRs _ _ _ _ (xs ++ Array.replicate (fn.ntmps - xs.size) Go.undef).toList
    rw [Array.toList_append, Array.toList_replicate, hlen]
    exact hargs.append (repeat_undef _)
  have F : FR A s μ W (frame0 fn args) (bodyM dk p) b ck a0 := by
    refine ⟨hTr, .nil, .inl ⟨rfl, rfl⟩, ?_, fun h => rfl, fun h => ?_⟩
    · show kindOfDk dk = _; cases dk <;> rfl
    · have h : dk = true := h
      subst h
      cases p with
      | none => exact .inl ⟨hdk, rfl, rfl⟩
      | some v => obtain ⟨vx, h1, h2⟩ := hdk; exact .inr ⟨v, vx, h1, rfl, h2⟩
  obtain ⟨r, hr0, hg⟩ := hgood b a0 F
  rw [← hr0]
  clear hr0 hgood r0
  have hK : ∀ t ∈ resTmps fn.results.toList, KP (resTmps fn.results.toList) t := fun t h => h
  -- the way out
  have out : ∀ (m : M) (T1 : List V) (s1 : S) (μ1 : Mu) (W1 : World) (a1 : Act) (pan : Option V) (px : Option Value), ExtA A s μ W s1 μ1 W1 → Rel E A s1 μ1 W1 → FRK (KP (resTmps fn.results.toList)) A s1 μ1 W1 T1 m b ck a1 → PanR μ1 (St A s1 μ1 W1) W1 pan px →
      (∀ base, Bs ck base → ∃ fr, Steps P (lone (b.atR a0 [.code c]) base W) (lone fr (csOf m base) W1) ∧ fr.fn = f ∧ fr.kind = kindOfDk dk ∧ fr.tmps = a1.tmps ∧ fr.defers = a1.defers ∧ fr.mode = outMode px) →
      BodyOut E P A s μ W f xs dk ck (leave m.df E rc fn T1 pan m.rd s1) := by
    intro m T1 s1 μ1 W1 a1 pan px X R1 F1 hP hst
    have hl := leave_ok (f := f) (kind := kindOfDk dk) (tmps := a1.tmps) (rd := m.rd) ok hrc hK R1 F1.df F1.tmps hP
    have hrd1 : dk = false → m.rd = false := fun h => by
      refine F1.caller.1 ?_
      have hk := F1.kind
      cases hm : m.dk with
      | false => rfl
      | true =>
        rw [hm] at hk
        have hk : kindOfDk dk = .deferred := hk
        rw [h] at hk; cases hk
    cases hr : leave m.df E rc fn T1 pan m.rd s1 with
    | fail => trivial
    | ret v s2 rd =>
      rw [hr] at hl
      obtain ⟨rfl, μ2, W2, x, X2, R2, hv, h2⟩ := hl
      refine ⟨hen, hrd1, μ2, W2, x, X.trans R1 X2, R2, hv, fun base hB => ?_⟩
      obtain ⟨fr, q0, q1, q2, q3, q4, q5⟩ := hst base hB
      obtain ⟨fr', k0, k1, k2, k3, k4, k5⟩ := h2 fr (csOf m base) q1 q2 q3 q4 q5
      rw [henter]
      exact ⟨fr', q0.trans k0, k1, k2, k3, k4, fn, hfn, k5⟩
    | pan v s2 rd =>
      rw [hr] at hl
      obtain ⟨rfl, μ2, W2, x, X2, R2, hv, h2⟩ := hl
      refine ⟨hen, hrd1, μ2, W2, x, X.trans R1 X2, R2, hv, fun base hB => ?_⟩
      obtain ⟨fr, q0, q1, q2, q3, q4, q5⟩ := hst base hB
      obtain ⟨fr', k0, k1, k2, k3, k4⟩ := h2 fr (csOf m base) q1 q2 q3 q4 q5
      rw [henter]
      exact ⟨fr', q0.trans k0, k1, k2, k3, k4, fn, hfn⟩
  have hcs0 : ∀ base, csOf (bodyM dk p) base = base := fun base => rfl
  cases r with
  | fail => trivial
  | exit id T1 m s1 => trivial
  | norm T1 m s1 =>
    obtain ⟨μ1, W1, a1, X, R1, F1, hst⟩ := hg
    refine out m T1 s1 μ1 W1 a1 none none X R1 F1.toK trivial fun base hB => ?_
    exact ⟨_, (hst base hB []).trans (.one (stepR_end rfl)), rfl, rfl, rfl, rfl, rfl⟩
  | ret T1 m s1 =>
    obtain ⟨μ1, W1, a1, X, R1, F1, hst⟩ := hg
    refine out m T1 s1 μ1 W1 a1 none none X R1 F1.toK trivial fun base hB => ?_
    obtain ⟨k₁, h⟩ := hst base hB []
    exact ⟨_, h.trans (.one (stepR_ret rfl)), rfl, rfl, rfl, rfl, rfl⟩
  | pan v T1 m s1 =>
    obtain ⟨μ1, W1, a1, vx, X, R1, F1, hv, hst⟩ := hg
    refine out m T1 s1 μ1 W1 a1 (some v) (some vx) X R1 F1 hv fun base hB => ?_
    obtain ⟨todo, h⟩ := hst base hB []
    exact ⟨_, h, rfl, rfl, rfl, rfl, rfl⟩
theorem body_ok (ok : EnvOk E P) (hrc : RecOk E P FitP rc) {f : Nat} {args : List V} {xs : Array Value} {dk : Bool} {p : Option V} (R : Rel E A s μ W) (hargs : VRs μ (St A s μ W) W args xs.toList) (hdk : DkOk μ (St A s μ W) W dk p ck) :
    BodyOut E P A s μ W f xs dk ck (doBody E rc f args dk p s) := by
  unfold doBody
  cases hf : E.fn f with
  | none => trivial
  | some fn =>
    rw [optC_some]
    cases hb : fn.body with
    | none => trivial
    | some c =>
      rw [optC_some]
      exact body_good' ok hrc hf hb R hargs hdk fun b a0 F => ⟨_, rfl, exec_all (A := A) ok hrc c ⟨resTmps fn.results.toList, rfl, ok.draws f fn c hf hb⟩ (frame0 fn args) (bodyM dk p) s μ W b ck a0 R F⟩
end
end Go.AM
end
section
namespace Go.AM
open Go
section
variable {E : Env} {P : Program} {A A1 : Al} {s s1 : S} {μ μ1 : Mu} {Sx Sx1 : Nat → Prop} {W W1 : World} {keep : Nat → Bool} {inner : Bool} {blk : Nat → Nat → Nat → Nat → Option V}
mutual
theorem VR.data (hst : ∀ β, Sx1 β → Sx β) : ∀ {v : V} {x : Value}, VR μ1 Sx1 W v x → dataV v = true → VR μ Sx W v x
  | _, _, .bool b, _ => .bool b
  | _, _, .int k n, _ => .int k n
  | _, _, .str s, _ => .str s
  | _, _, .nilp, _ => .nilp
  | _, _, .ptr b off β σ _, h => by cases h
  | _, _, .lptr c β o xs hc hx hs hd, h => .lptr c β o xs (VRs.data hst hc hd) hx (hst β hs) hd
  | _, _, .nils, _ => .nils
  | _, _, .sl b off n sz β σ cap clip _ _ _ _, h => by cases h
  | _, _, .lsl0 a cap clip hc, _ => .lsl0 a cap clip hc
  | _, _, .lsl c n cap β o clip xs h0 hn hk hc hx hs hd, h => .lsl c n cap β o clip xs h0 hn hk (VRs.data hst hc hd) hx (hst β hs) hd
  | _, _, .nilm, _ => .nilm
  | _, _, .map b β _, h => by cases h
  | _, _, .fn f a c xs ys hf ha hc, h => by
    have e : dataV (.fn f a c) = (!isYield f && dataL a && dataL c) := by cases f <;> rfl
    rw [e, Bool.and_eq_true, Bool.and_eq_true] at h
    exact .fn f a c xs ys hf (VRs.data hst ha h.1.2) (VRs.data hst hc h.2)
  | _, _, .yield l β _, h => by cases h
  | _, _, .nilf, _ => .nilf
  | _, _, .iface t v x hv, h => .iface t v x (VR.data hst hv h)
  | _, _, .nili, _ => .nili
  | _, _, .agg c xs hc, h => .agg c xs (VRs.data hst hc h)
  | _, _, .tup c xs hc, h => .tup c xs (VRs.data hst hc h)
theorem VRs.data (hst : ∀ β, Sx1 β → Sx β) : ∀ {c : List V} {xs : List Value}, VRs μ1 Sx1 W c xs → dataL c = true → VRs μ Sx W c xs
  | _, _, .nil, _ => .nil
  | _, _, .cons v c x xs hv hc, h => by
    have h : (dataV v && dataL c) = true := h
    rw [Bool.and_eq_true] at h
    exact .cons v c x xs (VR.data hst hv h.1) (VRs.data hst hc h.2)
end
theorem reachL_mem {f : V → List Nat} {c : List V} {v : V} {b : Nat} (hv : v ∈ c) (h : b ∈ f v) : b ∈ reachL f c := by
  induction c with
  | nil => cases hv
  | cons w c ih =>
    show b ∈ app (f w) (reachL f c)
    rw [app_eq, List.mem_append]
    rcases List.mem_cons.1 hv with rfl | hv
    · exact .inl h
    · exact .inr (ih hv)
theorem fn_reach {f : Nat → List Nat} {g : Fn} {a c : List V} {b : Nat} (h : b ∈ reachVs f a ∨ b ∈ reachVs f c) : b ∈ reachV f (.fn g a c) := by
  show b ∈ app (reachVs f a) (reachVs f c)
  rw [app_eq, List.mem_append]; exact h
def BlkOk (μ1 μ : Mu) (Sx1 Sx : Nat → Prop) (W : World) (keep : Nat → Bool) (blk : Nat → Nat → Nat → Nat → Option V) (rch : Nat → List Nat) (Ok : Nat → Prop) : Prop :=
  ∀ b off n sz β σ cap v', keep b = false → (∀ i ∈ rch b, Ok i) → μ1 b = some (β, σ) → n ≤ cap → blk b off n sz = some v' → dataV v' = true ∧ VR μ Sx W v' (.slice (some ⟨β, σ + off, none⟩) n cap)
mutual
theorem rsvV_ok (hkeep : ∀ b, keep b = true → ∀ p, μ1 b = some p → μ b = some p) (hst : ∀ β, Sx1 β → Sx β) {rch : Nat → List Nat} {Ok : Nat → Prop} (hblk : BlkOk μ1 μ Sx1 Sx W keep blk rch Ok) :
    ∀ {v : V} {x : Value} {v' : V}, VR μ1 Sx1 W v x → (∀ b ∈ reachV rch v, Ok b) → rsvV blk inner keep v = some v' → VR μ Sx W v' x ∧ ((∀ b, keep b = false) ∨ inner = true → dataV v' = true)
  | .bool _, _, _, .bool b, _, h => by cases h; exact ⟨.bool _, fun _ => rfl⟩
  | .int _ _, _, _, .int k n, _, h => by cases h; exact ⟨.int _ _, fun _ => rfl⟩
  | .str _, _, _, .str s, _, h => by cases h; exact ⟨.str _, fun _ => rfl⟩
  | .nilp, _, _, .nilp, _, h => by cases h; exact ⟨.nilp, fun _ => rfl⟩
  | .ptr b off, _, v', .ptr _ _ β σ hm, _, h => by
    have h : boolC (keep b) none (boolC inner (some (.ptr b off)) none) = some v' := h
    cases hk : keep b with
    | false => rw [hk] at h; cases h
    | true =>
      rw [hk] at h
      cases hi : inner with
      | true => rw [hi] at h; cases h
      | false =>
        rw [hi] at h; cases h
        exact ⟨.ptr b off β σ (hkeep b hk _ hm), fun hh => hh.elim (fun hh => by rw [hh b] at hk; cases hk) (fun hh => by cases hh)⟩
  | .lptr c, _, _, .lptr _ β o xs hc hx hs hd, _, h => by
    cases h
    exact ⟨.lptr c β o xs (VRs.data hst hc hd) hx (hst β hs) hd, fun _ => hd⟩
  | .nils, _, _, .nils, _, h => by cases h; exact ⟨.nils, fun _ => rfl⟩
  | .sl b off n sz clip, _, v', .sl _ _ _ _ β σ cap _ hm hn hc hr, ho, h => by
    have h : boolC (keep b) (blk b off n sz) (boolC inner (some (.sl b off n sz clip)) none) = some v' := h
    cases hk : keep b with
    | false =>
      rw [hk] at h
      have := hblk b off n sz β σ cap v' hk ho hm hn h
      exact ⟨this.2, fun _ => this.1⟩
    | true =>
      rw [hk] at h
      cases hi : inner with
      | true => rw [hi] at h; cases h
      | false =>
        rw [hi] at h; cases h
        exact ⟨.sl b off n sz β σ cap clip (hkeep b hk _ hm) hn hc hr, fun hh => hh.elim (fun hh => by rw [hh b] at hk; cases hk) (fun hh => by cases hh)⟩
  | .lsl _ _ _, _, _, .lsl0 a cap clip hc, _, h => by cases h; exact ⟨.lsl0 a cap false (fun h => by cases h), fun _ => rfl⟩
  | .lsl c n _, _, _, .lsl _ _ cap β o clip xs h0 hn hk hc hx hs hd, _, h => by
    cases h
    exact ⟨.lsl c n cap β o false xs h0 hn (fun h => by cases h) (VRs.data hst hc hd) hx (hst β hs) hd, fun _ => hd⟩
  | .nilm, _, _, .nilm, _, h => by cases h; exact ⟨.nilm, fun _ => rfl⟩
  | .map b, _, v', .map _ β hm, _, h => by
    have h : boolC (keep b) none (boolC inner (some (.map b)) none) = some v' := h
    cases hk : keep b with
    | false => rw [hk] at h; cases h
    | true =>
      rw [hk] at h
      cases hi : inner with
      | true => rw [hi] at h; cases h
      | false =>
        rw [hi] at h; cases h
        exact ⟨.map b β (hkeep b hk _ hm), fun hh => hh.elim (fun hh => by rw [hh b] at hk; cases hk) (fun hh => by cases hh)⟩
  | .fn f a c, _, v', .fn _ _ _ xs ys hf ha hc, ho, h => by
    have h : boolC (isYield f) (bind (rsvVs blk inner keep a) fun a => bind (rsvVs blk inner keep c) fun c => some (.fn f a c)) none = some v' := h
    have hy : isYield f = false := by cases f <;> first | rfl | exact absurd rfl (hf _)
    rw [hy] at h
    obtain ⟨a', ha', h⟩ := bind_eq_some.1 h
    obtain ⟨c', hc', h⟩ := bind_eq_some.1 h
    cases h
    obtain ⟨q1, q2⟩ := rsvVs_ok hkeep hst hblk ha (fun b hb => ho b (fn_reach (.inl hb))) ha'
    obtain ⟨q3, q4⟩ := rsvVs_ok hkeep hst hblk hc (fun b hb => ho b (fn_reach (.inr hb))) hc'
    refine ⟨.fn f a' c' xs ys hf q1 q3, fun hh => ?_⟩
    have e : dataV (.fn f a' c') = (!isYield f && dataL a' && dataL c') := by cases f <;> rfl
    rw [e, hy, q2 hh, q4 hh]; rfl
  | .fn _ _ _, _, v', .yield l β hm, _, h => by cases h
  | .nilf, _, _, .nilf, _, h => by cases h; exact ⟨.nilf, fun _ => rfl⟩
  | .iface t v, _, v', .iface _ _ x hv, ho, h => by
    obtain ⟨w, hw, h⟩ := bind_eq_some.1 (show bind (rsvV blk inner keep v) (fun v => some (.iface t v)) = some v' from h)
    cases h
    obtain ⟨q1, q2⟩ := rsvV_ok hkeep hst hblk hv ho hw
    exact ⟨.iface t w x q1, q2⟩
  | .nili, _, _, .nili, _, h => by cases h; exact ⟨.nili, fun _ => rfl⟩
  | .agg c, _, v', .agg _ xs hc, ho, h => by
    obtain ⟨l, hl, rfl⟩ := aggO_eq_some.1 (show aggO (rsvVs blk inner keep c) = some v' from h)
    obtain ⟨q1, q2⟩ := rsvVs_ok hkeep hst hblk hc ho hl
    exact ⟨.agg l xs q1, q2⟩
  | .tup c, _, v', .tup _ xs hc, ho, h => by
    obtain ⟨l, hl, h⟩ := bind_eq_some.1 (show bind (rsvVs blk inner keep c) (fun c => some (.tup c)) = some v' from h)
    cases h
    obtain ⟨q1, q2⟩ := rsvVs_ok hkeep hst hblk hc ho hl
    exact ⟨.tup l xs q1, q2⟩
theorem rsvVs_ok (hkeep : ∀ b, keep b = true → ∀ p, μ1 b = some p → μ b = some p) (hst : ∀ β, Sx1 β → Sx β) {rch : Nat → List Nat} {Ok : Nat → Prop} (hblk : BlkOk μ1 μ Sx1 Sx W keep blk rch Ok) :
    ∀ {c : List V} {xs : List Value} {c' : List V}, VRs μ1 Sx1 W c xs → (∀ b ∈ reachVs rch c, Ok b) → rsvVs blk inner keep c = some c' → VRs μ Sx W c' xs ∧ ((∀ b, keep b = false) ∨ inner = true → dataL c' = true)
  | [], _, _, .nil, _, h => by cases h; exact ⟨.nil, fun _ => rfl⟩
  | v :: c, _, c', .cons _ _ x xs hv hc, ho, h => by
    obtain ⟨w, r, hw, hr, rfl⟩ := consO_eq_some.1 (show consO (rsvV blk inner keep v) (rsvVs blk inner keep c) = some c' from h)
    obtain ⟨q1, q2⟩ := rsvV_ok hkeep hst hblk hv (fun b hb => ho b (by show b ∈ app (reachV rch v) (reachVs rch c); rw [app_eq, List.mem_append]; exact .inl hb)) hw
    obtain ⟨q3, q4⟩ := rsvVs_ok hkeep hst hblk hc (fun b hb => ho b (by show b ∈ app (reachV rch v) (reachVs rch c); rw [app_eq, List.mem_append]; exact .inr hb)) hr
    refine ⟨.cons _ _ _ _ q1 q3, fun hh => ?_⟩
    show (dataV w && dataL r) = true
    rw [q2 hh, q4 hh]; rfl
end
theorem rsvL_ok {f : V → Option V} {Ok : V → Prop} (hf : ∀ v x v', Ok v → VR μ1 Sx1 W v x → f v = some v' → VR μ Sx W v' x ∧ dataV v' = true) : ∀ {c c' : List V} {xs : List Value}, (∀ v ∈ c, Ok v) → VRs μ1 Sx1 W c xs → rsvL f c = some c' → VRs μ Sx W c' xs ∧ dataL c' = true
  | [], c', _, _, .nil, h => by cases h; exact ⟨.nil, rfl⟩
  | v :: c, c', _, ho, .cons _ _ x xs hv hc, h => by
    obtain ⟨w, r, hw, hr, rfl⟩ := consO_eq_some.1 (show consO (f v) (rsvL f c) = some c' from h)
    obtain ⟨q1, q2⟩ := hf v x w (ho v (by simp)) hv hw
    obtain ⟨q3, q4⟩ := rsvL_ok hf (fun z hz => ho z (by simp [hz])) hc hr
    exact ⟨.cons _ _ _ _ q1 q3, by show (dataV w && dataL r) = true; rw [q2, q4]; rfl⟩
theorem rsvN_ok (R1 : Rel E A1 s1 μ1 W) (hkeep : ∀ b, keep b = true → ∀ p, μ1 b = some p → μ b = some p) (hst : ∀ β, St A1 s1 μ1 W β → Sx β) {Ok : Nat → Prop}
    (hrow : ∀ b own t c β σ, keep b = false → Ok b → s1.heap.get b = some (.cells own t c) → μ1 b = some (β, σ) → Sx β) :
    ∀ {n : Nat} {inner : Bool} {v : V} {x : Value} {v' : V}, VR μ1 (St A1 s1 μ1 W) W v x → (∀ b ∈ reachN s1.heap n v, Ok b) → rsvN s1.heap keep n inner v = some v' → VR μ Sx W v' x ∧ ((∀ b, keep b = false) ∨ inner = true → dataV v' = true) := by
  intro n
  induction n with
  | zero => intro inner v x v' _ _ h; cases h
  | succ n ih =>
    intro inner v x v' hv ho h
    have h : rsvV (rowOf s1.heap (rsvN s1.heap keep n true)) inner keep v = some v' := h
    have ho : ∀ b ∈ reachV (fun b => b :: optC (blkCells (s1.heap.get b)) [] (reachL (reachN s1.heap n))) v, Ok b := ho
    refine rsvV_ok hkeep hst (rch := fun b => b :: optC (blkCells (s1.heap.get b)) [] (reachL (reachN s1.heap n))) (Ok := Ok) ?_ hv ho h
    intro b off cnt sz β σ cap w hk hO hm hn hr
    have hO : ∀ i ∈ b :: optC (blkCells (s1.heap.get b)) [] (reachL (reachN s1.heap n)), Ok i := hO
    obtain ⟨c, hc, h1⟩ := bind_eq_some.1 hr
    obtain ⟨l, hl, h2⟩ := bind_eq_some.1 h1
    obtain ⟨l', hl', h3⟩ := bind_eq_some.1 h2
    cases h3
    have hb : ∃ own t, s1.heap.get b = some (.cells own t c) := by
      unfold blkCells at hc
      split at hc
      · rename_i own t c1 hb; cases hc; exact ⟨own, t, hb⟩
      · cases hc
    obtain ⟨own, t, hb⟩ := hb
    obtain ⟨β', σ', hm', hbr⟩ := R1.br b _ hb
    rw [hm] at hm'
    cases hm'
    cases hbr with
    | cells _ _ _ row elem fr xs hh hf ht hcs hx =>
      rw [dropN_eq] at hl
      obtain ⟨ys, hys, hly, hlen⟩ := takeN_rel (hcs.drop off) hl
      have hsub : ∀ z ∈ l, z ∈ c := by
        obtain ⟨_, rfl⟩ := takeN_eq_some.1 hl
        exact fun z hz => List.mem_of_mem_drop (List.mem_of_mem_take hz)
      have hrch : optC (blkCells (s1.heap.get b)) [] (reachL (reachN s1.heap n)) = reachL (reachN s1.heap n) c := by rw [hc]; rfl
      obtain ⟨q1, q2⟩ := rsvL_ok (Ok := fun z => z ∈ c) (fun z x z' hz hzx hz' => by
        have := ih hzx (fun i hi => hO i (by rw [hrch]; exact List.mem_cons_of_mem _ (reachL_mem hz hi))) hz'
        exact ⟨this.1, this.2 (.inr rfl)⟩) hsub hly hl'
      refine ⟨q2, ?_⟩
      by_cases h0 : cnt = 0
      · subst h0
        have : l' = [] := by
          have := q1.length
          rw [hlen] at this
          exact List.length_eq_zero_iff.1 (by rw [← this]; simp)
        subst this
        exact .lsl0 _ _ _ (fun h => by cases h)
      · refine .lsl l' cnt cap β (σ + off) false ys (by omega) hn (fun h => by cases h) q1 ?_ (hrow b own t c β σ hk (hO b (by simp)) hb hm) q2
        rw [hys]; exact (hx.drop off).take _
theorem rsvArgs_ok (R1 : Rel E A1 s1 μ1 W) (hst : ∀ β, St A1 s1 μ1 W β → Sx β) {Ok : Nat → Prop} (hrow : ∀ b own t c β σ, Ok b → s1.heap.get b = some (.cells own t c) → μ1 b = some (β, σ) → Sx β) :
    ∀ {c c' : List V} {xs : List Value}, VRs μ1 (St A1 s1 μ1 W) W c xs → (∀ b ∈ reachL (reachN s1.heap deep) c, Ok b) → rsvL (rsvN s1.heap noBlk deep false) c = some c' → VRs μ Sx W c' xs ∧ dataL c' = true := by
  intro c c' xs hc ho h
  refine rsvL_ok (Ok := fun z => z ∈ c) (fun v x v' hv hvx h => ?_) (fun z hz => hz) hc h
  have := rsvN_ok (μ := μ) (Sx := Sx) R1 (keep := noBlk) (fun b h => by cases h) hst (Ok := Ok) (fun b own t c β σ _ h1 h2 h3 => hrow b own t c β σ h1 h2 h3) hvx (fun b hb => ho b (reachL_mem hv hb)) h
  exact ⟨this.1, this.2 (.inl fun _ => rfl)⟩
mutual
theorem VR.nolit : ∀ {v : V} {x : Value}, VR μ1 Sx1 W v x → dataV v = true → hasLit v = false → VR μ Sx W v x
  | _, _, .bool b, _, _ => .bool b
  | _, _, .int k n, _, _ => .int k n
  | _, _, .str s, _, _ => .str s
  | _, _, .nilp, _, _ => .nilp
  | _, _, .ptr b off β σ _, h, _ => by cases h
  | _, _, .lptr c β o xs hc hx hs hd, h, l => by cases l
  | _, _, .nils, _, _ => .nils
  | _, _, .sl b off n sz β σ cap clip _ _ _ _, h, _ => by cases h
  | _, _, .lsl0 a cap clip hc, _, _ => .lsl0 a cap clip hc
  | _, _, .lsl c n cap β o clip xs h0 hn hk hc hx hs hd, h, l => by
    have l : natC n false (fun _ => true) = false := l
    cases n with
    | zero => omega
    | succ n => cases l
  | _, _, .nilm, _, _ => .nilm
  | _, _, .map b β _, h, _ => by cases h
  | _, _, .fn f a c xs ys hf ha hc, h, l => by
    have e : dataV (.fn f a c) = (!isYield f && dataL a && dataL c) := by cases f <;> rfl
    rw [e, Bool.and_eq_true, Bool.and_eq_true] at h
    have l : boolC (hasLits a) (hasLits c) true = false := l
    rw [boolC_if] at l
    split at l
    · cases l
    · rename_i h1
      exact .fn f a c xs ys hf (VRs.nolit ha h.1.2 (by simpa using h1)) (VRs.nolit hc h.2 l)
  | _, _, .yield l β _, h, _ => by cases h
  | _, _, .nilf, _, _ => .nilf
  | _, _, .iface t v x hv, h, l => .iface t v x (VR.nolit hv h l)
  | _, _, .nili, _, _ => .nili
  | _, _, .agg c xs hc, h, l => .agg c xs (VRs.nolit hc h l)
  | _, _, .tup c xs hc, h, l => .tup c xs (VRs.nolit hc h l)
theorem VRs.nolit : ∀ {c : List V} {xs : List Value}, VRs μ1 Sx1 W c xs → dataL c = true → hasLits c = false → VRs μ Sx W c xs
  | _, _, .nil, _, _ => .nil
  | _, _, .cons v c x xs hv hc, h, l => by
    have h : (dataV v && dataL c) = true := h
    rw [Bool.and_eq_true] at h
    have l : boolC (hasLit v) (hasLits c) true = false := l
    rw [boolC_if] at l
    split at l
    · cases l
    · rename_i h1
      exact .cons v c x xs (VR.nolit hv h.1 (by simpa using h1)) (VRs.nolit hc h.2 l)
end
noncomputable def freezeH (lo : Nat) (bs : List Nat) : Tr AM.B → Option (Tr AM.B) := List.rec (motive := fun _ => Tr AM.B → Option (Tr AM.B)) (fun h => some h) (fun b _ ih h => bind (unown1 lo h b (h.get b)) ih) bs
theorem freezeH_ok : ∀ {bs : List Nat} {lo : Nat} {h h' : Tr AM.B}, freezeH lo bs h = some h' →
    (∀ b, h'.get b = h.get b ∨ ∃ t c, h.get b = some (.cells true t c) ∧ lo ≤ b ∧ h'.get b = some (.cells false t c)) ∧ ∀ b ∈ bs, ∀ own t c, h.get b = some (.cells own t c) → h'.get b = some (.cells false t c)
  | [], lo, h, h', e => by cases e; exact ⟨fun b => .inl rfl, fun b hb => by cases hb⟩
  | b0 :: bs, lo, h, h', e => by
    obtain ⟨h1, e1, e2⟩ := bind_eq_some.1 (show bind (unown1 lo h b0 (h.get b0)) (freezeH lo bs) = some h' from e)
    obtain ⟨p1, p2⟩ := freezeH_ok e2
    have step : (∀ b, h1.get b = h.get b ∨ ∃ t c, h.get b = some (.cells true t c) ∧ lo ≤ b ∧ h1.get b = some (.cells false t c)) ∧ ∀ own t c, h.get b0 = some (.cells own t c) → h1.get b0 = some (.cells false t c) := by
      unfold unown1 at e1
      split at e1
      · rename_i t c hc
        rw [boolC_if] at e1
        split at e1
        · cases e1
        · rename_i hlo
          cases e1
          have hlo : lo ≤ b0 := by
            rcases Nat.lt_or_ge b0 lo with h | h
            · exact absurd (Nat.ble_eq_true_of_le h : Nat.blt b0 lo = true) hlo
            · exact h
          refine ⟨fun b => ?_, fun own t' c' h' => ?_⟩
          · rw [Tr.get_set]
            split
            · rename_i hb; subst hb; exact .inr ⟨t, c, hc, hlo, rfl⟩
            · exact .inl rfl
          · rw [Tr.get_set, if_pos rfl]
            rw [hc] at h'; cases h'; rfl
      · rename_i hn
        cases e1
        refine ⟨fun b => .inl rfl, fun own t c h' => ?_⟩
        cases own with
        | true => exact absurd h' (hn t c)
        | false => exact h'
    refine ⟨fun b => ?_, fun b hb own t c hc => ?_⟩
    · rcases p1 b with h2 | ⟨t, c, h2, h3, h4⟩
      · rw [h2]; exact step.1 b
      · rcases step.1 b with h5 | ⟨t', c', h5, h6, h7⟩
        · exact .inr ⟨t, c, h5 ▸ h2, h3, h4⟩
        · rw [h7] at h2; cases h2
    · have fin : ∀ own', h1.get b = some (.cells own' t c) → h'.get b = some (.cells false t c) ∨ b ∈ bs := by
        intro own' h1b
        rcases p1 b with h2 | ⟨t', c', h2, _, h4⟩
        · cases own' with
          | false => left; rw [h2, h1b]
          | true =>
            rcases List.mem_cons.1 hb with rfl | hb
            · have := step.2 own t c hc; rw [this] at h1b; cases h1b
            · exact .inr hb
        · left; rw [h1b] at h2; cases h2; exact h4
      have h1b : ∃ own', h1.get b = some (.cells own' t c) := by
        rcases step.1 b with h5 | ⟨t', c', h5, _, h7⟩
        · exact ⟨own, h5.trans hc⟩
        · rw [hc] at h5; cases h5; exact ⟨false, h7⟩
      obtain ⟨own', h1b⟩ := h1b
      rcases fin own' h1b with h | h
      · exact h
      · exact p2 b h own' t c h1b
theorem freeze_ok (R : Rel E A s μ W) {bs : List Nat} {s' : S} (h : s.freeze bs = some s') : Ext s μ W s' μ W ∧ Rel E A s' μ W ∧ (∀ γ, Owned s' μ 0 γ → Owned s μ 0 γ) ∧ ∀ b ∈ bs, ∀ own t c, s.heap.get b = some (.cells own t c) → s'.heap.get b = some (.cells false t c) := by
  have h : optC (freezeH s.lo bs s.heap) none (fun h => some { s with heap := h }) = some s' := h
  cases hf : freezeH s.lo bs s.heap with
  | none => rw [hf] at h; cases h
  | some h' =>
    rw [hf, optC_some] at h
    cases h
    obtain ⟨p1, p2⟩ := freezeH_ok hf
    have hown : ∀ l γ, Owned { s with heap := h' } μ l γ → Owned s μ l γ := by
      rintro l γ ⟨b, x, σ, q1, q2, q3, q4⟩
      rcases p1 b with h2 | ⟨t, c, h2, h3, h4⟩
      · exact ⟨b, x, σ, q1, h2 ▸ q2, q3, q4⟩
      · have q2 : h'.get b = some x := q2
        rw [h4] at q2; cases q2; cases q3
    have X : Ext s μ W { s with heap := h' } μ W := ⟨Nat.le_refl _, rfl, fun _ _ h => h, fun b hb => by
      rcases p1 b with h2 | ⟨t, c, h2, h3, h4⟩
      · exact h2
      · omega, Nat.le_refl _, fun _ _ _ => rfl, fun γ _ ho h => ho (hown _ _ h), fun _ _ => rfl, rfl, rfl, rfl⟩
    refine ⟨X, R.step X R.top (fun _ _ _ h => .inl h) (fun b x h => ?_) (fun b b' x x' γ σ σ' q1 q2 q3 q4 q5 => ?_), hown 0, p2⟩
    · rcases p1 b with h2 | ⟨t, c, h2, h3, h4⟩
      · exact .inl ⟨h2 ▸ h, fun _ _ _ => rfl⟩
      · right
        have h : h'.get b = some x := h
        rw [h4] at h; cases h
        obtain ⟨γ, σ, k1, k2⟩ := R.br b _ h2
        refine ⟨γ, σ, k1, ?_⟩
        have k3 := k2.ext (X.vext R) rfl
        cases k3 with
        | cells _ _ _ row elem fr xs a1 a2 a5 a3 a4 => exact .cells false t c row elem fr xs a1 (fun h => by cases h) a5 a3 a4
    · have q1 : h'.get b = some x := q1
      have q2 : h'.get b' = some x' := q2
      have k1 : s.heap.get b = some x := by
        rcases p1 b with h2 | ⟨t, c, h2, h3, h4⟩
        · exact h2 ▸ q1
        · rw [h4] at q1; cases q1; cases q3
      have k2 : ∃ y, s.heap.get b' = some y := by
        rcases p1 b' with h2 | ⟨t, c, h2, _, _⟩
        · exact ⟨x', h2 ▸ q2⟩
        · exact ⟨_, h2⟩
      obtain ⟨y, k2⟩ := k2
      exact R.excl b b' x y γ σ σ' k1 k2 q3 q4 q5
end
end Go.AM
end
section
namespace Go.AM
open Go
section
variable {E : Env} {P : Program} {A : Al} {s s' : S} {μ μ' : Mu} {Sx : Nat → Prop} {W W' : World} {rc : Rec}
def OvOk (E : Env) (P : Program) : Prop := ∀ f h, E.ov f = some h → ∀ A args xs s μ W, Rel E A s μ W → VRs μ (St A s μ W) W args xs.toList → CallOut E P A s μ W f xs (h args s)
theorem callN_ok {f : Nat} {xs : Array Value} {r : CR} (h : BodyOut E P A s μ W f xs false .any r) : CallOut E P A s μ W f xs r := by
  cases r with
  | fail => trivial
  | ret v s1 rd =>
    obtain ⟨hen, hrd, μ1, W1, x, X, R1, hv, hst⟩ := h
    refine ⟨μ1, W1, x, X, R1, hv, .inl ⟨hen, fun cs => ?_⟩⟩
    obtain ⟨fr, q0, q1, q2, q3, q4, q5⟩ := hst cs trivial
    rw [hrd rfl] at q0
    exact ⟨fr, q0, q1, q3, q4, q2, by rw [q1]; exact q5⟩
  | pan v s1 rd =>
    obtain ⟨hen, hrd, μ1, W1, x, X, R1, hv, hst⟩ := h
    refine ⟨μ1, W1, x, X, R1, hv, hen, fun cs => ?_⟩
    obtain ⟨fr, q0, q1, q2, q3, q4, q5⟩ := hst cs trivial
    rw [hrd rfl] at q0
    exact ⟨fr, q0, q1, q3, q4, by rw [q1]; exact q5⟩
theorem back_ok {A1 : Al} {keep : Nat → Bool} {f : Nat} {xs : Array Value} {r : CR} (R : Rel E A s μ W) {s0 : S} {μ0 : Mu} (h : BodyOut E P A1 s0 μ0 W f xs false .any r)
    (hrel : ∀ s1 μ1 W1, ExtA A1 s0 μ0 W s1 μ1 W1 → Rel E A1 s1 μ1 W1 → Ext s μ W s μ W1 ∧ Rel E A s μ W1)
    (hval : ∀ s1 μ1 W1 v x v', ExtA A1 s0 μ0 W s1 μ1 W1 → Rel E A1 s1 μ1 W1 → VR μ1 (St A1 s1 μ1 W1) W1 v x → rsvN s1.heap keep deep false v = some v' → VR μ (St A s μ W1) W1 v' x) :
    CallOut E P A s μ W f xs (backR keep s r) := by
  cases r with
  | fail => trivial
  | ret v s1 rd =>
    obtain ⟨hen, hrd, μ1, W1, x, X, R1, hv, hst⟩ := h
    show CallOut E P A s μ W f xs (retV (rsvN s1.heap keep deep false v) s)
    cases hr : rsvN s1.heap keep deep false v with
    | none => trivial
    | some v' =>
      obtain ⟨X2, R2⟩ := hrel s1 μ1 W1 X R1
      refine ⟨μ, W1, x, X2.toA, R2, hval s1 μ1 W1 v x v' X R1 hv hr, .inl ⟨hen, fun cs => ?_⟩⟩
      obtain ⟨fr, q0, q1, q2, q3, q4, q5⟩ := hst cs trivial
      rw [hrd rfl] at q0
      exact ⟨fr, q0, q1, q3, q4, q2, by rw [q1]; exact q5⟩
  | pan v s1 rd =>
    obtain ⟨hen, hrd, μ1, W1, x, X, R1, hv, hst⟩ := h
    show CallOut E P A s μ W f xs (panV (rsvN s1.heap keep deep false v) s)
    cases hr : rsvN s1.heap keep deep false v with
    | none => trivial
    | some v' =>
      obtain ⟨X2, R2⟩ := hrel s1 μ1 W1 X R1
      refine ⟨μ, W1, x, X2.toA, R2, hval s1 μ1 W1 v x v' X R1 hv hr, hen, fun cs => ?_⟩
      obtain ⟨fr, q0, q1, q2, q3, q4, q5⟩ := hst cs trivial
      rw [hrd rfl] at q0
      exact ⟨fr, q0, q1, q3, q4, by rw [q1]; exact q5⟩
theorem kept_rel (R : Rel E A s μ W) {W1 : World} (hs : W.heap.size ≤ W1.heap.size) (hk : ∀ γ, γ < W.heap.size → W1.heap[γ]? = W.heap[γ]?) (h1 : W1.os = W.os) (h2 : W1.tape = W.tape) (h3 : W1.output = W.output) : Ext s μ W s μ W1 ∧ Rel E A s μ W1 := by
  have X : Ext s μ W s μ W1 := ⟨Nat.le_refl _, rfl, fun _ _ h => h, fun _ _ => rfl, hs, fun γ hγ _ => hk γ hγ, fun _ _ h => h, fun γ hγ => rowSize_of_heap (hk γ hγ), h1, h2, h3⟩
  exact ⟨X, R.step X R.top (fun _ _ _ h => .inl h) (fun b x h => .inl ⟨h, fun γ σ hm => hk γ (R.dom b γ σ hm).2⟩) R.excl⟩
theorem callR_ok (ok : EnvOk E P) (hrc : RecOk E P FitP rc) {f : Nat} {args : List V} {xs : Array Value} (R : Rel E A s μ W) (hargs : VRs μ (St A s μ W) W args xs.toList) :
    CallOut E P A s μ W f xs (backR (live s.heap) s (doBody E rc f args false none { s with lo := s.next })) := by
  have R0 : Rel E A { s with lo := s.next } μ W := ⟨Nat.le_refl _, R.top, R.dom, R.br, R.excl, R.new, R.glob⟩
  have hb := body_ok (f := f) ok hrc R0 hargs (show DkOk μ (St A s μ W) W false none .any from rfl)
  have hno : ∀ γ, ¬ Owned { s with lo := s.next } μ s.next γ := by
    rintro γ ⟨b, x, σ, h1, h2, _, _⟩
    exact absurd (R.live_lt h2) (Nat.not_lt.2 h1)
  refine back_ok R hb (fun s1 μ1 W1 X R1 => kept_rel R X.size (fun γ hγ => X.keep γ hγ (hno γ)) X.os X.tape X.output) fun s1 μ1 W1 v x v' X R1 hv hr => ?_
  have hlow : ∀ b x, s.heap.get b = some x → s1.heap.get b = some x ∧ ∃ γ σ, μ b = some (γ, σ) ∧ μ1 b = some (γ, σ) := by
    intro b x h
    have hlt := R.live_lt h
    obtain ⟨γ, σ, hm, _⟩ := R.br b x h
    exact ⟨(X.low b hlt).trans h, γ, σ, hm, X.mu b _ hm⟩
  have hlive : ∀ b, live s.heap b = true → ∃ x, s.heap.get b = some x := by
    intro b h
    unfold live at h
    cases hb : s.heap.get b with
    | none => rw [hb] at h; cases h
    | some x => exact ⟨x, rfl⟩
  have hdead : ∀ b x, live s.heap b = false → s.heap.get b = some x → False := by
    intro b x h hx
    unfold live at h
    rw [hx] at h; cases h
  refine (rsvN_ok (μ := μ) (Sx := St A s μ W1) R1 (keep := live s.heap) (Ok := fun _ => True) (fun b hk p hp => ?_) (fun γ hγ => ⟨hγ.1, hγ.2.1, ?_⟩) (fun b own t c γ σ hk _ hb hm => ⟨(R1.dom b γ σ hm).1, (R1.dom b γ σ hm).2, ?_⟩) hv (fun _ _ => trivial) hr).1
  · obtain ⟨x, hx⟩ := hlive b hk
    obtain ⟨_, γ, σ, h1, h2⟩ := hlow b x hx
    rw [hp] at h2; cases h2; exact h1
  · rintro ⟨b, x, σ, _, h2, h3, h4⟩
    obtain ⟨k1, γ', σ', k2, k3⟩ := hlow b x h2
    rw [h4] at k2; cases k2
    exact hγ.2.2 ⟨b, x, σ, Nat.zero_le _, k1, h3, k3⟩
  · rintro ⟨b', x, σ', _, h2, h3, h4⟩
    obtain ⟨k1, γ', σ'', k2, k3⟩ := hlow b' x h2
    rw [h4] at k2; cases k2
    have := R1.excl b' b x _ γ σ' σ k1 hb h3 k3 hm
    subst this
    exact hdead _ _ hk h2
theorem callE_ok (ok : EnvOk E P) (hrc : RecOk E P FitP rc) {f : Nat} {args : List V} {xs : Array Value} (R : Rel E A s μ W) (hargs : VRs μ (St A s μ W) W args xs.toList) :
    CallOut E P A s μ W f xs (callE E rc f args s) := by
  unfold callE
  cases has : rsvL (rsvN s.heap noBlk deep false) args with
  | none => trivial
  | some as =>
  rw [optC_some]
  let Rch : Nat → Prop := fun b => b ∈ reachL (reachN s.heap deep) args
  let RowOf : Nat → Prop := fun γ => ∃ b own t c σ, Rch b ∧ s.heap.get b = some (.cells own t c) ∧ μ b = some (γ, σ)
  let A1 : Al := fun γ => A γ ∧ (¬ Owned s μ 0 γ ∨ RowOf γ)
  let μ0 : Mu := fun _ => none
  have hno : ∀ l γ, ¬ Owned s0 μ0 l γ := by rintro l γ ⟨b, x, σ, _, h2, _, _⟩; cases h2
  have hst : ∀ γ, St A s μ W γ → St A1 s0 μ0 W γ := fun γ h => ⟨⟨h.1, .inl h.2.2⟩, h.2.1, hno 0 γ⟩
  have R0 : Rel E A1 s0 μ0 W := by
    refine ⟨Nat.le_refl _, fun _ _ => rfl, fun b γ σ h => (by cases h), fun b x h => (by cases h), fun b b' x x' γ σ σ' h => (by cases h), fun γ hγ => ⟨R.new γ hγ, .inl ?_⟩, fun g c h => ?_⟩
    · rintro ⟨b, x, σ, _, _, _, h4⟩
      have := (R.dom b γ σ h4).2
      omega
    · obtain ⟨ys, h1, h2, h3, h4⟩ := R.glob g c h
      exact ⟨ys, VRs.data hst h1 h4, h2, hst g h3, h4⟩
  obtain ⟨ha, hd⟩ := rsvArgs_ok (μ := μ0) (Sx := St A1 s0 μ0 W) R hst (Ok := Rch) (fun b own t c γ σ h1 h2 h3 => ⟨⟨(R.dom b γ σ h3).1, .inr ⟨b, own, t, c, σ, h1, h2, h3⟩⟩, (R.dom b γ σ h3).2, hno 0 γ⟩) hargs (fun b hb => hb) has
  have hb := body_ok (f := f) (args := as) ok hrc R0 ha (show DkOk μ0 (St A1 s0 μ0 W) W false none .any from rfl)
  -- the value, on its own
  have hval : ∀ s1 μ1 W1 v x v', ExtA A1 s0 μ0 W s1 μ1 W1 → Rel E A1 s1 μ1 W1 → VR μ1 (St A1 s1 μ1 W1) W1 v x → rsvN s1.heap noBlk deep false v = some v' → VR μ (fun γ => A1 γ ∧ γ < W1.heap.size) W1 v' x ∧ dataV v' = true := by
    intro s1 μ1 W1 v x v' X R1 hv hr
    have := rsvN_ok (μ := μ) (Sx := fun γ => A1 γ ∧ γ < W1.heap.size) R1 (keep := noBlk) (Ok := fun _ => True) (fun b h => by cases h) (fun γ h => ⟨h.1, h.2.1⟩) (fun b own t c γ σ _ _ _ hm => R1.dom b γ σ hm) hv (fun _ _ => trivial) hr
    exact ⟨this.1, this.2 (.inl fun _ => rfl)⟩
  have hrel : ∀ s1 μ1 W1, ExtA A1 s0 μ0 W s1 μ1 W1 → Rel E A1 s1 μ1 W1 → Ext s μ W s μ W1 ∧ Rel E A s μ W1 := fun s1 μ1 W1 X R1 => kept_rel R X.size (fun γ hγ => X.keep γ hγ (hno _ _)) X.os X.tape X.output
  -- with what is left unwritten
  have fin : ∀ {v' : V} {x : Value} {W1 : World} {s2 : S} {r0 r : CR}, Ext s μ W s μ W1 → Rel E A s μ W1 → VR μ (fun γ => A1 γ ∧ γ < W1.heap.size) W1 v' x → dataV v' = true →
      (boolC (hasLit v') r0 (optC (s.freeze (reachL (reachN s.heap deep) args)) .fail (withS r0)) = r) → r ≠ .fail → ∃ s2, (r = withS r0 s2 ∨ (r = r0 ∧ s2 = s)) ∧ ExtA A s μ W s2 μ W1 ∧ Rel E A s2 μ W1 ∧ VR μ (St A s2 μ W1) W1 v' x := by
    intro v' x W1 s2 r0 r X R1 hv hdv hr hne
    cases hl : hasLit v' with
    | false =>
      rw [hl] at hr
      exact ⟨s, .inr ⟨hr.symm, rfl⟩, X.toA, R1, hv.nolit hdv hl⟩
    | true =>
      rw [hl] at hr
      have hr : optC (s.freeze (reachL (reachN s.heap deep) args)) .fail (withS r0) = r := hr
      cases hf : s.freeze (reachL (reachN s.heap deep) args) with
      | none => rw [hf] at hr; exact absurd hr.symm hne
      | some s2 =>
        rw [hf, optC_some] at hr
        obtain ⟨X2, R2, ho, hz⟩ := freeze_ok R1 hf
        refine ⟨s2, .inl hr.symm, (X.trans X2).toA, R2, VR.data (fun γ h => ⟨h.1.1, h.2, fun hown => ?_⟩) hv hdv⟩
        rcases h.1.2 with h1 | ⟨b, own, t, c, σ, q1, q2, q3⟩
        · exact h1 (ho γ hown)
        · obtain ⟨b', x', σ', _, k2, k3, k4⟩ := hown
          have k1 := hz b q1 own t c q2
          have := R2.excl b' b x' _ γ σ' σ k2 k1 k3 k4 q3
          subst this
          rw [k1] at k2; cases k2; cases k3
  cases hr : doBody E rc f as false none s0 with
  | fail => trivial
  | ret v s1 rd =>
    rw [hr] at hb
    obtain ⟨hen, hrd, μ1, W1, x, X, R1, hv, hst'⟩ := hb
    show CallOut E P A s μ W f xs (frozenE s.heap args s (retV (rsvN s1.heap noBlk deep false v) s))
    cases hrv : rsvN s1.heap noBlk deep false v with
    | none => trivial
    | some v' =>
      obtain ⟨hv', hdv⟩ := hval s1 μ1 W1 v x v' X R1 hv hrv
      obtain ⟨X2, R2⟩ := hrel s1 μ1 W1 X R1
      show CallOut E P A s μ W f xs (boolC (hasLit v') (.ret v' s false) (optC (s.freeze (reachL (reachN s.heap deep) args)) .fail (withS (.ret v' s false))))
      generalize hq : boolC (hasLit v') (CR.ret v' s false) (optC (s.freeze (reachL (reachN s.heap deep) args)) .fail (withS (.ret v' s false))) = q
      by_cases hne : q = .fail
      · rw [hne]; trivial
      obtain ⟨s2, hs2, X3, R3, hv3⟩ := fin (s2 := s) X2 R2 hv' hdv hq hne
      have : q = .ret v' s2 false := by
        rcases hs2 with h | ⟨h, rfl⟩
        · exact h
        · exact h
      rw [this]
      refine ⟨μ, W1, x, X3, R3, hv3, .inl ⟨hen, fun cs => ?_⟩⟩
      obtain ⟨fr, q0, q1, q2, q3, q4, q5⟩ := hst' cs trivial
      rw [hrd rfl] at q0
      exact ⟨fr, q0, q1, q3, q4, q2, by rw [q1]; exact q5⟩
  | pan v s1 rd =>
    rw [hr] at hb
    obtain ⟨hen, hrd, μ1, W1, x, X, R1, hv, hst'⟩ := hb
    show CallOut E P A s μ W f xs (frozenE s.heap args s (panV (rsvN s1.heap noBlk deep false v) s))
    cases hrv : rsvN s1.heap noBlk deep false v with
    | none => trivial
    | some v' =>
      obtain ⟨hv', hdv⟩ := hval s1 μ1 W1 v x v' X R1 hv hrv
      obtain ⟨X2, R2⟩ := hrel s1 μ1 W1 X R1
      show CallOut E P A s μ W f xs (boolC (hasLit v') (.pan v' s false) (optC (s.freeze (reachL (reachN s.heap deep) args)) .fail (withS (.pan v' s false))))
      generalize hq : boolC (hasLit v') (CR.pan v' s false) (optC (s.freeze (reachL (reachN s.heap deep) args)) .fail (withS (.pan v' s false))) = q
      by_cases hne : q = .fail
      · rw [hne]; trivial
      obtain ⟨s2, hs2, X3, R3, hv3⟩ := fin (s2 := s) X2 R2 hv' hdv hq hne
      have : q = .pan v' s2 false := by
        rcases hs2 with h | ⟨h, rfl⟩
        · exact h
        · exact h
      rw [this]
      refine ⟨μ, W1, x, X3, R3, hv3, hen, fun cs => ?_⟩
      obtain ⟨fr, q0, q1, q2, q3, q4, q5⟩ := hst' cs trivial
      rw [hrd rfl] at q0
      exact ⟨fr, q0, q1, q3, q4, by rw [q1]; exact q5⟩
theorem doCall_ok (ok : EnvOk E P) (hov : OvOk E P) (hrc : RecOk E P FitP rc) {f : Nat} {args : List V} {xs : Array Value} (R : Rel E A s μ W) (hargs : VRs μ (St A s μ W) W args xs.toList) : CallOut E P A s μ W f xs (doCall E rc f args s) := by
  unfold doCall
  cases ho : E.ov f with
  | some h => exact hov f h ho A args xs s μ W R hargs
  | none =>
    rw [optC_none]
    unfold callM
    cases E.mode f with
    | N => exact callN_ok (body_ok ok hrc R hargs (show DkOk μ (St A s μ W) W false none .any from rfl))
    | R => exact callR_ok ok hrc R hargs
    | E => exact callE_ok ok hrc R hargs
theorem rec_ok (ok : EnvOk E P) (hov : OvOk E P) : ∀ n, RecOk E P FitP (recN E n)
  | 0 => ⟨fun _ _ _ _ _ _ _ _ _ _ _ _ _ _ => trivial, fun _ _ _ _ _ _ _ _ _ _ _ _ _ _ => trivial, fun _ _ _ _ _ _ _ _ _ => trivial, fun _ _ _ _ _ _ _ _ _ _ _ _ _ => trivial⟩
  | n + 1 => by
    have h := rec_ok ok hov n
    exact ⟨fun A K c hf => exec_inLoop h (hf.imp fun Kl h => h) (exec_all ok h c (hf.imp fun Kl h => h)), fun A K c hf => exec_all ok h c hf, fun A f args xs s μ W R ha => doCall_ok ok hov h R ha, fun A f args xs s μ W dk p ck R ha hd => body_ok ok h R ha hd⟩
theorem call_sound (ok : EnvOk E P) (hov : OvOk E P) (n : Nat) {f : Nat} {args : List V} {xs : Array Value} (R : Rel E A s μ W) (ha : VRs μ (St A s μ W) W args xs.toList) : CallOut E P A s μ W f xs ((recN E n).call f args s) := (rec_ok ok hov n).call A f args xs s μ W R ha
end
end Go.AM
end
section
namespace Go.AM
open Go
section
variable {E E' : Env} {P : Program} {A : Al} {s s' : S} {μ μ' : Mu} {W W' : World}
theorem Rel.env (hg : E'.g = E.g) (R : Rel E A s μ W) : Rel E' A s μ W := ⟨R.lo, R.top, R.dom, R.br, R.excl, R.new, by rw [hg]; exact R.glob⟩
theorem CallOut.env (hg : E'.g = E.g) {f : Nat} {xs : Array Value} {r : CR} (h : CallOut E P A s μ W f xs r) : CallOut E' P A s μ W f xs r := by
  cases r with
  | fail => trivial
  | ret v s1 rd => obtain ⟨μ1, W1, x, h1, h2, h3⟩ := h; exact ⟨μ1, W1, x, h1, h2.env hg, h3⟩
  | pan v s1 rd => obtain ⟨μ1, W1, x, h1, h2, h3⟩ := h; exact ⟨μ1, W1, x, h1, h2.env hg, h3⟩
theorem EnvOk.env (ok : EnvOk E P) (h1 : E'.ti = E.ti) (h2 : E'.fn = E.fn) (h3 : E'.meth = E.meth) (h4 : E'.lies = E.lies) (h5 : E'.eqs = E.eqs) (h6 : E'.cmp = E.cmp := by rfl) : EnvOk E' P :=
  ⟨by rw [h1]; exact ok.ti, by rw [h2]; exact ok.fn, by rw [h2]; exact ok.name, by rw [h2]; exact ok.draws, by rw [h3]; exact ok.meth, by rw [h3]; exact ok.nila, by rw [h6]; exact ok.cmp, by rw [h4]; exact ok.lies, by rw [h5]; exact ok.eqs⟩
def Env.over (E : Env) (ov : Nat → Option (List V → S → CR)) : Env := { E with ov := fun f => (ov f).orElse fun _ => E.ov f }
theorem EnvOk.over (ok : EnvOk E P) (ov : Nat → Option (List V → S → CR)) : EnvOk (E.over ov) P := ok.env rfl rfl rfl rfl rfl
def SumOk (E : Env) (P : Program) (f : Nat) (h : List V → S → CR) : Prop := ∀ A args xs s μ W, Rel E A s μ W → VRs μ (St A s μ W) W args xs.toList → CallOut E P A s μ W f xs (h args s)
theorem SumOk.env (hg : E'.g = E.g) {f : Nat} {h : List V → S → CR} (k : SumOk E P f h) : SumOk E' P f h := fun A args xs s μ W R ha => (k A args xs s μ W (R.env hg.symm) ha).env hg
theorem OvOk.over (hov : OvOk E P) {ov : Nat → Option (List V → S → CR)} (h : ∀ f k, ov f = some k → SumOk E P f k) : OvOk (E.over ov) P := by
  intro f k hk
  have hk : (ov f).orElse (fun _ => E.ov f) = some k := hk
  cases ho : ov f with
  | none => rw [ho] at hk; exact SumOk.env (E := E) (E' := E.over ov) (f := f) rfl (hov f k hk)
  | some k' => rw [ho] at hk; injection hk with hk; subst hk; exact SumOk.env (E := E) (E' := E.over ov) (f := f) rfl (h f k' ho)
theorem SumOk.call (ok : EnvOk E P) (hov : OvOk E P) (n f : Nat) : SumOk E P f ((recN E n).call f) := fun A args xs s μ W R ha => call_sound ok hov n R ha
noncomputable def outE (r : CR) : Option V := match r with | .ret w s1 _ => rsvN s1.heap noBlk deep false w | _ => none
noncomputable def runE (E : Env) (n f : Nat) (as : List V) : Option V := outE (doBody E (recN E n) f as false none s0)
noncomputable def known (l : List (List V × V)) (as : List V) : Option V := List.rec (motive := fun _ => Option V) none (fun p _ ih => boolC (eqVs p.1 as) ih (some p.2)) l
theorem known_some {l : List (List V × V)} {as : List V} {v : V} (h : known l as = some v) : (as, v) ∈ l := by
  induction l with
  | nil => cases h
  | cons p l ih =>
    have h : boolC (eqVs p.1 as) (known l as) (some p.2) = some v := h
    rw [boolC_eq] at h
    split at h
    · rename_i he
      injection h with h
      rw [← eqVs_eq _ _ he, ← h]
      exact List.mem_cons_self ..
    · exact List.mem_cons_of_mem _ (ih h)
noncomputable def memoH (l : List (List V × V)) (els : List V → S → CR) : List V → S → CR := fun args s =>
  optC (bind (rsvL (rsvN s.heap noBlk deep false) args) (known l)) (els args s) fun v => frozenE s.heap args s (.ret v s false)
end
end Go.AM
end
section
namespace Go.AM
open Go
noncomputable def fnOk (fn : Func) : Bool := !(fn.name == "runtime.NumGoroutine") && (match fn.body with | none => true | some c => cOk (resTmps fn.results.toList) c)
noncomputable def envOf (P : Program) (bad : Nat → Bool) (g : Nat → Option (List V)) (mode : Nat → Mode) (lies : Nat → Nat → Nat → Bool) : Env :=
  { ti := tiOf P, fn := fun f => boolC (bad f) (P.funcs[f]?) none, g, mode, meth := fun _ _ => none, ov := fun _ => none, lies }
noncomputable def okAt (P : Program) (bad : Nat → Bool) (f : Nat) : Bool := boolC (bad f) (optC (P.funcs[f]?) true fnOk) true
noncomputable def allOk (P : Program) (bad : Nat → Bool) (n : Nat) : Nat → Bool := Nat.rec (motive := fun _ => Nat → Bool) (fun _ => true) (fun _ ih i => boolC (okAt P bad i) false (ih (i + 1))) n
theorem allOk_at {P : Program} {bad : Nat → Bool} {n : Nat} : ∀ {i : Nat}, allOk P bad n i = true → ∀ f, i ≤ f → f < i + n → okAt P bad f = true := by
  induction n with
  | zero => intro i _ f h1 h2; omega
  | succ n ih =>
    intro i h f h1 h2
    have h : boolC (okAt P bad i) false (allOk P bad n (i + 1)) = true := h
    rw [boolC_eq] at h
    split at h
    · rename_i h0
      by_cases he : f = i
      · subst he; exact h0
      · exact ih h f (by omega) (by omega)
    · cases h
theorem envOf_ok {P : Program} {bad : Nat → Bool} {g : Nat → Option (List V)} {mode : Nat → Mode} {lies : Nat → Nat → Nat → Bool} (hl : ∀ e off u, lies e off u = true → liesAt P P.depth e 1 off u 1 = true) (h : ∀ f, f < P.funcs.size → okAt P bad f = true) : EnvOk (envOf P bad g mode lies) P := by
  have key : ∀ f fn, (envOf P bad g mode lies).fn f = some fn → P.funcs[f]? = some fn ∧ fnOk fn = true := by
    intro f fn hf
    have hf : boolC (bad f) (P.funcs[f]?) none = some fn := hf
    rw [boolC_eq] at hf
    split at hf
    · cases hf
    · rename_i hb
      refine ⟨hf, ?_⟩
      have hlt : f < P.funcs.size := by
        rcases Nat.lt_or_ge f P.funcs.size with h | h
        · exact h
        · rw [Array.getElem?_eq_none h] at hf; cases hf
      have := h f hlt
      unfold okAt at this
      rw [boolC_eq, if_neg hb, hf] at this
      exact this
  refine ⟨fun t ti h => h, fun f fn hf => (key f fn hf).1, fun f fn hf => ?_, fun f fn c hf hc => ?_, fun t name f v w h => (by cases h), fun t name f v w h => (by cases h), fun t h => (by cases h), hl, fun t h => (by cases h)⟩
  · have := (key f fn hf).2
    unfold fnOk at this
    rw [Bool.and_eq_true] at this
    simpa using this.1
  · have := (key f fn hf).2
    unfold fnOk at this
    rw [Bool.and_eq_true, hc] at this
    exact this.2
noncomputable def methF (d : TypeDesc) (f : Nat) (pr : Bool) : Option Nat := match d with
  | .pointer _ => boolC pr none (some f)
  | .struct _ => boolC pr (some f) none
  | _ => none
noncomputable def methOf (P : Program) (t : Nat) (name : String) : Option Nat := optC (P.info? t) none fun i => optC (i.methods.find? (·.name == name)) none fun m =>
  boolC m.path.toList.isEmpty none (optC m.func none fun p => optC (P.underlying t) none fun d => methF d p.1 p.2)
theorem methOf_ok {P : Program} {t : Nat} {name : String} {f : Nat} (h : methOf P t name = some f) (n : Nat) (v : Value) (w : World) :
    (method (n + 1) t v name).run P w = .ok (f, v) w ∧ (nilAhead (n + 1) t v name).run P w = .ok (some false) w := by
  unfold methOf at h
  cases h1 : P.info? t with
  | none => rw [h1] at h; cases h
  | some i =>
  rw [h1, optC_some] at h
  cases h2 : i.methods.find? (·.name == name) with
  | none => rw [h2] at h; cases h
  | some m =>
  rw [h2, optC_some] at h
  cases h3 : m.path.toList with
  | cons x l => rw [h3] at h; cases h
  | nil =>
  rw [h3] at h
  have h : optC m.func none (fun p => optC (P.underlying t) none fun d => methF d p.1 p.2) = some f := h
  cases h4 : m.func with
  | none => rw [h4] at h; cases h
  | some p =>
  rw [h4, optC_some] at h
  cases h5 : P.underlying t with
  | none => rw [h5] at h; cases h
  | some d =>
  rw [h5, optC_some] at h
  obtain ⟨f', pr⟩ := p
  have ht : ∀ w, (typeInfo t).run P w = .ok i w := fun w => by simp [typeInfo, h1]
  have hp : m.path.isEmpty = true := by
    have := congrArg List.isEmpty h3
    simpa using this
  cases d <;> first | (cases h; done) | skip
  · cases pr with
    | false => cases h
    | true =>
      cases h
      constructor
      · simp [method, ht, h2, h3, follow, h4, receiverAt, run_underlying h5, Place.get]
      · simp [nilAhead, ht, h2, h3, followBlind, h4]
  · cases pr with
    | true => cases h
    | false =>
      cases h
      constructor
      · simp [method, ht, h2, h3, follow, h4, receiverAt, run_underlying h5, Place.get]
      · simp [nilAhead, ht, h2, h3, followBlind, h4, run_underlying h5]
noncomputable def cmpOf (P : Program) (t : Nat) : Bool := optC (P.info? t) false fun i => boolC i.comparable false (optC (P.underlying t) false fun d => match d with | .pointer _ => true | _ => false)
theorem cmpOf_ok {P : Program} {t : Nat} (h : cmpOf P t = true) : ∃ i e, P.info? t = some i ∧ i.comparable = true ∧ P.underlying t = some (.pointer e) := by
  unfold cmpOf at h
  cases h1 : P.info? t with
  | none => rw [h1] at h; cases h
  | some i =>
  rw [h1, optC_some] at h
  cases h2 : i.comparable with
  | false => rw [h2] at h; cases h
  | true =>
  rw [h2] at h
  have h : optC (P.underlying t) false (fun d => match d with | .pointer _ => true | _ => false) = true := h
  cases h3 : P.underlying t with
  | none => rw [h3] at h; cases h
  | some d =>
  rw [h3, optC_some] at h
  cases d <;> first | (cases h; done) | skip
  rename_i e
  exact ⟨i, e, rfl, h2, rfl⟩
noncomputable def Env.withMeth (E : Env) (P : Program) : Env := { E with meth := methOf P, cmp := cmpOf P }
theorem EnvOk.withMeth {E : Env} {P : Program} (ok : EnvOk E P) : EnvOk (E.withMeth P) P :=
  ⟨ok.ti, ok.fn, ok.name, ok.draws, fun _ _ _ v w h => (methOf_ok h _ v w).1, fun _ _ _ v w h => (methOf_ok h _ v w).2, fun _ h => cmpOf_ok h, ok.lies, ok.eqs⟩
end Go.AM
end
section
namespace Go.AM
open Go
noncomputable def tabOk (E : Env) (n f : Nat) (l : List (List V × V)) : Bool := List.rec (motive := fun _ => Bool) true (fun p _ ih => optC (runE E n f p.1) false fun v => boolC (eqVs [p.2] [v]) false ih) l
theorem tabOk_at {E : Env} {n f : Nat} {l : List (List V × V)} (h : tabOk E n f l = true) : ∀ p ∈ l, ∃ n, runE E n f p.1 = some p.2 := by
  induction l with
  | nil => intro p hp; cases hp
  | cons q l ih =>
    have h : optC (runE E n f q.1) false (fun v => boolC (eqVs [q.2] [v]) false (tabOk E n f l)) = true := h
    cases hr : runE E n f q.1 with
    | none => rw [hr] at h; cases h
    | some v =>
      rw [hr, optC_some, boolC_eq] at h
      split at h
      · rename_i he
        have he := eqVs_eq _ _ he
        injection he with he
        intro p hp
        rcases List.mem_cons.1 hp with rfl | hp
        · exact ⟨n, by rw [hr, he]⟩
        · exact ih h p hp
      · cases h
end Go.AM
end
section
namespace Go.AM
open Go
section
variable {E E' : Env} {P : Program} {A : Al} {s s' : S} {μ μ' : Mu} {W W' : World}
def Fact (E : Env) (P : Program) (f : Nat) (q : List V × V) : Prop := ∃ E' n, EnvOk E' P ∧ OvOk E' P ∧ E'.g = E.g ∧ runE E' n f q.1 = some q.2
theorem memo_fact {f : Nat} {l : List (List V × V)} (hl : ∀ p ∈ l, Fact E P f p) {els : List V → S → CR} (he : SumOk E P f els) : SumOk E P f (memoH l els) := by
  intro A args xs s μ W R ha
  show CallOut E P A s μ W f xs (optC (bind (rsvL (rsvN s.heap noBlk deep false) args) (known l)) (els args s) fun v => frozenE s.heap args s (.ret v s false))
  cases hb : bind (rsvL (rsvN s.heap noBlk deep false) args) (known l) with
  | none => exact he A args xs s μ W R ha
  | some v =>
    rw [optC_some]
    obtain ⟨as, has, hk⟩ := bind_eq_some.1 hb
    obtain ⟨E', n, ok', ov', hg, hn⟩ := hl _ (known_some hk)
    have hc := callE_ok (f := f) ok' (rec_ok ok' ov' n) (R.env hg) ha
    unfold callE at hc
    rw [has, optC_some] at hc
    unfold runE outE at hn
    cases hd : doBody E' (recN E' n) f as false none s0 with
    | fail => rw [hd] at hn; cases hn
    | pan w s1 rd => rw [hd] at hn; cases hn
    | ret w s1 rd =>
      rw [hd] at hn hc
      have hn : rsvN s1.heap noBlk deep false w = some v := hn
      have : backR noBlk s (.ret w s1 rd) = .ret v s false := by
        show retV (rsvN s1.heap noBlk deep false w) s = _
        rw [hn]; rfl
      rw [this] at hc
      exact hc.env hg.symm
noncomputable def elsH (E : Env) (n f : Nat) : List V → S → CR := fun args s => doBody E (recN E n) f args false none s
theorem elsH_ok (ok : EnvOk E' P) (hov : OvOk E' P) (hg : E'.g = E.g) (n f : Nat) : SumOk E P f (elsH E' n f) := by
  have : SumOk E' P f (elsH E' n f) := by
    intro A args xs s μ W R ha
    exact callN_ok (body_ok ok (rec_ok ok hov n) R ha (show DkOk μ (St A s μ W) W false none .any from rfl))
  exact SumOk.env hg.symm this
noncomputable def mkT (l : List (Nat × (List V → S → CR))) : Tr (List V → S → CR) := List.rec (motive := fun _ => Tr (List V → S → CR)) .e (fun p _ ih => ih.put p.1 (some p.2)) l
theorem mkT_get {l : List (Nat × (List V → S → CR))} {b : Nat} {x : List V → S → CR} (h : (mkT l).get b = some x) : (b, x) ∈ l := by
  induction l with
  | nil => cases h
  | cons p l ih =>
    have h : (Tr.put (mkT l) p.1 (some p.2)).get b = some x := h
    rw [Tr.get_put] at h
    split at h
    · rename_i e
      injection h with h
      subst h
      rw [show (b, p.2) = p from by rw [e]]
      exact List.mem_cons_self ..
    · exact List.mem_cons_of_mem _ (ih h)
abbrev Tabs := List (Nat × List (List V × V))
noncomputable def layerT (E' : Env) (n : Nat) (tabs : Tabs) : Tr (List V → S → CR) := mkT (mapL (fun p => (p.1, memoH p.2 (elsH E' n p.1))) tabs)
noncomputable def layer (E E' : Env) (n : Nat) (tabs : Tabs) : Env := E.over (fun f => (layerT E' n tabs).get f)
def TabsOk (E : Env) (P : Program) (tabs : Tabs) : Prop := ∀ p ∈ tabs, ∀ q ∈ p.2, Fact E P p.1 q
theorem mem_mapL {α β : Type} (f : α → β) {y : β} : ∀ {l : List α}, y ∈ mapL f l → ∃ x ∈ l, f x = y := by
  intro l
  induction l with
  | nil => intro h; cases h
  | cons x l ih =>
    intro h
    have h : y ∈ f x :: mapL f l := h
    rcases List.mem_cons.1 h with h | h
    · exact ⟨x, List.mem_cons_self .., h.symm⟩
    · obtain ⟨z, h1, h2⟩ := ih h
      exact ⟨z, List.mem_cons_of_mem _ h1, h2⟩
theorem layer_env (ok : EnvOk E P) {n : Nat} {tabs : Tabs} : EnvOk (layer E E' n tabs) P := ok.over _
theorem layer_ov (hov : OvOk E P) (ok' : EnvOk E' P) (hov' : OvOk E' P) (hg : E'.g = E.g) {n : Nat} {tabs : Tabs} (h : TabsOk E P tabs) : OvOk (layer E E' n tabs) P := by
  refine hov.over fun f k hk => ?_
  obtain ⟨p, h1, h2⟩ := mem_mapL _ (mkT_get hk)
  injection h2 with h2 h3
  subst h2; subst h3
  exact memo_fact (h p h1) (elsH_ok ok' hov' hg n p.1)
theorem TabsOk.nil : TabsOk E P [] := fun p h => by cases h
theorem TabsOk.cons {f : Nat} {l : List (List V × V)} {tabs : Tabs} (h : ∀ q ∈ l, Fact E P f q) (t : TabsOk E P tabs) : TabsOk E P ((f, l) :: tabs) := by
  intro p hp
  rcases List.mem_cons.1 hp with rfl | hp
  · exact h
  · exact t p hp
theorem fact_tab (ok : EnvOk E' P) (hov : OvOk E' P) (hg : E'.g = E.g) {n f : Nat} {l : List (List V × V)} (h : tabOk E' n f l = true) : ∀ q ∈ l, Fact E P f q := by
  intro q hq
  obtain ⟨m, hm⟩ := tabOk_at h q hq
  exact ⟨E', m, ok, hov, hg, hm⟩
theorem fact_app {f : Nat} {l l' : List (List V × V)} (h : ∀ q ∈ l, Fact E P f q) (h' : ∀ q ∈ l', Fact E P f q) : ∀ q ∈ app l l', Fact E P f q := by
  intro q hq
  rw [app_eq] at hq
  rcases List.mem_append.1 hq with k | k
  · exact h q k
  · exact h' q k
end
end Go.AM
end
