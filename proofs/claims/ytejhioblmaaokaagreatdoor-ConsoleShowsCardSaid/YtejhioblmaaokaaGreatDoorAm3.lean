import Derived.Laws.IdiomRangeMap
import Derived.Carry
import Derived.Calls
import Derived.Lib.LaidTab
import Derived.KernelRfl
import GoSem.ClaimFn
import GoSem.ClaimGoes
import GoSem.ClaimStop
import GoSem.ClaimSevenParts
import Derived.JoinedOf
import Derived.LaidByTextLater
import Derived.SevenTiedAt
import Derived.LaidOnce
import Derived.Test.YtejhioblmaaokaaGreatDoorAm2
set_option linter.all false
section
/- Known results: calls with arguments of data whose result is known are looked up. Layers of tables. -/
namespace Go.AM
open Go

section
variable {E E' : Env} {P : Program} {A : Al} {s s' : S} {μ μ' : Mu} {W W' : World}
theorem Rel.env (hg : E'.g = E.g) (R : Rel E A s μ W) : Rel E' A s μ W := ⟨R.lo, R.top, R.dom, R.br, R.excl, R.new, by rw [hg]; exact R.glob⟩
theorem CallOut.env (hg : E'.g = E.g) {f : Nat} {xs : Array Value} {r : CR} (h : CallOut E P A s μ W f xs r) : CallOut E' P A s μ W f xs r := by
  cases r with
  | fail => trivial
  | ret v s1 rd => obtain ⟨μ1, W1, x, h1, h2, h3⟩ := h; exact ⟨μ1, W1, x, h1, h2.env hg, h3⟩
  | pan v s1 rd => obtain ⟨μ1, W1, x, h1, h2, h3⟩ := h; exact ⟨μ1, W1, x, h1, h2.env hg, h3⟩
theorem EnvOk.env (ok : EnvOk E P) (h1 : E'.ti = E.ti) (h2 : E'.fn = E.fn) (h3 : E'.meth = E.meth) (h4 : E'.lies = E.lies) (h5 : E'.eqs = E.eqs) : EnvOk E' P :=
  ⟨by rw [h1]; exact ok.ti, by rw [h2]; exact ok.fn, by rw [h2]; exact ok.name, by rw [h2]; exact ok.draws, by rw [h3]; exact ok.meth, by rw [h4]; exact ok.lies, by rw [h5]; exact ok.eqs⟩
/-- The same tables, with types whose structs are held against each other. -/
noncomputable def Env.withEqs (E : Env) (eqs : Nat → Bool) : Env := { E with eqs := eqs }
theorem EnvOk.withEqs (ok : EnvOk E P) {eqs : Nat → Bool} (h : ∀ t, eqs t = true → eqsOk P t = true) : EnvOk (E.withEqs eqs) P := ⟨ok.ti, ok.fn, ok.name, ok.draws, ok.meth, ok.lies, h⟩
theorem OvOk.withEqs (hov : OvOk E P) {eqs : Nat → Bool} : OvOk (E.withEqs eqs) P := fun f k hk A args xs s μ W R ha => CallOut.env (E := E) (E' := E.withEqs eqs) rfl (hov f k hk A args xs s μ W (Rel.env (E := E.withEqs eqs) (E' := E) rfl R) ha)
/-- The table with more functions taken for granted. -/
def Env.over (E : Env) (ov : Nat → Option (List V → S → CR)) : Env := { E with ov := fun f => (ov f).orElse fun _ => E.ov f }
theorem EnvOk.over (ok : EnvOk E P) (ov : Nat → Option (List V → S → CR)) : EnvOk (E.over ov) P := ok.env rfl rfl rfl rfl rfl
/-- One function's summary is right. -/
def SumOk (E : Env) (P : Program) (f : Nat) (h : List V → S → CR) : Prop := ∀ A args xs s μ W, Rel E A s μ W → VRs μ (St A s μ W) W args xs.toList → CallOut E P A s μ W f xs (h args s)
theorem SumOk.env (hg : E'.g = E.g) {f : Nat} {h : List V → S → CR} (k : SumOk E P f h) : SumOk E' P f h := fun A args xs s μ W R ha => (k A args xs s μ W (R.env hg.symm) ha).env hg
theorem OvOk.over (hov : OvOk E P) {ov : Nat → Option (List V → S → CR)} (h : ∀ f k, ov f = some k → SumOk E P f k) : OvOk (E.over ov) P := by
  intro f k hk
  have hk : (ov f).orElse (fun _ => E.ov f) = some k := hk
  cases ho : ov f with
  | none => rw [ho] at hk; exact SumOk.env (E := E) (E' := E.over ov) (f := f) rfl (hov f k hk)
  | some k' => rw [ho] at hk; injection hk with hk; subst hk; exact SumOk.env (E := E) (E' := E.over ov) (f := f) rfl (h f k' ho)
theorem SumOk.call (ok : EnvOk E P) (hov : OvOk E P) (n f : Nat) : SumOk E P f ((recN E n).call f) := fun A args xs s μ W R ha => call_sound ok hov n R ha

/-- What the call of a body comes to, from nothing: data. -/
noncomputable def outE (r : CR) : Option V := match r with | .ret w s1 _ => rsvN s1.heap noBlk deep false w | _ => none
noncomputable def runE (E : Env) (n f : Nat) (as : List V) : Option V := outE (doBody E (recN E n) f as false none s0)
noncomputable def known (l : List (List V × V)) (as : List V) : Option V := List.rec (motive := fun _ => Option V) none (fun p _ ih => boolC (eqVs p.1 as) ih (some p.2)) l
theorem known_some {l : List (List V × V)} {as : List V} {v : V} (h : known l as = some v) : (as, v) ∈ l := by
  induction l with
  | nil => cases h
  | cons p l ih =>
    have h : boolC (eqVs p.1 as) (known l as) (some p.2) = some v := h
    rw [boolC_eq] at h
    split at h
    · rename_i he
      injection h with h
      rw [← eqVs_eq _ _ he, ← h]
      exact List.mem_cons_self ..
    · exact List.mem_cons_of_mem _ (ih h)
/-- The known results; else `els`. -/
noncomputable def memoH (l : List (List V × V)) (els : List V → S → CR) : List V → S → CR := fun args s =>
  optC (bind (rsvL (rsvN s.heap noBlk deep false) args) (known l)) (els args s) fun v => frozenE s.heap args s (.ret v s false)
theorem memo_ok (ok : EnvOk E P) (hov : OvOk E P) {f : Nat} {l : List (List V × V)} (hl : ∀ p ∈ l, ∃ n, runE E n f p.1 = some p.2) {els : List V → S → CR} (he : SumOk E P f els) : SumOk E P f (memoH l els) := by
  intro A args xs s μ W R ha
  show CallOut E P A s μ W f xs (optC (bind (rsvL (rsvN s.heap noBlk deep false) args) (known l)) (els args s) fun v => frozenE s.heap args s (.ret v s false))
  cases hb : bind (rsvL (rsvN s.heap noBlk deep false) args) (known l) with
  | none => exact he A args xs s μ W R ha
  | some v =>
    rw [optC_some]
    obtain ⟨as, has, hk⟩ := bind_eq_some.1 hb
    obtain ⟨n, hn⟩ := hl _ (known_some hk)
    have hc := callE_ok (f := f) ok (rec_ok ok hov n) R ha
    unfold callE at hc
    rw [has, optC_some] at hc
    unfold runE outE at hn
    cases hd : doBody E (recN E n) f as false none s0 with
    | fail => rw [hd] at hn; cases hn
    | pan w s1 rd => rw [hd] at hn; cases hn
    | ret w s1 rd =>
      rw [hd] at hn hc
      have hn : rsvN s1.heap noBlk deep false w = some v := hn
      have : backR noBlk s (.ret w s1 rd) = .ret v s false := by
        show retV (rsvN s1.heap noBlk deep false w) s = _
        rw [hn]; rfl
      rw [this] at hc
      exact hc
end
end Go.AM
end
section
/- A call without arguments, run from nothing: its blocks are put behind what there is. -/
namespace Go.AM
open Go

def shF (d : Nat) (f : Fn) : Fn := match f with | .yield l => .yield (d + l) | f => f
/-- Blocks renumbered. -/
noncomputable def shV (d : Nat) (v : V) : V := V.rec (motive_1 := fun _ => V) (motive_2 := fun _ => List V) .bool .int .str .nilp (fun b o => .ptr (d + b) o) (fun c _ => .lptr c) .nils (fun b o n z k => .sl (d + b) o n z k) (fun c n k _ => .lsl c n k) .nilm (fun b => .map (d + b))
  (fun f _ _ ia ic => .fn (shF d f) ia ic) .nilf (fun t _ ih => .iface t ih) .nili (fun _ ih => .agg ih) (fun _ ih => .tup ih) [] (fun _ _ iv il => iv :: il) v
noncomputable def shVs (d : Nat) (l : List V) : List V := V.rec_1 (motive_1 := fun _ => V) (motive_2 := fun _ => List V) .bool .int .str .nilp (fun b o => .ptr (d + b) o) (fun c _ => .lptr c) .nils (fun b o n z k => .sl (d + b) o n z k) (fun c n k _ => .lsl c n k) .nilm (fun b => .map (d + b))
  (fun f _ _ ia ic => .fn (shF d f) ia ic) .nilf (fun t _ ih => .iface t ih) .nili (fun _ ih => .agg ih) (fun _ ih => .tup ih) [] (fun _ _ iv il => iv :: il) l
noncomputable def shEs (d : Nat) (l : List (V × V)) : List (V × V) := mapL (fun e => (shV d e.1, shV d e.2)) l
noncomputable def shB (d : Nat) (x : B) : Option B := match x with | .cells own t c => some (.cells own t (shVs d c)) | .amap es => some (.amap (shEs d es)) | _ => none
noncomputable def glueF (d : Nat) (h1 : Tr B) (n : Nat) (h : Tr B) : Tr B := Nat.rec (motive := fun _ => Tr B) h (fun i ih => ih.put (d + i) (bind (h1.get i) (shB d))) n
noncomputable def glueS (s s1 : S) : S := { heap := glueF s.next s1.heap s1.next s.heap, next := s.next + s1.next, lo := s.lo }
noncomputable def glueR (s : S) (r : CR) : CR := match r with | .ret w s1 _ => .ret (shV s.next w) (glueS s s1) false | _ => .fail
/-- A function without arguments whose run from nothing is known. -/
noncomputable def glueH (r : CR) : List V → S → CR := fun args s => listC args (glueR s r) fun _ _ => .fail

section
variable {E : Env} {P : Program} {A : Al} {s s' s1 : S} {μ μ' : Mu} {Sx Sx' : Nat → Prop} {W W' : World} {d : Nat}
mutual
theorem shV_ok (hm : ∀ b p, μ b = some p → μ' (d + b) = some p) (hS : ∀ γ, Sx γ → Sx' γ) : ∀ (v : V) (x : Value), VR μ Sx W v x → VR μ' Sx' W (shV d v) x
  | .bool b, _, h => by cases h; exact .bool _
  | .int k n, _, h => by cases h; exact .int _ _
  | .str l, _, h => by cases h; exact .str _
  | .nilp, _, h => by cases h; exact .nilp
  | .ptr b o, _, h => by cases h with | ptr _ _ β σ h => exact .ptr _ _ β σ (hm _ _ h)
  | .lptr c, _, h => by cases h with | lptr _ β o xs hc hx hs hd => exact .lptr c β o xs (VRs.data hS hc hd) hx (hS _ hs) hd
  | .nils, _, h => by cases h; exact .nils
  | .sl b o n z k, _, h => by cases h with | sl _ _ _ _ β σ cap _ h hn hc hr => exact .sl _ _ _ _ β σ cap _ (hm _ _ h) hn hc hr
  | .lsl c n k, _, h => by
    cases h with
    | lsl0 a cap _ hc => exact .lsl0 a cap _ hc
    | lsl _ _ cap β o _ xs h0 hn hk hc hx hs hd => exact .lsl c n cap β o k xs h0 hn hk (VRs.data hS hc hd) hx (hS _ hs) hd
  | .nilm, _, h => by cases h; exact .nilm
  | .map b, _, h => by cases h with | map _ β h => exact .map _ β (hm _ _ h)
  | .fn f a c, _, h => by
    cases h with
    | fn _ _ _ xs ys hf ha hc =>
      have : shF d f = f := by cases f <;> first | rfl | exact absurd rfl (hf _)
      show VR μ' Sx' W (.fn (shF d f) (shVs d a) (shVs d c)) _
      rw [this]
      exact .fn f _ _ xs ys hf (shVs_ok hm hS a _ ha) (shVs_ok hm hS c _ hc)
    | yield l β h => exact .yield _ β (hm _ _ h)
  | .nilf, _, h => by cases h; exact .nilf
  | .iface t v, _, h => by cases h with | iface _ _ x h => exact .iface _ _ _ (shV_ok hm hS v x h)
  | .nili, _, h => by cases h; exact .nili
  | .agg c, _, h => by cases h with | agg _ xs h => exact .agg _ xs (shVs_ok hm hS c _ h)
  | .tup c, _, h => by cases h with | tup _ xs h => exact .tup _ xs (shVs_ok hm hS c _ h)
theorem shVs_ok (hm : ∀ b p, μ b = some p → μ' (d + b) = some p) (hS : ∀ γ, Sx γ → Sx' γ) : ∀ (c : List V) (xs : List Value), VRs μ Sx W c xs → VRs μ' Sx' W (shVs d c) xs
  | [], _, h => by cases h; exact .nil
  | v :: c, _, h => by cases h with | cons _ _ x xs h t => exact .cons _ _ _ _ (shV_ok hm hS v x h) (shVs_ok hm hS c xs t)
end
theorem glueF_get (d : Nat) (h1 : Tr B) (n : Nat) (h : Tr B) (b : Nat) : (glueF d h1 n h).get b = if d ≤ b ∧ b < d + n then bind (h1.get (b - d)) (shB d) else h.get b := by
  induction n with
  | zero => rw [if_neg (by omega)]; rfl
  | succ n ih =>
    show (Tr.put (glueF d h1 n h) (d + n) (bind (h1.get n) (shB d))).get b = _
    rw [Tr.get_put]
    split
    · rename_i e; subst e; rw [if_pos (by omega)]; simp
    · rw [ih]
      by_cases hc : d ≤ b ∧ b < d + n
      · rw [if_pos hc, if_pos (by omega)]
      · rw [if_neg hc, if_neg (by omega)]
theorem ER.sh (hm : ∀ b p, μ b = some p → μ' (d + b) = some p) (hS : ∀ γ, Sx γ → Sx' γ) {es : List (V × V)} {l : List MapEntry} (h : ER μ Sx W es l) : ER μ' Sx' W (shEs d es) l := by
  induction h with
  | nil => exact .nil
  | cons k v es e l hk hv t ih => exact .cons _ _ _ e l (shV_ok hm hS k _ hk) (shV_ok hm hS v _ hv) ih
theorem BR.sh (hm : ∀ b p, μ b = some p → μ' (d + b) = some p) (hS : ∀ γ, Sx γ → Sx' γ) {β σ : Nat} {x y : B} (h : BR μ Sx W β σ x) (hy : shB d x = some y) : BR μ' Sx' W β σ y := by
  cases h with
  | cells own t c row elem fr xs h hf ht hc hx => injection hy with hy; subst hy; exact .cells own t _ row elem fr xs h hf ht (shVs_ok hm hS c xs hc) hx
  | amap es entries clock hσ h hb he => injection hy with hy; subst hy; exact .amap _ entries clock hσ h hb (he.sh hm hS)
  | siter => cases hy
  | miter => cases hy
  | mark => cases hy
  | loop => cases hy
theorem shB_mut {x y : B} (hy : shB d x = some y) : mutB y = mutB x := by
  cases x <;> first | (cases hy; done) | (injection hy with hy; subst hy; rfl)
noncomputable def glueMu (d : Nat) (μ μ1 : Mu) : Mu := fun b => if b < d then μ b else μ1 (b - d)
theorem glue_of {f : Nat} {r : CR} (hbody : ∀ (A1 : Al) (W : World), Rel E A1 s0 (fun _ => none) W → BodyOut E P A1 s0 (fun _ => none) W f #[] false .any r) : SumOk E P f (glueH r) := by
  intro A args xs s μ W R ha
  cases args with
  | cons v l => trivial
  | nil =>
  cases hxs : xs.toList with
  | cons x l => rw [hxs] at ha; cases ha
  | nil =>
  have hx0 : xs = #[] := by cases xs; simp at hxs; subst hxs; rfl
  show CallOut E P A s μ W f xs (glueR s r)
  let A1 : Al := fun γ => A γ ∧ ¬ Owned s μ 0 γ
  let μ0 : Mu := fun _ => none
  have hno : ∀ l γ, ¬ Owned s0 μ0 l γ := by rintro l γ ⟨b, x, σ, _, h2, _, _⟩; cases h2
  have hst : ∀ γ, St A s μ W γ → St A1 s0 μ0 W γ := fun γ h => ⟨⟨h.1, h.2.2⟩, h.2.1, hno 0 γ⟩
  have R0 : Rel E A1 s0 μ0 W := by
    refine ⟨Nat.le_refl _, fun _ _ => rfl, fun b γ σ h => (by cases h), fun b x h => (by cases h), fun b b' x x' γ σ σ' h => (by cases h), fun γ hγ => ⟨R.new γ hγ, ?_⟩, fun g c h => ?_⟩
    · rintro ⟨b, x, σ, _, _, _, h4⟩
      have := (R.dom b γ σ h4).2
      omega
    · obtain ⟨ys, h1, h2, h3, h4⟩ := R.glob g c h
      exact ⟨ys, VRs.data hst h1 h4, h2, hst g h3, h4⟩
  have hb := hbody A1 W R0
  rw [← hx0] at hb
  cases r with
  | fail => trivial
  | pan v s1 rd => trivial
  | ret w s1 rd =>
  obtain ⟨hen, hrd, μ1, W1, x, X, R1, hv, hsteps⟩ := hb
  let μ' : Mu := glueMu s.next μ μ1
  have hμl : ∀ b, b < s.next → μ' b = μ b := fun b hb => if_pos hb
  have hμr : ∀ b, μ' (s.next + b) = μ1 b := fun b => by
    show (if s.next + b < s.next then _ else _) = _
    rw [if_neg (by omega)]; simp
  have hget : ∀ b, (glueS s s1).heap.get b = if s.next ≤ b ∧ b < s.next + s1.next then bind (s1.heap.get (b - s.next)) (shB s.next) else s.heap.get b := fun b => glueF_get _ _ _ _ b
  have hlive : ∀ b x, s.heap.get b = some x → b < s.next := fun b x h => R.live_lt h
  -- a block of the union
  have hcase : ∀ b y, (glueS s s1).heap.get b = some y → (b < s.next ∧ s.heap.get b = some y) ∨ (∃ c z, b = s.next + c ∧ s1.heap.get c = some z ∧ shB s.next z = some y) := by
    intro b y h
    rw [hget] at h
    split at h
    · rename_i hc
      obtain ⟨z, h1, h2⟩ := bind_eq_some.1 h
      exact .inr ⟨b - s.next, z, by omega, h1, h2⟩
    · exact .inl ⟨hlive b y h, h⟩
  have howned : ∀ γ, Owned (glueS s s1) μ' 0 γ → Owned s μ 0 γ ∨ Owned s1 μ1 0 γ := by
    rintro γ ⟨b, y, σ, _, h2, h3, h4⟩
    rcases hcase b y h2 with ⟨q1, q2⟩ | ⟨c, z, rfl, q1, q2⟩
    · rw [hμl b q1] at h4; exact .inl ⟨b, y, σ, Nat.zero_le _, q2, h3, h4⟩
    · rw [hμr] at h4; exact .inr ⟨c, z, σ, Nat.zero_le _, q1, by rw [← shB_mut q2]; exact h3, h4⟩
  have hS1 : ∀ γ, St A1 s1 μ1 W1 γ → St A (glueS s s1) μ' W1 γ := fun γ h => ⟨h.1.1, h.2.1, fun ho => (howned γ ho).elim h.1.2 h.2.2⟩
  have hmr : ∀ b p, μ1 b = some p → μ' (s.next + b) = some p := fun b p h => by rw [hμr]; exact h
  have hold : ∀ γ, Owned s μ 0 γ → γ < W.heap.size := by rintro γ ⟨b, y, σ, _, _, _, h4⟩; exact (R.dom b γ σ h4).2
  have hunown1 : ∀ γ, A1 γ → γ < W.heap.size → ¬ Owned s1 μ1 0 γ := fun γ hA hγ => X.unown γ hA hγ (hno _ _)
  have hmu : ∀ b p, μ b = some p → μ' b = some p := fun b p h => by
    by_cases hb : b < s.next
    · rw [hμl b hb]; exact h
    · rw [R.top b (Nat.le_of_not_lt hb)] at h; cases h
  have X2 : Ext s μ W (glueS s s1) μ' W1 := by
    refine ⟨Nat.le_add_right _ _, rfl, hmu, fun b hb => ?_, X.size, fun β hβ _ => X.keep β hβ (hno _ _), fun β hβ ho => ?_, X.row, X.os, X.tape, X.output⟩
    · rw [hget, if_neg]; have := R.lo; omega
    · rintro ⟨b, y, σ, h1, h2, h3, h4⟩
      rcases hcase b y h2 with ⟨q1, q2⟩ | ⟨c, z, rfl, q1, q2⟩
      · rw [hμl b q1] at h4; exact ho ⟨b, y, σ, h1, q2, h3, h4⟩
      · rw [hμr] at h4
        have hw : Owned s1 μ1 0 β := ⟨c, z, σ, Nat.zero_le _, q1, by rw [← shB_mut q2]; exact h3, h4⟩
        exact hunown1 β (R1.owned_al hw) hβ hw
  have hdom' : ∀ b β σ, μ' b = some (β, σ) → (b < s.next ∧ μ b = some (β, σ)) ∨ ∃ c, b = s.next + c ∧ μ1 c = some (β, σ) := fun b β σ h => by
    by_cases hb : b < s.next
    · rw [hμl b hb] at h; exact .inl ⟨hb, h⟩
    · refine .inr ⟨b - s.next, by omega, ?_⟩
      rw [← hμr, show s.next + (b - s.next) = b by omega]; exact h
  have R2 : Rel E A (glueS s s1) μ' W1 := by
    refine R.step X2 (fun b hb => ?_) (fun b β σ h => ?_) (fun b y h => ?_) (fun b b' y y' β σ σ' h h' hmut hm hm' => ?_)
    · have hb : s.next + s1.next ≤ b := hb
      rw [show b = s.next + (b - s.next) by omega, hμr]
      exact R1.top _ (by omega)
    · rcases hdom' b β σ h with ⟨_, h⟩ | ⟨c, _, h⟩
      · exact .inl h
      · exact .inr ⟨(R1.dom c β σ h).1.1, (R1.dom c β σ h).2⟩
    · rcases hcase b y h with ⟨q1, q2⟩ | ⟨c, z, rfl, q1, q2⟩
      · exact .inl ⟨q2, fun β σ hm => X.keep β (R.dom b β σ hm).2 (hno _ _)⟩
      · obtain ⟨β, σ, p1, p2⟩ := R1.br c z q1
        exact .inr ⟨β, σ, hmr _ _ p1, p2.sh hmr hS1 q2⟩
    · rcases hcase b y h with ⟨q1, q2⟩ | ⟨c, z, rfl, q1, q2⟩ <;> rcases hcase b' y' h' with ⟨r1, r2⟩ | ⟨c', z', rfl, r1, r2⟩
      · rw [hμl b q1] at hm; rw [hμl b' r1] at hm'
        exact R.excl b b' y y' β σ σ' q2 r2 hmut hm hm'
      · rw [hμl b q1] at hm; rw [hμr] at hm'
        exact absurd ⟨b, y, σ, Nat.zero_le _, q2, hmut, hm⟩ (R1.dom c' β σ' hm').1.2
      · rw [hμr] at hm; rw [hμl b' r1] at hm'
        have hw : Owned s1 μ1 0 β := ⟨c, z, σ, Nat.zero_le _, q1, by rw [← shB_mut q2]; exact hmut, hm⟩
        exact absurd hw (hunown1 β (R1.owned_al hw) (R.dom b' β σ' hm').2)
      · rw [hμr] at hm hm'
        rw [R1.excl c c' z z' β σ σ' q1 r1 (by rw [← shB_mut q2]; exact hmut) hm hm']
  refine ⟨μ', W1, x, X2.toA, R2, shV_ok hmr hS1 w x hv, .inl ⟨hen, fun cs => ?_⟩⟩
  obtain ⟨fr, q0, q1, q2, q3, q4, q5⟩ := hsteps cs trivial
  rw [hrd rfl] at q0
  exact ⟨fr, q0, q1, q3, q4, q2, by rw [q1]; exact q5⟩
theorem glue_ok (ok : EnvOk E P) (hov : OvOk E P) {f n : Nat} {r : CR} (hr : doBody E (recN E n) f [] false none s0 = r) : SumOk E P f (glueH r) := glue_of fun A1 W R0 => by
  have hb := body_ok (f := f) (args := []) (xs := #[]) ok (rec_ok ok hov n) R0 .nil (show DkOk (fun _ => none) (St A1 s0 (fun _ => none) W) W false none .any from rfl)
  rw [hr] at hb
  exact hb
end
end Go.AM
end
section
/- The tables of a program; what is to be looked up once by the kernel. -/
namespace Go.AM
open Go

noncomputable def fnOk (fn : Func) : Bool := !(fn.name == "runtime.NumGoroutine") && (match fn.body with | none => true | some c => cOk (resTmps fn.results.toList) c)
/-- The functions that are left out: those whose drawn regions the machine does not run. -/
noncomputable def envOf (P : Program) (bad : Nat → Bool) (g : Nat → Option (List V)) (mode : Nat → Mode) (lies : Nat → Nat → Nat → Bool) : Env :=
  { ti := tiOf P, fn := fun f => boolC (bad f) (P.funcs[f]?) none, g, mode, meth := fun _ _ => none, ov := fun _ => none, lies }
noncomputable def okAt (P : Program) (bad : Nat → Bool) (f : Nat) : Bool := boolC (bad f) (optC (P.funcs[f]?) true fnOk) true
noncomputable def allOk (P : Program) (bad : Nat → Bool) (n : Nat) : Nat → Bool := Nat.rec (motive := fun _ => Nat → Bool) (fun _ => true) (fun _ ih i => boolC (okAt P bad i) false (ih (i + 1))) n
theorem allOk_at {P : Program} {bad : Nat → Bool} {n : Nat} : ∀ {i : Nat}, allOk P bad n i = true → ∀ f, i ≤ f → f < i + n → okAt P bad f = true := by
  induction n with
  | zero => intro i _ f h1 h2; omega
  | succ n ih =>
    intro i h f h1 h2
    have h : boolC (okAt P bad i) false (allOk P bad n (i + 1)) = true := h
    rw [boolC_eq] at h
    split at h
    · rename_i h0
      by_cases he : f = i
      · subst he; exact h0
      · exact ih h f (by omega) (by omega)
    · cases h
theorem envOf_ok {P : Program} {bad : Nat → Bool} {g : Nat → Option (List V)} {mode : Nat → Mode} {lies : Nat → Nat → Nat → Bool} (hl : ∀ e off u, lies e off u = true → liesAt P P.depth e 1 off u 1 = true) (h : ∀ f, f < P.funcs.size → okAt P bad f = true) : EnvOk (envOf P bad g mode lies) P := by
  have key : ∀ f fn, (envOf P bad g mode lies).fn f = some fn → P.funcs[f]? = some fn ∧ fnOk fn = true := by
    intro f fn hf
    have hf : boolC (bad f) (P.funcs[f]?) none = some fn := hf
    rw [boolC_eq] at hf
    split at hf
    · cases hf
    · rename_i hb
      refine ⟨hf, ?_⟩
      have hlt : f < P.funcs.size := by
        rcases Nat.lt_or_ge f P.funcs.size with h | h
        · exact h
        · rw [Array.getElem?_eq_none h] at hf; cases hf
      have := h f hlt
      unfold okAt at this
      rw [boolC_eq, if_neg hb, hf] at this
      exact this
  refine ⟨fun t ti h => h, fun f fn hf => (key f fn hf).1, fun f fn hf => ?_, fun f fn c hf hc => ?_, fun t name f v w h => (by cases h), hl, fun t h => (by cases h)⟩
  · have := (key f fn hf).2
    unfold fnOk at this
    rw [Bool.and_eq_true] at this
    simpa using this.1
  · have := (key f fn hf).2
    unfold fnOk at this
    rw [Bool.and_eq_true, hc] at this
    exact this.2
end Go.AM
end
section
/- Triples: what code comes to where an outcome is one of some (an order that is left open, a loop of any number of rounds). -/
namespace Go.AM
open Go

section
variable {E : Env} {P : Program} {A : Al} {s s' : S} {μ μ' : Mu} {Sx : Nat → Prop} {W W' : World} {rc : Rec} {K : Nat → Prop}
/-- From what holds ahead of an item, one of some outcomes. -/
def Tri (E : Env) (P : Program) (A : Al) (K : Nat → Prop) (pre : List V → M → S → Prop) (x : Item) (post : R → Prop) : Prop :=
  ∀ T m s, pre T m s → ∀ μ W b ck a, Rel E A s μ W → FR A s μ W T m b ck a → ∃ r, post r ∧ r ≠ .fail ∧ Good E P A K b ck s μ W (fun base k => lone (b.atR a (x :: k)) (csOf m base) W) r
/-- Where the next piece begins, or what an outcome is for all. -/
def onNorm (mid : List V → M → S → Prop) (post : R → Prop) (r : R) : Prop := match r with
  | .norm T m s => mid T m s
  | r => post r
theorem Tri.mono {pre pre' : List V → M → S → Prop} {x : Item} {post post' : R → Prop} (h : Tri E P A K pre x post) (h1 : ∀ T m s, pre' T m s → pre T m s) (h2 : ∀ r, post r → post' r) : Tri E P A K pre' x post' := by
  intro T m s hp μ W b ck a R F
  obtain ⟨r, q1, q2, q3⟩ := h T m s (h1 T m s hp) μ W b ck a R F
  exact ⟨r, h2 r q1, q2, q3⟩
theorem Tri.of_ok {f : List V → M → S → R} {x : Item} (hf : CodeOk E P A K f x) {pre : List V → M → S → Prop} {post : R → Prop} (h : ∀ T m s, pre T m s → post (f T m s) ∧ f T m s ≠ .fail) : Tri E P A K pre x post := by
  intro T m s hp μ W b ck a R F
  exact ⟨f T m s, (h T m s hp).1, (h T m s hp).2, hf T m s μ W b ck a R F⟩
theorem Tri.exec (ok : EnvOk E P) (hrc : RecOk E P FitP rc) {c : Code} (hc : FitP K c) {pre : List V → M → S → Prop} {post : R → Prop} (h : ∀ T m s, pre T m s → post (exec c E rc T m s) ∧ exec c E rc T m s ≠ .fail) : Tri E P A K pre (.code c) post :=
  Tri.of_ok (exec_all ok hrc c hc) h
theorem Good.past {x : Item} (hx : x.plain = true) {mach : List Frame → List Item → Machine} {r : R} {b : Frame} {ck : CK} (h : Good E P A K b ck s μ W mach r) (hn : ∀ T m s, r ≠ .norm T m s) : Good E P A K b ck s μ W (fun base k => mach base (x :: k)) r := by
  have := Good.then (f := fun _ _ _ => .fail) hx h (fun T m s' μ' W' a' e => absurd e (hn T m s'))
  cases r <;> first | exact this | exact absurd rfl (hn _ _ _)
theorem Tri.then {pre mid : List V → M → S → Prop} {x y : Item} {post : R → Prop} (hy : y.plain = true) (h1 : Tri E P A K pre x (onNorm mid post)) (h2 : Tri E P A K mid y post) :
    ∀ T m s, pre T m s → ∀ μ W b ck a, Rel E A s μ W → FR A s μ W T m b ck a → ∃ r, post r ∧ r ≠ .fail ∧ Good E P A K b ck s μ W (fun base k => lone (b.atR a (x :: y :: k)) (csOf m base) W) r := by
  intro T m s hp μ W b ck a R F
  obtain ⟨r, q1, q2, q3⟩ := h1 T m s hp μ W b ck a R F
  have nn : ∀ r', onNorm mid post r' → (∀ T m s, r' ≠ .norm T m s) → post r' := by
    intro r' h hn
    cases r' <;> first | exact h | exact absurd rfl (hn _ _ _)
  by_cases hr : ∃ T1 m1 s1, r = .norm T1 m1 s1
  · obtain ⟨T1, m1, s1, rfl⟩ := hr
    obtain ⟨μ1, W1, a1, X, R1, F1, hst⟩ := q3
    obtain ⟨r2, p1, p2, p3⟩ := h2 T1 m1 s1 q1 μ1 W1 b ck a1 R1 F1
    exact ⟨r2, p1, p2, p3.head X R1 fun base hB k => hst base hB (y :: k)⟩
  · have hn : ∀ T m s, r ≠ .norm T m s := fun T m s e => hr ⟨T, m, s, e⟩
    exact ⟨r, nn r q1 hn, q2, q3.past hy hn⟩
theorem Tri.seq {pre mid : List V → M → S → Prop} {x y : Code} {post : R → Prop} (h1 : Tri E P A K pre (.code x) (onNorm mid post)) (h2 : Tri E P A K mid (.code y) post) : Tri E P A K pre (.code (.seq x y)) post := by
  intro T m s hp μ W b ck a R F
  obtain ⟨r, q1, q2, q3⟩ := Tri.then rfl h1 h2 T m s hp μ W b ck a R F
  exact ⟨r, q1, q2, q3.head' R fun base hB k => .one stepR_seq⟩
theorem Tri.block {pre : List V → M → S → Prop} {id : Nat} {c : Code} {post : R → Prop} (h : Tri E P A K pre (.code c) (fun r => post (blockK id r))) : Tri E P A K pre (.code (.block id c)) post := by
  intro T m s hp μ W b ck a R F
  obtain ⟨r, q1, q2, q3⟩ := h T m s hp μ W b ck a R F
  refine ⟨blockK id r, q1, ?_, (Good.block (id := id) q3).head' R fun base hB k => .one stepR_block⟩
  cases r <;> first | exact absurd rfl q2 | (intro h; cases h; done) | skip
  case exit j T1 m1 s1 =>
    show boolC _ _ _ ≠ _
    rw [boolC_eq]
    split <;> (intro h; cases h)
/-- Rounds that bring a number down. -/
theorem Tri.inLoop {I : Nat → List V → M → S → Prop} {c : Code} {post : R → Prop} (h : ∀ n, Tri E P A K (I n) (.code c) (onNorm (fun T m s => ∃ n', n' < n ∧ I n' T m s) post)) : ∀ n, Tri E P A K (I n) (.inLoop c) post := by
  intro n
  induction n using Nat.strongRecOn with
  | _ n ih =>
    intro T m s hp μ W b ck a R F
    have h2 : Tri E P A K (fun T m s => ∃ n', n' < n ∧ I n' T m s) (.inLoop c) post := by
      intro T m s ⟨n', hlt, hI⟩ μ W b ck a R F
      exact ih n' hlt T m s hI μ W b ck a R F
    obtain ⟨r, q1, q2, q3⟩ := Tri.then (y := .inLoop c) rfl (h n) h2 T m s hp μ W b ck a R F
    exact ⟨r, q1, q2, q3.head' R fun base hB k => .one stepR_inLoop⟩
theorem Tri.loop {I : Nat → List V → M → S → Prop} {c : Code} {post : R → Prop} (h : ∀ n, Tri E P A K (I n) (.code c) (onNorm (fun T m s => ∃ n', n' < n ∧ I n' T m s) post)) (n : Nat) : Tri E P A K (I n) (.code (.loop c)) post := by
  intro T m s hp μ W b ck a R F
  have h2 : Tri E P A K (fun T m s => ∃ n', n' < n ∧ I n' T m s) (.inLoop c) post := by
    intro T m s ⟨n', hlt, hI⟩ μ W b ck a R F
    exact Tri.inLoop h n' T m s hI μ W b ck a R F
  obtain ⟨r, q1, q2, q3⟩ := Tri.then (y := .inLoop c) rfl (h n) h2 T m s hp μ W b ck a R F
  exact ⟨r, q1, q2, q3.head' R fun base hB k => .one stepR_loop⟩
theorem Tri.cond {pre : List V → M → S → Prop} {c : Operand} {x y : Code} {post : R → Prop} (t : List V → Bool) (ht : ∀ T m s, pre T m s → bind (opv E T c) boolOf = some (t T)) (h1 : Tri E P A K (fun T m s => pre T m s ∧ t T = true) (.code x) post)
    (h2 : Tri E P A K (fun T m s => pre T m s ∧ t T = false) (.code y) post) : Tri E P A K pre (.code (.cond c x y)) post := by
  intro T m s hp μ W b ck a R F
  have hb := ht T m s hp
  obtain ⟨v, hv, hbv⟩ := bind_eq_some.1 hb
  have hr := opv_sound R F.tmps hv
  have he : a.eval c = .bool (t T) := by
    unfold boolOf at hbv
    split at hbv
    · injection hbv with hbv; subst hbv
      generalize a.eval c = y at hr ⊢
      cases hr; rfl
    · cases hbv
  cases htt : t T with
  | true =>
    obtain ⟨r, q1, q2, q3⟩ := h1 T m s ⟨hp, htt⟩ μ W b ck a R F
    refine ⟨r, q1, q2, q3.head' R fun base hB k => .one ?_⟩
    have := stepR_cond (P := P) (b := b) (a := a) (k := k) (cs := csOf m base) (w := W) (c := c) (x := x) (y := y) he
    rw [htt] at this; exact this
  | false =>
    obtain ⟨r, q1, q2, q3⟩ := h2 T m s ⟨hp, htt⟩ μ W b ck a R F
    refine ⟨r, q1, q2, q3.head' R fun base hB k => .one ?_⟩
    have := stepR_cond (P := P) (b := b) (a := a) (k := k) (cs := csOf m base) (w := W) (c := c) (x := x) (y := y) he
    rw [htt] at this; exact this
/-! ### the next entry of a map, whichever it is -/
theorem next_map (R : Rel E A s μ W) {b m n β σ : Nat} {seen : List Nat} {es : List (V × V)} (hb : s.heap.get b = some (.miter m n seen)) (hlo : s.lo ≤ b) (hmb : μ b = some (β, σ)) (hm : s.heap.get m = some (.amap es)) (hn : es.length = n) (hbm : b ≠ m) (ty : TypeId) :
    σ = 0 ∧ (((∀ i, i < n → i ∈ seen) ∧ ∃ W', (Instr.next (.pointer (some ⟨β, 0, none⟩)) false ty).run P W = .ok (.tuple #[.bool false]) W' ∧ Ext s μ W s μ W' ∧ Rel E A s μ W') ∨
      ∃ i k v W' x y, i < n ∧ i ∉ seen ∧ es[i]? = some (k, v) ∧ (Instr.next (.pointer (some ⟨β, 0, none⟩)) false ty).run P W = .ok (.tuple #[.bool true, x, y]) W' ∧
        Ext s μ W (s.put b (.miter m n (i :: seen))) μ W' ∧ Rel E A (s.put b (.miter m n (i :: seen))) μ W' ∧ VR μ (St A (s.put b (.miter m n (i :: seen))) μ W') W' k x ∧ VR μ (St A (s.put b (.miter m n (i :: seen))) μ W') W' v y) := by
  obtain ⟨β', σ', hm', hbr⟩ := R.br b _ hb
  rw [hmb] at hm'; cases hm'
  cases hbr with
  | miter _ _ _ γ hσ hh hmm =>
  obtain ⟨γ', σ', hm', hbr⟩ := R.br m _ hm
  rw [hmm] at hm'; cases hm'
  cases hbr with
  | amap _ entries clock hσ2 hh2 hbo her =>
  subst hσ
  refine ⟨rfl, ?_⟩
  have hcl : clock = n := by rw [hbo.1, ← hn, ← her.length]; rfl
  subst hcl
  have hold : ∀ x ∈ entries.toList, x.born < clock := by
    intro x hx
    obtain ⟨i, hi⟩ := List.getElem?_of_mem hx
    rw [Array.getElem?_toList] at hi
    rw [hbo.2 i x hi, hbo.1]
    exact (Array.getElem?_eq_some_iff.1 hi).1
  have htest := next_test_false seen.reverse.toArray entries clock clock hold (Nat.le_refl _)
  simp only [Instr.next, Sem.run_bind, run_getObj hh (by simp), Result.andThen_ok, run_getObj hh2 (by simp), htest, Bool.false_eq_true, if_false]
  have hmem : ∀ x ∈ (Array.filter (fun e => !seen.reverse.toArray.contains e.born) entries).toList, x ∈ entries.toList ∧ x.born ∉ seen := fun x hx => by
    simp at hx ⊢
    exact hx
  have hall : ∀ x ∈ entries.toList, x.born ∉ seen → x ∈ (Array.filter (fun e => !seen.reverse.toArray.contains e.born) entries).toList := fun x hx h => by
    simp at hx ⊢
    exact ⟨hx, h⟩
  generalize Array.filter (fun e => !seen.reverse.toArray.contains e.born) entries = L at hmem hall ⊢
  have e1 : L.filter (fun x => decide (x.born < clock)) = L := Array.filter_eq_self.2 (fun x hx => by simpa using hold x (hmem x (by simpa using hx)).1)
  have e2 : L.filter (fun x => decide (x.born ≥ clock)) = #[] := by
    rw [Array.filter_eq_empty_iff]
    intro x hx
    have := hold x (hmem x (by simpa using hx)).1
    simp
    omega
  simp only [e1, e2, Array.append_empty]
  by_cases h0 : L.size = 0
  · left
    have : L = #[] := Array.eq_empty_of_size_eq_zero h0
    subst this
    refine ⟨fun i hi => ?_, W, ?_, Ext.refl _ _ _, R⟩
    · have hi' : i < entries.size := by rw [← hbo.1]; exact hi
      have hb' := hbo.2 i entries[i] (by simp)
      rcases Classical.em (i ∈ seen) with h | h
      · exact h
      · have := hall entries[i] (by simp) (by rw [hb']; exact h)
        simp at this
    · simp [choose, Sem.run, Question.forced]
  · right
    have hne : L.isEmpty = false := by simp [Array.isEmpty, h0]
    simp only [hne, Bool.false_eq_true, if_false, Array.empty_append, Array.size_map]
    have hch : ∃ (j d : Nat), j < L.size ∧ (choose (Question.mapNext L.size)).run P W = .ok j { W with drawn := d } := by
      by_cases hf : L.size ≤ 1
      · exact ⟨0, W.drawn, by omega, by simp [choose, Sem.run, Question.forced, hf]⟩
      · exact ⟨_, W.drawn + 1, Nat.mod_lt _ (by omega), by
          simp only [choose, Sem.run, Question.forced, decide_eq_true_eq, hf, if_false, Question.cut]
          rfl⟩
    obtain ⟨j, d, hj, hrun⟩ := hch
    obtain ⟨q1, q2⟩ := hmem L[j] (by simp)
    obtain ⟨i, hi⟩ := List.getElem?_of_mem q1
    have hbi := hbo.2 i L[j] (by simpa using hi)
    have hi' : i < clock := by rw [hbo.1]; exact (Array.getElem?_eq_some_iff.1 (by simpa using hi : entries[i]? = some L[j])).1
    obtain ⟨p, hp⟩ : ∃ p, es[i]? = some p := ⟨es[i]'(by omega), by simp⟩
    obtain ⟨e', he', hk, hv⟩ := her.get hp
    rw [hi] at he'; injection he' with he'; subst he'
    have Rd := R.drew d
    have Xd := Ext.drew s μ W d
    obtain ⟨X, R'⟩ := Rd.putObj (x' := .miter m clock (i :: seen)) (o' := .mapIter (some γ) clock (i :: seen).reverse.toArray clock) hb rfl hlo hmb hh (by simp) (by simp)
      (fun X => .miter m clock (i :: seen) γ rfl (by rw [setObjW_get (W := { W with drawn := d }) (R.dom b β 0 hmb).2, if_pos rfl]) hmm)
    refine ⟨i, p.1, p.2, _, L[j].key, L[j].val, hi', by rw [← hbi]; exact q2, hp, ?_, Xd.trans X, R', hk.ext ((Xd.trans X).vext R), hv.ext ((Xd.trans X).vext R)⟩
    have hset : (setObj β (.mapIter (some γ) clock (seen.reverse.toArray.push L[j].born) clock)).run P { W with drawn := d } = .ok () (setObjW { W with drawn := d } β (.mapIter (some γ) clock (i :: seen).reverse.toArray clock)) := by
      have := run_setObj (P := P) (W := { W with drawn := d }) (β := β) hh (by simp) (.mapIter (some γ) clock (seen.reverse.toArray.push L[j].born) clock)
      rw [this, hbi]
      simp
    simp only [hrun, Result.andThen_ok, Array.getElem?_map, Array.getElem?_eq_getElem hj, Option.map_some, Sem.run_bind, hset, Sem.run_pure]
/-- A region that begins with the step of an iterator over a map. -/
theorem Tri.next (ok : EnvOk E P) (hrc : RecOk E P FitP rc) {pre : List V → M → S → Prop} {post : R → Prop} {id t : Nat} {d : Option Nat} {ty : Nat} {pos : String} {after : Array Edge} {os : List Oper} {ops : Array Oper}
    (hops : ops.toList = ⟨d, .next (.tmp t) false, ty, pos, after, none⟩ :: os)
    (h : ∀ T m s, pre T m s → ∃ b mm n seen es, nth T t = some (.ptr b 0) ∧ s.heap.get b = some (.miter mm n seen) ∧ s.lo ≤ b ∧ s.heap.get mm = some (.amap es) ∧ es.length = n ∧
      (∀ i k v, i < n → i ∉ seen → es[i]? = some (k, v) → post (runOps os ops.toList E rc (setD T d (.tup [.bool true, k, v])) m (s.put b (.miter mm n (i :: seen)))) ∧ runOps os ops.toList E rc (setD T d (.tup [.bool true, k, v])) m (s.put b (.miter mm n (i :: seen))) ≠ .fail) ∧
      ((∀ i, i < n → i ∈ seen) → post (runOps os ops.toList E rc (setD T d (.tup [.bool false])) m s) ∧ runOps os ops.toList E rc (setD T d (.tup [.bool false])) m s ≠ .fail)) :
    Tri E P A K pre (.code (.region id ops false)) post := by
  intro T m s hp μ W b ck a R F
  obtain ⟨bb, mm, n, seen, es, h1, h2, h3, h4, h5, h6, h7⟩ := h T m s hp
  have ho : ops[0]? = some ⟨d, .next (.tmp t) false, ty, pos, after, none⟩ := by rw [← Array.getElem?_toList, hops]; rfl
  have hsz : ops.size = os.length + 1 := by rw [← Array.length_toList, hops]; rfl
  have hrest : ∀ j, ops[0 + 1 + j]? = os[j]? := fun j => by rw [← Array.getElem?_toList, hops, show 0 + 1 + j = j + 1 by omega]; rfl
  have hrange : List.range ops.size = 0 :: List.range' (0 + 1) os.length := by rw [hsz, List.range_eq_range', List.range'_succ]
  have ht := opv_sound R F.tmps (x := .tmp t) h1
  have hev : ∃ β σ, a.eval (.tmp t) = .pointer (some ⟨β, σ, none⟩) ∧ μ bb = some (β, σ) := by
    generalize a.eval (.tmp t) = y at ht ⊢
    cases ht with
    | ptr _ _ β σ hm => exact ⟨β, σ, rfl, hm⟩
  obtain ⟨β, σ, hev, hmb⟩ := hev
  have hne : bb ≠ mm := fun e => by rw [e, h4] at h2; cases h2
  obtain ⟨rfl, hcase⟩ := next_map (P := P) R h2 h3 hmb h4 h5 hne ty
  have hsem : ∀ w : World, (Oper.semAt b.roundOf a.eval ⟨d, .next (.tmp t) false, ty, pos, after, none⟩).run P w = ((do pure (.value (← Instr.next (.pointer (some ⟨β, 0, none⟩)) false ty))) : Sem Next).run P w := by
    intro w
    rw [Oper.semAt_eq b.roundOf a.eval _ (fun c hc => by cases hc)]
    unfold execOp
    dsimp only
    rw [hev]
  have hstep : ∀ (v : V) (x : Value) (s1 : S) (W1 : World), (Instr.next (.pointer (some ⟨β, 0, none⟩)) false ty).run P W = .ok x W1 → Ext s μ W s1 μ W1 → Rel E A s1 μ W1 → VR μ (St A s1 μ W1) W1 v x →
      Good E P A K b ck s μ W (fun base k => lone (b.atR a (.code (.region id ops false) :: k)) (csOf m base) W) (runOps os ops.toList E rc (setD T d v) m s1) := by
    intro v x s1 W1 hrun X R1 hv
    have hg := runOps_good (K := K) (ops := ops) ok hrc (yield_ok hrc) os (0 + 1) hrest (setD T d v) m s1 μ W1 (a.put d x) R1 ((F.ext R X.toA).put hv d)
    refine hg.head X.toA R1 fun base hB k => .head stepR_region ?_
    rw [hrange]
    exact .one (step_plain (o := ⟨d, .next (.tmp t) false, ty, pos, after, none⟩) ho rfl (nx := .value x) (by rw [hsem]; simp [hrun]) (.inl rfl))
  rcases hcase with ⟨q1, W1, q2, q3, q4⟩ | ⟨i, k, v, W1, x, y, q1, q2, q3, q4, q5, q6, q7, q8⟩
  · exact ⟨_, (h7 q1).1, (h7 q1).2, hstep (.tup [.bool false]) _ s W1 q2 q3 q4 (.tup _ _ (.cons _ _ _ _ (.bool _) .nil))⟩
  · exact ⟨_, (h6 i k v q1 q2 q3).1, (h6 i k v q1 q2 q3).2, hstep (.tup [.bool true, k, v]) _ _ W1 q4 q5 q6 (.tup _ _ (.cons _ _ _ _ (.bool _) (.cons _ _ _ _ q7 (.cons _ _ _ _ q8 .nil))))⟩

/-! ### functions -/
/-- A function's body, from a triple. -/
theorem body_tri (ok : EnvOk E P) (hrc : RecOk E P FitP rc) {f : Nat} {fn : Func} {c : Code} (hf : E.fn f = some fn) (hb : fn.body = some c) {args : List V} {xs : Array Value} {r0 : CR} (R : Rel E A s μ W) (hargs : VRs μ (St A s μ W) W args xs.toList)
    (h : ∀ A, Tri E P A (KP (resTmps fn.results.toList)) (fun T m s' => T = frame0 fn args ∧ m = bodyM false none ∧ s' = s) (.code c) (fun r => bodyEnd E rc fn r = r0)) : BodyOut E P A s μ W f xs false .any r0 := by
  -- the outcome may hang on the frame: but what the body comes to does not
  let b : Frame := { (default : Frame) with fn := f, kind := kindOfDk false, roundOf := none }
  have key : ∀ b a0, FR A s μ W (frame0 fn args) (bodyM false none) b .any a0 → ∃ r, bodyEnd E rc fn r = r0 ∧ Good E P A (KP (resTmps fn.results.toList)) b .any s μ W (fun base k => lone (b.atR a0 (.code c :: k)) (csOf (bodyM false none) base) W) r := by
    intro b a0 F
    obtain ⟨r, q1, q2, q3⟩ := h A _ _ _ ⟨rfl, rfl, rfl⟩ μ W b .any a0 R F
    exact ⟨r, q1, q3⟩
  exact body_good' ok hrc hf hb R hargs (show DkOk μ (St A s μ W) W false none .any from rfl) key
/-- A summary, from triples. -/
theorem SumOk.tri (ok : EnvOk E P) (hov : OvOk E P) (n : Nat) {f : Nat} {fn : Func} {c : Code} (hf : E.fn f = some fn) (hb : fn.body = some c) {h : List V → S → CR}
    (ht : ∀ A args s, h args s ≠ .fail → Tri E P A (KP (resTmps fn.results.toList)) (fun T m s' => T = frame0 fn args ∧ m = bodyM false none ∧ s' = s) (.code c) (fun r => bodyEnd E (recN E n) fn r = h args s)) : SumOk E P f h := by
  intro A args xs s μ W R ha
  by_cases hne : h args s = .fail
  · rw [hne]; trivial
  · exact callN_ok (body_tri ok (rec_ok ok hov n) hf hb R ha fun A => ht A args s hne)
end
end Go.AM
end
section
/- Pieces of a body whose states are written out: blocks that nothing needs any more are let go. -/
namespace Go.AM
open Go

/-- A memory with fewer blocks. -/
structure Sub (s' s : S) : Prop where
  next : s'.next = s.next
  lo : s'.lo = s.lo
  low : ∀ b, b < s.lo → s'.heap.get b = s.heap.get b
  get : ∀ b x, s'.heap.get b = some x → s.heap.get b = some x
section
variable {E : Env} {P : Program} {A : Al} {s s' : S} {μ μ' : Mu} {Sx : Nat → Prop} {W W' : World} {rc : Rec} {K : Nat → Prop}
theorem Sub.refl (s : S) : Sub s s := ⟨rfl, rfl, fun _ _ => rfl, fun _ _ h => h⟩
theorem Sub.owned (h : Sub s' s) {l β : Nat} (ho : Owned s' μ l β) : Owned s μ l β := by
  obtain ⟨b, x, σ, h1, h2, h3, h4⟩ := ho
  exact ⟨b, x, σ, h1, h.get b x h2, h3, h4⟩
theorem Sub.ext (h : Sub s' s) : Ext s μ W s' μ W :=
  ⟨Nat.le_of_eq h.next.symm, h.lo, fun _ _ k => k, h.low, Nat.le_refl _, fun _ _ _ => rfl, fun _ _ ho k => ho (h.owned k), fun _ _ => rfl, rfl, rfl, rfl⟩
theorem Rel.sub (R : Rel E A s μ W) (h : Sub s' s) : Rel E A s' μ W := by
  refine R.step h.ext (fun b hb => R.top b (by rw [← h.next]; exact hb)) (fun b β σ hm => .inl hm) (fun b x hx => .inl ⟨h.get b x hx, fun β σ hm => rfl⟩) ?_
  intro b b' x x' β σ σ' h1 h2 h3 h4 h5
  exact R.excl b b' x x' β σ σ' (h.get _ _ h1) (h.get _ _ h2) h3 h4 h5
theorem Tri.clean {pre mid mid' : List V → M → S → Prop} {x : Item} {post : R → Prop} (h : Tri E P A K pre x (onNorm mid post)) (hc : ∀ T m s, mid T m s → ∃ s', Sub s' s ∧ mid' T m s') : Tri E P A K pre x (onNorm mid' post) := by
  intro T m s hp μ W b ck a R F
  obtain ⟨r, q1, q2, q3⟩ := h T m s hp μ W b ck a R F
  cases r with
  | norm T1 m1 s1 =>
    obtain ⟨s', k1, k2⟩ := hc T1 m1 s1 q1
    obtain ⟨μ1, W1, a1, X, R1, F1, hst⟩ := q3
    have X2 : ExtA A s1 μ1 W1 s' μ1 W1 := k1.ext.toA
    exact ⟨.norm T1 m1 s', k2, (fun e => by cases e), μ1, W1, a1, X.trans R1 X2, R1.sub k1, F1.ext R1 X2, hst⟩
  | fail => exact ⟨.fail, q1, q2, q3⟩
  | exit id T m s => exact ⟨.exit id T m s, q1, q2, q3⟩
  | ret T m s => exact ⟨.ret T m s, q1, q2, q3⟩
  | pan v T m s => exact ⟨.pan v T m s, q1, q2, q3⟩
end
/-! ### memories written out -/
noncomputable def mkH (bl : List (Nat × B)) : Tr B := List.rec (motive := fun _ => Tr B) .e (fun p _ ih => ih.put p.1 (some p.2)) bl
noncomputable def mkS (n : Nat) (bl : List (Nat × B)) : S := { heap := mkH bl, next := n, lo := 0 }
noncomputable def getsB (s : S) (bl : List (Nat × B)) : List (Option B) := mapL (fun p => s.heap.get p.1) bl
noncomputable def havB (bl : List (Nat × B)) : List (Option B) := mapL (fun p => some p.2) bl
theorem get_e (b : Nat) : (Tr.e : Tr B).get b = none := rfl
theorem mkH_get {bl : List (Nat × B)} {b : Nat} {x : B} (h : (mkH bl).get b = some x) : (b, x) ∈ bl := by
  induction bl with
  | nil => cases h
  | cons p bl ih =>
    have h : (Tr.put (mkH bl) p.1 (some p.2)).get b = some x := h
    rw [Tr.get_put] at h
    split at h
    · rename_i e
      injection h with h
      subst h
      rw [show (b, p.2) = p from by rw [e]]
      exact List.mem_cons_self ..
    · exact List.mem_cons_of_mem _ (ih h)
theorem gets_at {s : S} {bl : List (Nat × B)} (h : getsB s bl = havB bl) : ∀ b x, (b, x) ∈ bl → s.heap.get b = some x := by
  induction bl with
  | nil => intro b x hm; cases hm
  | cons p bl ih =>
    have h : s.heap.get p.1 :: getsB s bl = some p.2 :: havB bl := h
    injection h with h1 h2
    intro b x hm
    rcases List.mem_cons.1 hm with e | hm
    · rw [← e] at h1; exact h1
    · exact ih h2 b x hm
theorem sub_of {s : S} {n : Nat} {bl : List (Nat × B)} (h1 : s.next = n) (h2 : s.lo = 0) (h3 : getsB s bl = havB bl) : Sub (mkS n bl) s :=
  ⟨h1.symm, h2.symm, fun b hb => by rw [h2] at hb; omega, fun b x hx => gets_at h3 b x (mkH_get hx)⟩
/-- What is asked of a state behind a piece. -/
noncomputable def projN (bl : List (Nat × B)) (r : R) : Option (List V × M × Nat × Nat × List (Option B)) := match r with
  | .norm T m s => some (T, m, s.next, s.lo, getsB s bl)
  | _ => none
theorem projN_eq {bl : List (Nat × B)} {r : R} {T : List V} {m : M} {n : Nat} (h : projN bl r = some (T, m, n, 0, havB bl)) : ∃ s, r = .norm T m s ∧ Sub (mkS n bl) s := by
  cases r with
  | norm T1 m1 s1 =>
    injection h with h
    injection h with h1 h
    injection h with h2 h
    injection h with h3 h
    injection h with h4 h5
    subst h1; subst h2
    exact ⟨s1, rfl, sub_of h3 h4 h5⟩
  | _ => cases h
section
variable {E : Env} {P : Program} {A : Al} {rc : Rec} {K : Nat → Prop}
theorem Tri.piece (ok : EnvOk E P) (hrc : RecOk E P FitP rc) {c : Code} (hc : FitP K c) {T0 T1 : List V} {m0 m1 : M} {s0 : S} {n : Nat} {bl : List (Nat × B)} {post : R → Prop} (h : projN bl (Go.AM.exec c E rc T0 m0 s0) = some (T1, m1, n, 0, havB bl)) :
    Tri E P A K (fun T m s => T = T0 ∧ m = m0 ∧ s = s0) (.code c) (onNorm (fun T m s => T = T1 ∧ m = m1 ∧ s = mkS n bl) post) := by
  obtain ⟨s1, h1, h2⟩ := projN_eq h
  refine Tri.clean (mid := fun T m s => T = T1 ∧ m = m1 ∧ s = s1) (Tri.exec ok hrc hc ?_) ?_
  · rintro T m s ⟨rfl, rfl, rfl⟩
    rw [h1]
    exact ⟨⟨rfl, rfl, rfl⟩, fun e => by cases e⟩
  · rintro T m s ⟨rfl, rfl, rfl⟩
    exact ⟨_, h2, rfl, rfl, rfl⟩
end
/-! ### frames some of whose places are open -/
noncomputable def fillT (l : List (Option V)) (f : Nat → V) : Nat → List V := List.rec (motive := fun _ => Nat → List V) (fun _ => []) (fun o _ ih i => optC o (f i) (fun v => v) :: ih (i + 1)) l
noncomputable def agree (l : List (Option V)) : List V → Bool := List.rec (motive := fun _ => List V → Bool) (fun T => listC T true fun _ _ => false) (fun o _ ih T => listC T false fun w T => optC o (ih T) fun v => boolC (eqVs [v] [w]) false (ih T)) l
theorem agree_ok {l : List (Option V)} : ∀ {T : List V} (d : Nat), agree l T = true → ∃ f, T = fillT l f d := by
  induction l with
  | nil =>
    intro T d h
    cases T with
    | nil => exact ⟨fun _ => .nilp, rfl⟩
    | cons v T => cases h
  | cons o l ih =>
    intro T d h
    cases T with
    | nil => cases h
    | cons w T =>
      have key : ∀ {f : Nat → V}, T = fillT l f (d + 1) → ∃ g : Nat → V, g d = w ∧ T = fillT l g (d + 1) := by
        intro f hf
        refine ⟨fun j => if j = d then w else f j, if_pos rfl, ?_⟩
        rw [hf]
        have : ∀ (l : List (Option V)) (e : Nat), d < e → fillT l f e = fillT l (fun j => if j = d then w else f j) e := by
          intro l
          induction l with
          | nil => intro e _; rfl
          | cons o l ih =>
            intro e he
            show optC o (f e) (fun v => v) :: fillT l f (e + 1) = optC o (if e = d then w else f e) (fun v => v) :: fillT l _ (e + 1)
            rw [if_neg (by omega), ih (e + 1) (by omega)]
        exact this l (d + 1) (by omega)
      cases o with
      | none =>
        obtain ⟨f, hf⟩ := ih (T := T) (d + 1) h
        obtain ⟨g, hg, hT⟩ := key hf
        exact ⟨g, by show w :: T = g d :: fillT l g (d + 1); rw [hg, ← hT]⟩
      | some v =>
        have h : boolC (eqVs [v] [w]) false (agree l T) = true := h
        rw [boolC_eq] at h
        split at h
        · rename_i he
          have he := eqVs_eq _ _ he
          injection he with he
          obtain ⟨f, hf⟩ := ih (T := T) (d + 1) h
          exact ⟨f, by show w :: T = v :: fillT l f (d + 1); rw [he, ← hf]⟩
        · cases h
noncomputable def thenR (r : R) (f : List V → M → S → R) : R := match r with | .norm T m s => f T m s | r => r
noncomputable def projA (lits : List (Option V)) (bl : List (Nat × B)) (r : R) : Option (Option Nat × Bool × M × Nat × Nat × List (Option B)) := match r with
  | .norm T m s => some (none, agree lits T, m, s.next, s.lo, getsB s bl)
  | .exit id T m s => some (some id, agree lits T, m, s.next, s.lo, getsB s bl)
  | _ => none
theorem projA_norm {lits : List (Option V)} {bl : List (Nat × B)} {r : R} {m : M} {n : Nat} (h : projA lits bl r = some (none, true, m, n, 0, havB bl)) : ∃ f s, r = .norm (fillT lits f 0) m s ∧ Sub (mkS n bl) s := by
  cases r with
  | norm T1 m1 s1 =>
    injection h with h
    injection h with _ h
    injection h with h1 h
    injection h with h2 h
    injection h with h3 h
    injection h with h4 h5
    subst h2
    obtain ⟨f, rfl⟩ := agree_ok 0 h1
    exact ⟨f, s1, rfl, sub_of h3 h4 h5⟩
  | exit id T m s => injection h with h; injection h with h _; cases h
  | _ => cases h
theorem projA_exit {lits : List (Option V)} {bl : List (Nat × B)} {r : R} {m : M} {n id : Nat} (h : projA lits bl r = some (some id, true, m, n, 0, havB bl)) : ∃ f s, r = .exit id (fillT lits f 0) m s ∧ Sub (mkS n bl) s := by
  cases r with
  | exit id T1 m1 s1 =>
    injection h with h
    injection h with h0 h
    injection h0 with h0
    injection h with h1 h
    injection h with h2 h
    injection h with h3 h
    injection h with h4 h5
    subst h2; subst h0
    obtain ⟨f, rfl⟩ := agree_ok 0 h1
    exact ⟨f, s1, rfl, sub_of h3 h4 h5⟩
  | norm T m s => injection h with h; injection h with h _; cases h
  | _ => cases h
def isExit (r : R) : Bool := match r with | .exit .. => true | _ => false
theorem thenR_norm {r : R} {f : List V → M → S → R} {T : List V} {m : M} {s : S} (h : thenR r f = .norm T m s) : ∃ T1 m1 s1, r = .norm T1 m1 s1 ∧ f T1 m1 s1 = .norm T m s := by
  cases r with
  | norm T1 m1 s1 => exact ⟨T1, m1, s1, rfl, h⟩
  | _ => cases h
theorem thenR_exit {r : R} {f : List V → M → S → R} {id : Nat} {T : List V} {m : M} {s : S} (h : thenR r f = .exit id T m s) (hr : isExit r = false) : ∃ T1 m1 s1, r = .norm T1 m1 s1 ∧ f T1 m1 s1 = .exit id T m s := by
  cases r with
  | norm T1 m1 s1 => exact ⟨T1, m1, s1, rfl, h⟩
  | exit => cases hr
  | _ => cases h
/-! ### how many are not seen yet -/
def unseen (seen : List Nat) : Nat → Nat
  | 0 => 0
  | n + 1 => unseen seen n + if n ∈ seen then 0 else 1
theorem unseen_le (seen : List Nat) (i : Nat) : ∀ n, unseen (i :: seen) n ≤ unseen seen n := by
  intro n
  induction n with
  | zero => exact Nat.le_refl _
  | succ n ih =>
    show unseen (i :: seen) n + (if n ∈ i :: seen then 0 else 1) ≤ unseen seen n + if n ∈ seen then 0 else 1
    by_cases h : n ∈ seen
    · rw [if_pos h, if_pos (List.mem_cons_of_mem _ h)]; omega
    · rw [if_neg h]; split <;> omega
theorem unseen_lt (seen : List Nat) (i : Nat) (hi : i ∉ seen) : ∀ n, i < n → unseen (i :: seen) n < unseen seen n := by
  intro n
  induction n with
  | zero => intro h; omega
  | succ n ih =>
    intro h
    show unseen (i :: seen) n + (if n ∈ i :: seen then 0 else 1) < unseen seen n + if n ∈ seen then 0 else 1
    by_cases he : i = n
    · subst he
      have := unseen_le seen i i
      rw [if_pos (List.mem_cons_self ..), if_neg hi]; omega
    · have := ih (by omega)
      by_cases h : n ∈ seen
      · rw [if_pos h, if_pos (List.mem_cons_of_mem _ h)]; omega
      · rw [if_neg h]; split <;> omega
end Go.AM
end
section
/- Tables of known results. -/
namespace Go.AM
open Go
noncomputable def tabOk (E : Env) (n f : Nat) (l : List (List V × V)) : Bool := List.rec (motive := fun _ => Bool) true (fun p _ ih => optC (runE E n f p.1) false fun v => boolC (eqVs [p.2] [v]) false ih) l
theorem tabOk_at {E : Env} {n f : Nat} {l : List (List V × V)} (h : tabOk E n f l = true) : ∀ p ∈ l, ∃ n, runE E n f p.1 = some p.2 := by
  induction l with
  | nil => intro p hp; cases hp
  | cons q l ih =>
    have h : optC (runE E n f q.1) false (fun v => boolC (eqVs [q.2] [v]) false (tabOk E n f l)) = true := h
    cases hr : runE E n f q.1 with
    | none => rw [hr] at h; cases h
    | some v =>
      rw [hr, optC_some, boolC_eq] at h
      split at h
      · rename_i he
        have he := eqVs_eq _ _ he
        injection he with he
        intro p hp
        rcases List.mem_cons.1 hp with rfl | hp
        · exact ⟨n, by rw [hr, he]⟩
        · exact ih h p hp
      · cases h
theorem tab_app {E : Env} {f : Nat} {l l' : List (List V × V)} (h : ∀ p ∈ l, ∃ n, runE E n f p.1 = some p.2) (h' : ∀ p ∈ l', ∃ n, runE E n f p.1 = some p.2) : ∀ p ∈ l ++ l', ∃ n, runE E n f p.1 = some p.2 := by
  intro p hp
  rcases List.mem_append.1 hp with k | k
  · exact h p k
  · exact h' p k
noncomputable def failH : List V → S → CR := fun _ _ => .fail
theorem failH_ok (E : Env) (P : Program) (f : Nat) : SumOk E P f failH := fun _ _ _ _ _ _ _ _ => trivial
end Go.AM
end
section
/- Layers of known results. -/
namespace Go.AM
open Go

section
variable {E E' : Env} {P : Program} {A : Al} {s s' : S} {μ μ' : Mu} {W W' : World}
/-- A known result, whatever layer it is known from. -/
def Fact (E : Env) (P : Program) (f : Nat) (q : List V × V) : Prop := ∃ E' n, EnvOk E' P ∧ OvOk E' P ∧ E'.g = E.g ∧ runE E' n f q.1 = some q.2
theorem memo_fact {f : Nat} {l : List (List V × V)} (hl : ∀ p ∈ l, Fact E P f p) {els : List V → S → CR} (he : SumOk E P f els) : SumOk E P f (memoH l els) := by
  intro A args xs s μ W R ha
  show CallOut E P A s μ W f xs (optC (bind (rsvL (rsvN s.heap noBlk deep false) args) (known l)) (els args s) fun v => frozenE s.heap args s (.ret v s false))
  cases hb : bind (rsvL (rsvN s.heap noBlk deep false) args) (known l) with
  | none => exact he A args xs s μ W R ha
  | some v =>
    rw [optC_some]
    obtain ⟨as, has, hk⟩ := bind_eq_some.1 hb
    obtain ⟨E', n, ok', ov', hg, hn⟩ := hl _ (known_some hk)
    have hc := callE_ok (f := f) ok' (rec_ok ok' ov' n) (R.env hg) ha
    unfold callE at hc
    rw [has, optC_some] at hc
    unfold runE outE at hn
    cases hd : doBody E' (recN E' n) f as false none s0 with
    | fail => rw [hd] at hn; cases hn
    | pan w s1 rd => rw [hd] at hn; cases hn
    | ret w s1 rd =>
      rw [hd] at hn hc
      have hn : rsvN s1.heap noBlk deep false w = some v := hn
      have : backR noBlk s (.ret w s1 rd) = .ret v s false := by
        show retV (rsvN s1.heap noBlk deep false w) s = _
        rw [hn]; rfl
      rw [this] at hc
      exact hc.env hg.symm
/-- What is not known is run, one layer below. -/
noncomputable def elsH (E : Env) (n f : Nat) : List V → S → CR := fun args s => doBody E (recN E n) f args false none s
theorem elsH_ok (ok : EnvOk E' P) (hov : OvOk E' P) (hg : E'.g = E.g) (n f : Nat) : SumOk E P f (elsH E' n f) := by
  have : SumOk E' P f (elsH E' n f) := by
    intro A args xs s μ W R ha
    exact callN_ok (body_ok ok (rec_ok ok hov n) R ha (show DkOk μ (St A s μ W) W false none .any from rfl))
  exact SumOk.env hg.symm this
noncomputable def mkT (l : List (Nat × (List V → S → CR))) : Tr (List V → S → CR) := List.rec (motive := fun _ => Tr (List V → S → CR)) .e (fun p _ ih => ih.put p.1 (some p.2)) l
theorem mkT_get {l : List (Nat × (List V → S → CR))} {b : Nat} {x : List V → S → CR} (h : (mkT l).get b = some x) : (b, x) ∈ l := by
  induction l with
  | nil => cases h
  | cons p l ih =>
    have h : (Tr.put (mkT l) p.1 (some p.2)).get b = some x := h
    rw [Tr.get_put] at h
    split at h
    · rename_i e
      injection h with h
      subst h
      rw [show (b, p.2) = p from by rw [e]]
      exact List.mem_cons_self ..
    · exact List.mem_cons_of_mem _ (ih h)
abbrev Tabs := List (Nat × List (List V × V))
noncomputable def layerT (E' : Env) (n : Nat) (tabs : Tabs) : Tr (List V → S → CR) := mkT (mapL (fun p => (p.1, memoH p.2 (elsH E' n p.1))) tabs)
noncomputable def layer (E E' : Env) (n : Nat) (tabs : Tabs) : Env := E.over (fun f => (layerT E' n tabs).get f)
def TabsOk (E : Env) (P : Program) (tabs : Tabs) : Prop := ∀ p ∈ tabs, ∀ q ∈ p.2, Fact E P p.1 q
theorem mem_mapL {α β : Type} (f : α → β) {y : β} : ∀ {l : List α}, y ∈ mapL f l → ∃ x ∈ l, f x = y := by
  intro l
  induction l with
  | nil => intro h; cases h
  | cons x l ih =>
    intro h
    have h : y ∈ f x :: mapL f l := h
    rcases List.mem_cons.1 h with h | h
    · exact ⟨x, List.mem_cons_self .., h.symm⟩
    · obtain ⟨z, h1, h2⟩ := ih h
      exact ⟨z, List.mem_cons_of_mem _ h1, h2⟩
theorem layer_env (ok : EnvOk E P) {n : Nat} {tabs : Tabs} : EnvOk (layer E E' n tabs) P := ok.over _
theorem layer_ov (hov : OvOk E P) (ok' : EnvOk E' P) (hov' : OvOk E' P) (hg : E'.g = E.g) {n : Nat} {tabs : Tabs} (h : TabsOk E P tabs) : OvOk (layer E E' n tabs) P := by
  refine hov.over fun f k hk => ?_
  obtain ⟨p, h1, h2⟩ := mem_mapL _ (mkT_get hk)
  injection h2 with h2 h3
  subst h2; subst h3
  exact memo_fact (h p h1) (elsH_ok ok' hov' hg n p.1)
theorem layer_g {n : Nat} {tabs : Tabs} : (layer E E' n tabs).g = E.g := rfl
theorem TabsOk.nil : TabsOk E P [] := fun p h => by cases h
theorem TabsOk.cons {f : Nat} {l : List (List V × V)} {tabs : Tabs} (h : ∀ q ∈ l, Fact E P f q) (t : TabsOk E P tabs) : TabsOk E P ((f, l) :: tabs) := by
  intro p hp
  rcases List.mem_cons.1 hp with rfl | hp
  · exact h
  · exact t p hp
theorem fact_tab (ok : EnvOk E' P) (hov : OvOk E' P) (hg : E'.g = E.g) {n f : Nat} {l : List (List V × V)} (h : tabOk E' n f l = true) : ∀ q ∈ l, Fact E P f q := by
  intro q hq
  obtain ⟨m, hm⟩ := tabOk_at h q hq
  exact ⟨E', m, ok, hov, hg, hm⟩
theorem fact_app {f : Nat} {l l' : List (List V × V)} (h : ∀ q ∈ l, Fact E P f q) (h' : ∀ q ∈ l', Fact E P f q) : ∀ q ∈ app l l', Fact E P f q := by
  intro q hq
  rw [app_eq] at hq
  rcases List.mem_append.1 hq with k | k
  · exact h q k
  · exact h' q k
end
end Go.AM
end
section
/- A machine's run with what it takes for granted at the places where it is stuck: a trace tells these places, and what comes there. -/
namespace Go.AM
open Go
noncomputable section
/-- What lies at a place. -/
def ldB (x : Option B) (off n : Nat) (agg : Bool) : Option V := bind (bind (blkCells x) fun c => some (dropN off c)) fun c => bind (takeN n c) (wrapCells agg)
/-- What comes at a stuck place: a comparison, a natural number, a byte of a text, a text's part, two texts joined, an index of a slice, an element, a load, a store, bytes of a text, equality of structs, a call, a loop; a loop of as many rounds; a text of bytes. -/
inductive TI where
  | bl (b : Bool)
  | nat (y : Nat)
  | ix (x : Nat)
  | cut
  | cat
  | ia
  | il (v : V)
  | ld (v : V)
  | st (s : S)
  | byt
  | eqs (o : Bool)
  | cl (v : V)
  | cs (v : V) (s : S)
  | lp (r : R)
  | un (l : List Rec)
  | str (l : List Nat)
/-- How many operations run by themselves, and what comes then. -/
abbrev Z := List (Nat × TI)
def plnF (o : Op) : Option (Env → List V → S → VS) := match o with
  | .move x => some (oMove x)
  | .assign x => some (oMove x)
  | .pick c a b => some (oPick c a b)
  | .alloc t => some (oAlloc t)
  | .box t x => some (oBox t x)
  | .build t ps => some (oBuild t ps)
  | .buildSlice t n ps => some (oBuildSlice t n ps)
  | .load t a => some (oLoad t a)
  | .store t a x => some (oStore t a x)
  | .nilCheck x => some (oNilCheck x)
  | .binOp op t x y _ => some (oBin op t x y)
  | .unOp op _ x => some (oUn op x)
  | .convert a b x => some (oConvert a b x)
  | .makeInterface t x => some (oMakeIface t x)
  | .makeFunc f a c => some (oMakeFunc f a c)
  | .makeSlice t l c => some (oMakeSlice t l c)
  | .slice t x lo hi mx => some (oSlice t x lo hi mx)
  | .fieldAddr t x f => some (oFieldAddr t x f)
  | .field t x f => some (oField t x f)
  | .indexAddr t x i => some (oIndexAddr t x i)
  | .index t x i => some (oIndex t x i)
  | .typeAssert x _ t ok => some (oAssert x t ok)
  | .extract x i => some (oExtract x i)
  | .call c => match c.callee with
    | .builtin b => match b with
      | .recover => none
      | b => some (oBuiltin b c.args c.argTypes)
    | _ => none
  | _ => none
/-- Which function a call leads to, with which arguments. -/
def callTo (o : Op) (E : Env) (T : List V) : Tgt := match o with
  | .call c => match c.callee with
    | .value f => match f with
      | .func g => optC (opvs E T c.args.toList) .no fun a => .f g a
      | f => optC (opv E T f) .no fun g => optC (opvs E T c.args.toList) .no fun a => target E g a
    | _ => .no
  | _ => .no
abbrev KV := V → S → Prop
def isSl (v : V) : Bool := match v with | .sl _ _ _ _ _ => true | _ => false
section
variable (E : Env) (rc : Rec)
def autoQ (o : Op) (T : List V) (s : S) (K : KV) : Prop := optC (plnF o) True fun f => optC (f E T s) True fun p => K p.1 p.2
def blQ (b : Bool) (K : KV) (p : V × S) : Prop := match p.1 with
  | .bool c => c = b → K (.bool b) p.2
  | _ => True
def natQ (y : Nat) (K : KV) (p : V × S) : Prop := match p.1 with
  | .int k e => e = Int.ofNat y → K (.int k (Int.ofNat y)) p.2
  | _ => True
def ixV (x : Nat) (s : S) (K : KV) (v w : V) : Prop := match v, w with
  | .str l, .int _ (.ofNat n) => nth l n = some x → K (byteV x) s
  | _, _ => True
def ixQ (x : Nat) (o : Op) (T : List V) (s : S) (K : KV) : Prop := match o with
  | .index t a i => optC (E.ti t) True fun ti => boolC (strK ti.kind) True (optC (opv E T a) True fun v => optC (opv E T i) True fun w => ixV x s K v w)
  | _ => True
def cutV (s : S) (K : KV) (lo hi : Option Nat) (v : V) : Prop := match v with
  | .str l => inB (orD lo 0) (orD hi (len l)) (len l) (len l) = true → K (.str (takeB (orD hi (len l) - orD lo 0) (dropN (orD lo 0) l))) s
  | _ => True
def cutQ (o : Op) (T : List V) (s : S) (K : KV) : Prop := match o with
  | .slice t a lo hi none => optC (E.ti t) True fun ti => boolC (strK ti.kind) True (optC (opv E T a) True fun v => optC (optN E T lo) True fun lo => optC (optN E T hi) True fun hi => cutV s K lo hi v)
  | _ => True
def catV (s : S) (K : KV) (v w : V) : Prop := match v, w with
  | .str a, .str b => Nat.ble (len a + len b) maxInt = true → K (.str (app a b)) s
  | _, _ => True
def catQ (o : Op) (T : List V) (s : S) (K : KV) : Prop := match o with
  | .binOp .add t x y _ => optC (opv E T x) True fun v => optC (opv E T y) True fun w => catV s K v w
  | _ => True
def iaV (s : S) (K : KV) (sz i : Nat) (v : V) : Prop := match v with
  | .sl b off n _ _ => Nat.blt i n = true → K (.ptr b (off + i * sz)) s
  | _ => True
def sliceE (k : TK) (F : Nat → Prop) : Prop := match k with
  | .slice e => F e
  | _ => True
def iaQ (o : Op) (T : List V) (s : S) (K : KV) : Prop := match o with
  | .indexAddr t x i => optC (E.ti t) True fun ti => sliceE ti.kind fun e => optC (E.ti e) True fun te => optC (opv E T x) True fun v => optC (toNO (opv E T i)) True fun i => iaV s K te.size i v
  | _ => True
def ilQ (r : V) (o : Op) (T : List V) (s : S) (K : KV) : Prop := match o with
  | .indexAddr t x i => optC (E.ti t) True fun ti => sliceE ti.kind fun e => optC (E.ti e) True fun te => optC (opv E T x) True fun v => optC (toNO (opv E T i)) True fun i => (idxSl te.size v i = some r → K r s)
  | _ => True
def ldV (r : V) (s : S) (K : KV) (n : Nat) (agg : Bool) (v : V) : Prop := match v with
  | .ptr b off => ldB (s.heap.get b) off n agg = some r → K r s
  | _ => True
def ldQ (r : V) (o : Op) (T : List V) (s : S) (K : KV) : Prop := match o with
  | .load t a => optC (E.ti t) True fun ti => optC (opv E T a) True fun v => ldV r s K ti.size ti.agg v
  | _ => True
def stQ (s1 : S) (o : Op) (T : List V) (s : S) (K : KV) : Prop := match o with
  | .store t a x => optC (E.ti t) True fun ti => optC (opv E T a) True fun a => optC (opv E T x) True fun v => (storeV s ti.size (cellsOf v) a = some (undef, s1) → K undef s1)
  | _ => True
def bytV (s : S) (K : KV) (v : V) : Prop := match v with
  | .str l => Nat.ble (len l) room = true → K (.sl s.next 0 (len l) 1 none) (s.new (.cells true 0 (mapL byteV l)))
  | _ => True
def bytQ (o : Op) (T : List V) (s : S) (K : KV) : Prop := match o with
  | .convert a b x => optC (E.ti a) True fun ta => boolC (strK ta.kind) True (optC (E.ti b) True fun tb => boolC (isByteSlice E tb.kind) True (optC (opv E T x) True fun v => bytV s K v))
  | _ => True
def strQ (l : List Nat) (o : Op) (T : List V) (s : S) (K : KV) : Prop := match o with
  | .convert a b x => optC (E.ti a) True fun ta => boolC (isByteSlice E ta.kind) True (optC (E.ti b) True fun tb => boolC (strK tb.kind) True (optC (opv E T x) True fun v => boolC (isSl v) True (bind (sliceCells s 1 v) bytesOf = some l → K (.str l) s)))
  | _ => True
def noneQ (x : Option V) (K : Prop) : Prop := optC x K fun _ => True
def eqsQ (b : Bool) (o : Op) (T : List V) (s : S) (K : KV) : Prop := match o with
  | .binOp op t x y _ => optC (opv E T x) True fun v => optC (opv E T y) True fun w => noneQ (nilEq E.ti op t (isConstO x || isConstO y) v w) (noneQ (binOp E.ti op t v w) (noneQ (arrEq E.ti op t v w)
      (boolC (E.eqs t) True (optC (E.ti t) True fun i => (eqStrK E.ti i.kind v w = some b → optC (boolOp op b) True fun r => K r s)))))
  | _ => True
def clT (v : V) (s s1 : S) (K : KV) (t : Tgt) : Prop := match t with
  | .f g a => rc.call g a s = .ret v s1 false → K v s1
  | _ => True
def itemQ (i : TI) (o : Op) (T : List V) (s : S) (K : KV) : Prop := match i with
  | .bl b => optC (plnF o) True fun f => optC (f E T s) True (blQ b K)
  | .nat y => optC (plnF o) True fun f => optC (f E T s) True (natQ y K)
  | .ix x => ixQ E x o T s K
  | .cut => cutQ E o T s K
  | .cat => catQ E o T s K
  | .ia => iaQ E o T s K
  | .il v => ilQ E v o T s K
  | .ld v => ldQ E v o T s K
  | .st s1 => stQ E s1 o T s K
  | .byt => bytQ E o T s K
  | .eqs b => eqsQ E b o T s K
  | .cl v => clT rc v s s K (callTo o E T)
  | .cs v s1 => clT rc v s s1 K (callTo o E T)
  | .lp _ => True
  | .un _ => True
  | .str l => strQ E l o T s K
def oneQ (o : Op) (T : List V) (s : S) (z : Z) (K : V → S → Z → Prop) : Prop :=
  listC z (autoQ E o T s fun v s => K v s []) fun i z' => natC i.1 (itemQ E rc i.2 o T s fun v s => K v s z') fun n => autoQ E o T s fun v s => K v s ((n, i.2) :: z')
abbrev KT := List V → S → Z → Prop
def opsQ (all os : List Oper) : List V → S → Z → KT → Prop := List.rec (motive := fun _ => List V → S → Z → KT → Prop) (fun T s z k => k T s z)
  (fun o _ ih T s z k => boolC (wantedIn all T o.guard) (ih (setD T o.dst undef) s z k) (oneQ E rc o.op T s z fun v s z => ih (setD T o.dst v) s z k)) os
/-! drawn regions: of what was read: which block it was read from (none: not known; some none: no block) -/
abbrev DD := List (Option (Option Nat))
def depV (v : V) : Option (Option Nat) := match v with
  | .ptr b _ => some (some b)
  | .lptr _ => some none
  | _ => none
def depOf (o : Op) (T : List V) : Option (Option Nat) := match o with
  | .load _ a => bind (opv E T a) depV
  | _ => none
def apart1 (c : Nat) (d : Option (Option Nat)) : Bool := optC d false fun x => optC x true fun b => boolC (Nat.beq b c) true false
def apartD (c : Nat) (D : DD) : Bool := List.rec (motive := fun _ => Bool) true (fun d _ ih => boolC (apart1 c d) false ih) D
def tick (z : Z) : Z := listC z [] fun i z' => natC i.1 z fun n => (n, i.2) :: z'
def plain1 (v : V) : Bool := match v with | .bool _ => true | .int _ _ => true | .str _ => true | .nilp => true | .ptr _ _ => true | .nils => true | .nili => true | _ => false
def plainL (l : List V) : Bool := List.rec (motive := fun _ => Bool) true (fun v _ ih => boolC (plain1 v) false ih) l
def plainV (v : V) : Bool := match v with | .agg l => plainL l | v => plain1 v
abbrev KD := DD → List V → S → Z → Prop
def ptrQ (v : V) (F : Nat → Prop) : Prop := match v with | .ptr b _ => F b | _ => True
def clD (i : TI) (s : S) (t : Tgt) (K : V → Prop) : Prop := match i with
  | .cl v => (match t with | .f g a => rc.call g a s = .ret v s false → K v | _ => True)
  | _ => True
def fixQ (o : Op) (dst : Option Nat) (D : DD) (T : List V) (s : S) (z : Z) (K : KD) : Prop := match o with
  | .store t a x => optC (opv E T a) True fun av => ptrQ av fun c => boolC (apartD c D) True (optC (oStore t a x E T s) True fun p => K D (setD T dst p.1) p.2 (tick z))
  | .call c => listC z True fun i z' => natC i.1 (clD rc i.2 s (callTo (.call c) E T) fun v => K D (setD T dst v) s z') fun _ => True
  | _ => True
def newQ (o : Op) (dst : Option Nat) (D : DD) (T : List V) (s : S) (z : Z) (K : KD) : Prop := optC (aShape o E T) True fun p => optC p.1 (K D (setD T dst (p.2 0)) s (tick z)) fun x => boolC (apartD s.next D) True (K D (setD T dst (p.2 s.next)) (s.new x) (tick z))
def pureQ (rd : Bool) (o : Op) (dst : Option Nat) (D : DD) (T : List V) (s : S) (z : Z) (K : KD) : Prop := optC (pF o) True fun _ => optC (plnF o) True fun _ =>
  oneQ E rc o T s z fun v _ z => boolC rd (K D (setD T dst v) s z) (boolC (plainV v) True (K (depOf E o T :: D) (setD T dst v) s z))
def dQ (all : List Oper) (L : List PE) : DD → List V → S → Z → KT → Prop := List.rec (motive := fun _ => DD → List V → S → Z → KT → Prop) (fun _ T s z k => k T s z)
  (fun e L ih D T s z k => boolC (wantedIn all T e.o.guard) (ih D (setD T e.o.dst undef) s z k)
    (natC e.cls (boolC (newsOk E all e.i T L) True (fixQ E rc e.o.op e.o.dst D T s z fun D T s z => ih D T s z k)) fun c => natC c (newQ E e.o.op e.o.dst D T s z fun D T s z => ih D T s z k) fun c =>
      pureQ E rc (Nat.beq c 1) e.o.op e.o.dst D T s z fun D T s z => ih D T s z k)) L
/-! code -/
abbrev KR := R → Z → Prop
def regQ (ops : Array Oper) (d : Bool) (T : List V) (m : M) (s : S) (z : Z) (k : KR) : Prop := boolC d (opsQ E rc ops.toList ops.toList T s z fun T s z => k (.norm T m s) z)
  (boolC (swpTest ops.toList) (dQ E rc ops.toList (planOf ops.toList) [] T s z fun T s z => k (.norm T m s) z) True)
abbrev CQ := Rec → List V → M → S → Z → KR → Prop
def seqQ (b : CQ) (rc : Rec) (k : KR) (r : R) (z : Z) : Prop := match r with
  | .norm T m s => b rc T m s z k
  | r => k r z
def stopQ (k : KR) (r : R) (z : Z) : Prop := match r with
  | .norm _ _ _ => True
  | r => k r z
/-- A loop's rounds, with the machines that run them. -/
def unQ (b : CQ) (l : List Rec) : CQ := List.rec (motive := fun _ => CQ) (fun rc T m s z k => b rc T m s z (stopQ k)) (fun rc' _ ih rc T m s z k => rc = recS E rc' → b rc T m s z (seqQ ih rc' k)) l
def lpQ (c : Code) (b : CQ) (rc : Rec) (T : List V) (m : M) (s : S) (i : TI) (z : Z) (k : KR) : Prop := match i with
  | .lp r => exec (.loop c) E rc T m s = r → k r z
  | .un l => unQ E b l rc T m s z k
  | _ => True
def xQ (c : Code) : CQ := Code.rec (motive := fun _ => CQ)
  (skip := fun _ T m s z k => k (.norm T m s) z) (region := fun _ ops d rc T m s z k => regQ E rc ops d T m s z k) (seq := fun _ _ a b rc T m s z k => a rc T m s z (seqQ b rc k))
  (cond := fun c _ _ a b rc T m s z k => optC (bind (opv E T c) boolOf) True fun t => boolC t (b rc T m s z k) (a rc T m s z k)) (block := fun id _ b rc T m s z k => b rc T m s z fun r z => k (blockK id r) z)
  (loop := fun c b rc T m s z k => listC z True fun i z' => natC i.1 (lpQ E c b rc T m s i.2 z' k) fun _ => True) (rangeFunc := fun _ _ _ _ _ _ _ _ _ _ _ _ => True) (exit := fun id _ T m s z k => k (.exit id T m s) z)
  (scope := fun _ b => b) (label := fun _ _ T m s z k => k (.norm T m s) z) (goto := fun _ _ _ _ _ _ _ => True) (ret := fun _ T m s z k => k (.ret T m s) z) (refuse := fun _ _ _ _ _ _ _ => True) c
/-- What a body comes to. -/
def doQ (f : Nat) (args : List V) (s : S) (z : Z) : Prop := optC (E.fn f) True fun fn => optC fn.body True fun c => xQ E c rc (frame0 fn args) (bodyM false none) s z fun r _ => doBody E rc f args false none s = bodyEnd E rc fn r
/-- What code comes to. -/
def codeQ (c : Code) (T : List V) (s : S) (z : Z) : Prop := xQ E c rc T (bodyM false none) s z fun r _ => exec c E rc T (bodyM false none) s = r
end
/-! ### it is so -/
section
variable {E : Env} {rc : Rec} {o : Op} {T : List V} {m : M} {s : S} {z : Z}
theorem plnF_ok {f : Env → List V → S → VS} (h : plnF o = some f) (k : K) : doOp o E rc T m s k = withK (f E T s) m k := by
  cases o <;> first | (cases h; done) | (injection h with h; subst h; rfl) | skip
  rename_i c
  obtain ⟨ce, as, ts⟩ := c
  cases ce with
  | builtin b => cases b <;> first | (cases h; done) | (injection h with h; subst h; rfl)
  | value f => cases h
  | invoke r n => cases h
theorem callTo_ok {g : Nat} {a : List V} (h : callTo o E T = .f g a) (k : K) : doOp o E rc T m s k = calledK (rc.call g a s) T m k := by
  cases o <;> first | (cases h; done) | skip
  rename_i c
  obtain ⟨ce, as, ts⟩ := c
  cases ce with
  | builtin b => cases h
  | invoke r n => cases h
  | value f =>
    have gen : ∀ f, (optC (opv E T f) Tgt.no fun g => optC (opvs E T as.toList) .no fun a => target E g a) = .f g a → callV E rc (opv E T f) (opvs E T as.toList) T m s k = calledK (rc.call g a s) T m k := by
      intro f h
      unfold callV
      cases h1 : opv E T f with
      | none => rw [h1] at h; cases h
      | some v =>
        rw [h1] at h
        cases h2 : opvs E T as.toList with
        | none => rw [h2] at h; cases h
        | some w =>
          rw [h2] at h
          have h : target E v w = .f g a := h
          show invokeK rc (target E v w) T m s k = _
          rw [h]; rfl
    cases f with
    | func g' =>
      have h : (optC (opvs E T as.toList) Tgt.no fun a => .f g' a) = .f g a := h
      show (optC (opvs E T as.toList) .fail fun args => calledK (rc.call g' args s) T m k) = _
      cases h2 : opvs E T as.toList with
      | none => rw [h2] at h; cases h
      | some w =>
        rw [h2] at h
        injection h with h3 h4
        subst h3; subst h4; rfl
    | tmp t => exact gen _ h
    | const v => exact gen _ h
    | global g => exact gen _ h
theorem optQ {α : Type} {x : Option α} {F : α → Prop} (h : ∀ a, x = some a → F a) : optC x True F := by
  cases x with
  | none => trivial
  | some a => exact h a rfl
theorem boolQ {b : Bool} {P : Prop} (h : b = true → P) : boolC b True P := by
  cases b with
  | false => trivial
  | true => exact h rfl
theorem autoQ_ok {K : KV} (h : ∀ v s', (∀ k, doOp o E rc T m s k = k v m s') → K v s') : autoQ E o T s K :=
  optQ fun f hf => optQ fun p hp => h _ _ fun k => by rw [plnF_ok hf, hp]; rfl
theorem itemQ_ok (i : TI) {K : KV} (h : ∀ v s', (∀ k, doOp o E rc T m s k = k v m s') → K v s') : itemQ E rc i o T s K := by
  cases i with
  | bl b =>
    refine optQ fun f hf => optQ fun p hp => ?_
    obtain ⟨v, s1⟩ := p
    cases v <;> first | trivial | skip
    rename_i c
    intro hc
    have hc : c = b := hc
    subst hc
    exact h _ _ fun k => by rw [plnF_ok hf, hp]; rfl
  | nat y =>
    refine optQ fun f hf => optQ fun p hp => ?_
    obtain ⟨v, s1⟩ := p
    cases v <;> first | trivial | skip
    rename_i kk c
    intro hc
    have hc : c = Int.ofNat y := hc
    subst hc
    exact h _ _ fun k => by rw [plnF_ok hf, hp]; rfl
  | ix x =>
    cases o <;> first | trivial | skip
    rename_i t a i
    refine optQ fun ti h1 => boolQ fun h2 => optQ fun v h3 => optQ fun w h4 => ?_
    cases v <;> first | trivial | skip
    rename_i l
    cases w <;> first | trivial | skip
    rename_i kk n
    cases n <;> first | trivial | skip
    rename_i n
    intro h5
    have h5 : nth l n = some x := h5
    refine h _ _ fun k => ?_
    show withK (oIndex t a i E T s) m k = _
    unfold oIndex
    rw [h1, h3, h4]
    show withK (ret1 (boolC (strK ti.kind) none (bind (nth l n) fun n => some (byteV n))) s) m k = _
    rw [h2, h5]; rfl
  | cut =>
    cases o <;> first | trivial | skip
    rename_i t a lo hi mx
    cases mx <;> first | trivial | skip
    refine optQ fun ti h1 => boolQ fun h2 => optQ fun v h3 => optQ fun lo' h4 => optQ fun hi' h5 => ?_
    cases v <;> first | trivial | skip
    rename_i l
    intro h6
    have h6 : inB (orD lo' 0) (orD hi' (len l)) (len l) (len l) = true := h6
    refine h _ _ fun k => ?_
    show withK (oSlice t a lo hi none E T s) m k = _
    unfold oSlice
    rw [h1, h3, h4, h5]
    show withK (ret1 (sliceK E s ti.kind (.str l) lo' hi' none) s) m k = _
    have h7 : ti.kind = .str := by
      generalize ti.kind = kd at h2
      cases kd <;> first | rfl | (cases h2; done)
    rw [h7]
    show withK (ret1 (boolC (inB (orD lo' 0) (orD hi' (len l)) (len l) (len l)) none _) s) m k = _
    rw [h6]; rfl
  | cat =>
    cases o <;> first | trivial | skip
    rename_i op t x y u
    cases op <;> first | trivial | skip
    refine optQ fun v h1 => optQ fun w h2 => ?_
    cases v <;> first | trivial | skip
    rename_i a
    cases w <;> first | trivial | skip
    rename_i b
    intro h3
    have h3 : Nat.ble (len a + len b) maxInt = true := h3
    refine h _ _ fun k => ?_
    show withK (oBin .add t x y E T s) m k = _
    unfold oBin
    rw [h1, h2]
    show withK (ret1 (orV none (orV (boolC (Nat.ble (len a + len b) maxInt) none (some (.str (app a b)))) _)) s) m k = _
    rw [h3]; rfl
  | ia =>
    cases o <;> first | trivial | skip
    rename_i t x i
    refine optQ fun ti h1 => ?_
    cases h0 : ti.kind <;> first | trivial | skip
    rename_i e
    refine optQ fun te h2 => optQ fun v h3 => optQ fun n h4 => ?_
    cases v <;> first | trivial | skip
    rename_i b off n' z' kk
    intro h5
    have h5 : Nat.blt n n' = true := h5
    refine h _ _ fun k => ?_
    show withK (oIndexAddr t x i E T s) m k = _
    unfold oIndexAddr
    rw [h1, h3, h4]
    show withK (ret1 (idxAddrK E ti.kind _ n) s) m k = _
    rw [h0]
    show withK (ret1 (bind (E.ti e) fun te => idxSl te.size _ n) s) m k = _
    rw [h2]
    show withK (ret1 (boolC (Nat.blt n n') none _) s) m k = _
    rw [h5]; rfl
  | il r =>
    cases o <;> first | trivial | skip
    rename_i t x i
    refine optQ fun ti h1 => ?_
    cases h0 : ti.kind <;> first | trivial | skip
    rename_i e
    refine optQ fun te h2 => optQ fun v h3 => optQ fun n h4 h5 => ?_
    refine h _ _ fun k => ?_
    show withK (oIndexAddr t x i E T s) m k = _
    unfold oIndexAddr
    rw [h1, h3, h4]
    show withK (ret1 (idxAddrK E ti.kind _ n) s) m k = _
    rw [h0]
    show withK (ret1 (bind (E.ti e) fun te => idxSl te.size _ n) s) m k = _
    rw [h2]
    show withK (ret1 (idxSl te.size v n) s) m k = _
    rw [h5]; rfl
  | ld r =>
    cases o <;> first | trivial | skip
    rename_i t a
    refine optQ fun ti h1 => optQ fun v h2 => ?_
    cases v <;> first | trivial | skip
    rename_i b off
    intro h3
    refine h _ _ fun k => ?_
    show withK (oLoad t a E T s) m k = _
    unfold oLoad
    rw [h1, h2]
    show withK (ret1 (ldB (s.heap.get b) off ti.size ti.agg) s) m k = _
    rw [h3]; rfl
  | st s1 =>
    cases o <;> first | trivial | skip
    rename_i t a x
    refine optQ fun ti h1 => optQ fun v h2 => optQ fun w h3 h4 => ?_
    refine h _ _ fun k => ?_
    show withK (oStore t a x E T s) m k = _
    unfold oStore
    rw [h1, h2, h3]
    show withK (storeV s ti.size (cellsOf w) v) m k = _
    rw [h4]; rfl
  | byt =>
    cases o <;> first | trivial | skip
    rename_i a b x
    refine optQ fun ta h1 => boolQ fun h2 => optQ fun tb h3 => boolQ fun h4 => optQ fun v h5 => ?_
    cases v <;> first | trivial | skip
    rename_i l
    intro h6
    have h6 : Nat.ble (len l) room = true := h6
    refine h _ _ fun k => ?_
    show withK (oConvert a b x E T s) m k = _
    unfold oConvert
    rw [h1, h3, h5]
    show withK (convert E s ta.kind tb.kind (.str l)) m k = _
    cases h0 : tb.kind <;> rw [h0] at h4 <;> first | (cases h4; done) | skip
    show withK (boolC (strK ta.kind) none (boolC (isByteSlice E _) none (boolC (Nat.ble (len l) room) none _))) m k = _
    rw [h2, h4, h6]; rfl
  | str l =>
    cases o <;> first | trivial | skip
    rename_i a b x
    refine optQ fun ta h1 => boolQ fun h2 => optQ fun tb h3 => boolQ fun h4 => optQ fun v h5 => boolQ fun h6 h7 => ?_
    refine h _ _ fun k => ?_
    show withK (oConvert a b x E T s) m k = _
    unfold oConvert
    rw [h1, h3, h5]
    show withK (convert E s ta.kind tb.kind v) m k = _
    have h8 : tb.kind = .str := by
      generalize tb.kind = kd at h4
      cases kd <;> first | rfl | (cases h4; done)
    rw [h8]
    cases v <;> first | (cases h6; done) | skip
    show withK (boolC (isByteSlice E ta.kind) none (bind (sliceCells s 1 _) fun c => strO (bytesOf c) s)) m k = _
    rw [h2]
    show withK (bind (sliceCells s 1 _) fun c => strO (bytesOf c) s) m k = _
    obtain ⟨c, h9, h10⟩ := bind_eq_some.1 h7
    rw [h9]
    show withK (strO (bytesOf c) s) m k = _
    rw [h10]; rfl
  | eqs b =>
    cases o <;> first | trivial | skip
    rename_i op t x y u
    refine optQ fun v h1 => optQ fun w h2 => ?_
    show optC _ _ _
    cases h3 : nilEq E.ti op t (isConstO x || isConstO y) v w with
    | some r => trivial
    | none =>
    show optC _ _ _
    cases h4 : binOp E.ti op t v w with
    | some r => trivial
    | none =>
    show optC _ _ _
    cases h5 : arrEq E.ti op t v w with
    | some r => trivial
    | none =>
    refine boolQ fun h6 => optQ fun ti h7 h8 => optQ fun r h9 => ?_
    refine h _ _ fun k => ?_
    show withK (oBin op t x y E T s) m k = _
    unfold oBin
    rw [h1, h2]
    show withK (ret1 (orV (nilEq E.ti op t (isConstO x || isConstO y) v w) (orV (binOp E.ti op t v w) (orV (arrEq E.ti op t v w) (strEq E op t v w)))) s) m k = _
    rw [h3, h4, h5]
    unfold strEq
    rw [h6, h7]
    show withK (ret1 (bind (eqStrK E.ti ti.kind v w) (boolOp op)) s) m k = _
    rw [h8]
    show withK (ret1 (boolOp op b) s) m k = _
    rw [h9]; rfl
  | cl v =>
    show clT rc v s s K (callTo o E T)
    cases hc : callTo o E T <;> first | trivial | skip
    intro h1
    refine h _ _ fun k => ?_
    rw [callTo_ok hc, h1]; rfl
  | cs v s1 =>
    show clT rc v s s1 K (callTo o E T)
    cases hc : callTo o E T <;> first | trivial | skip
    intro h1
    refine h _ _ fun k => ?_
    rw [callTo_ok hc, h1]; rfl
  | lp r => trivial
  | un l => trivial
theorem oneQ_ok {K : V → S → Z → Prop} (h : ∀ v s' z', (∀ k, doOp o E rc T m s k = k v m s') → K v s' z') : oneQ E rc o T s z K := by
  cases z with
  | nil => exact autoQ_ok fun v s' q => h v s' _ q
  | cons i z' =>
    obtain ⟨n, i⟩ := i
    cases n with
    | zero => exact itemQ_ok i fun v s' q => h v s' _ q
    | succ n => exact autoQ_ok fun v s' q => h v s' _ q
theorem opsQ_ok {all : List Oper} : ∀ (os : List Oper) (T : List V) (s : S) (z : Z) (k : KT), (∀ T' s' z', runOps os all E rc T m s = .norm T' m s' → k T' s' z') → opsQ E rc all os T s z k := by
  intro os
  induction os with
  | nil => intro T s z k h; exact h _ _ _ rfl
  | cons o os ih =>
    intro T s z k h
    show boolC (wantedIn all T o.guard) _ _
    cases hw : wantedIn all T o.guard with
    | false =>
      refine ih _ _ _ _ fun T' s' z' q => h _ _ _ ?_
      show boolC (wantedIn all T o.guard) _ _ = _
      rw [hw]; exact q
    | true =>
      show oneQ E rc o.op T s z (fun v s z => opsQ E rc all os (setD T o.dst v) s z k)
      refine oneQ_ok (m := m) fun v s1 z1 q => ih _ _ _ _ fun T' s' z' q' => h _ _ _ ?_
      show boolC (wantedIn all T o.guard) _ (doOp o.op E rc T m s fun v m s => runOps os all E rc (setD T o.dst v) m s) = _
      rw [hw]
      show doOp o.op E rc T m s (fun v m s => runOps os all E rc (setD T o.dst v) m s) = _
      rw [q]; exact q'
/-! drawn regions -/
theorem eqI_refl (n : Int) : eqI n n = true := by cases n <;> exact Nat.beq_refl _
theorem same_refl : ∀ l : List Nat, same l l = true
  | [] => rfl
  | x :: l => by
    show boolC (Nat.beq x x) false (same l l) = true
    rw [show Nat.beq x x = true from Nat.beq_refl x]; exact same_refl l
theorem eqV_plain1 {v : V} (h : plain1 v = true) : eqV v v = true := by
  cases v <;> first | (cases h; done) | rfl | skip
  · rename_i b; cases b <;> rfl
  · rename_i k n
    show boolC (kindEq k k) false (eqI n n) = true
    rw [eqI_refl]; cases k <;> rfl
  · rename_i l; exact same_refl l
  · rename_i b i
    show boolC (Nat.beq b b) false (Nat.beq i i) = true
    rw [show Nat.beq b b = true from Nat.beq_refl b]; exact Nat.beq_refl i
theorem eqVs_plain : ∀ {l : List V}, plainL l = true → eqVs l l = true
  | [], _ => rfl
  | v :: l, h => by
    have h : boolC (plain1 v) false (plainL l) = true := h
    rw [boolC_and, Bool.and_eq_true] at h
    show boolC (eqV v v) false (eqVs l l) = true
    rw [eqV_plain1 h.1]; exact eqVs_plain h.2
theorem eqV_plain {v : V} (h : plainV v = true) : eqV v v = true := by
  cases v <;> first | exact eqV_plain1 h | exact eqVs_plain h
/-- What was read is read again so, as long as its block is as it was. -/
def HOk : List HE → DD → S → Prop
  | [], [], _ => True
  | h :: H, d :: D, s => (plainV h.2.2 = true ∧ (∃ s1, h.2.1 s = some (h.2.2, s1)) ∧ (∀ x, d = some x → ∀ s', (∀ b, x = some b → s'.heap.get b = s.heap.get b) → ∃ s1, h.2.1 s' = some (h.2.2, s1))) ∧ HOk H D s
  | _, _, _ => False
theorem recheck_ok {mask : Nat} : ∀ {H : List HE} {D : DD} {s : S}, HOk H D s → recheck mask s H = true
  | [], [], _, _ => rfl
  | [], _ :: _, _, h => h.elim
  | _ :: _, [], _, h => h.elim
  | x :: H, d :: D, s, h => by
    obtain ⟨⟨h1, ⟨s1, h2⟩, _⟩, h4⟩ := h
    show boolC (bit mask x.1) (boolC (stays x s) false (recheck mask s H)) (recheck mask s H) = true
    have hs : stays x s = true := by unfold stays; rw [h2]; exact eqV_plain h1
    rw [hs, recheck_ok h4]; cases bit mask x.1 <;> rfl
theorem HOk.move {c : Nat} : ∀ {H : List HE} {D : DD} {s s' : S}, HOk H D s → apartD c D = true → (∀ b, b ≠ c → s'.heap.get b = s.heap.get b) → HOk H D s'
  | [], [], _, _, _, _, _ => trivial
  | [], _ :: _, _, _, h, _, _ => h.elim
  | _ :: _, [], _, _, h, _, _ => h.elim
  | x :: H, d :: D, s, s', h, ha, hs => by
    obtain ⟨⟨h1, h2, h3⟩, h4⟩ := h
    have ha : boolC (apart1 c d) false (apartD c D) = true := ha
    rw [boolC_and, Bool.and_eq_true] at ha
    refine ⟨⟨h1, ?_, ?_⟩, h4.move ha.2 hs⟩
    all_goals
      cases d with
      | none => exact absurd ha.1 (by intro h; cases h)
      | some y =>
        have hy : ∀ b, y = some b → b ≠ c := by
          intro b hb hbc
          subst hb; subst hbc
          have h9 : boolC (Nat.beq b b) true false = true := ha.1
          rw [show Nat.beq b b = true from Nat.beq_refl b] at h9; cases h9
        first
        | exact h3 y rfl s' fun b hb => hs b (hy b hb)
        | exact fun x hx s2 h5 => h3 x hx s2 fun b hb => (h5 b hb).trans (hs b (hy b (by injection hx with hx; rw [hx]; exact hb)))
theorem store_get {s s1 : S} {b off : Nat} {vs : List V} (h : s.store b off vs = some s1) : ∀ j, j ≠ b → s1.heap.get j = s.heap.get j := by
  intro j hj
  unfold S.store at h
  cases hb : Nat.blt b s.lo with
  | true => rw [hb] at h; cases h
  | false =>
    rw [hb] at h
    have h : storeBlk s b off vs (s.heap.get b) = some s1 := h
    unfold storeBlk at h
    split at h
    · rename_i t c _
      cases hp : putN c off vs with
      | none => rw [hp] at h; cases h
      | some c' =>
        rw [hp] at h
        injection h with h
        subst h
        show (Tr.put s.heap b _).get j = _
        rw [Tr.get_put, if_neg hj]
    · cases h
theorem oStore_get {t : Nat} {a x : Operand} {c off : Nat} {p : V × S} (ha : opv E T a = some (.ptr c off)) (h : oStore t a x E T s = some p) : ∀ j, j ≠ c → p.2.heap.get j = s.heap.get j := by
  unfold oStore at h
  cases h1 : E.ti t with
  | none => rw [h1] at h; cases h
  | some ti =>
  rw [h1, ha] at h
  cases h2 : opv E T x with
  | none => rw [h2] at h; cases h
  | some v =>
  rw [h2] at h
  have h : boolC (Nat.beq (len (cellsOf v)) ti.size && oneL (cellsOf v)) none (bind (s.store c off (cellsOf v)) fun s => some (undef, s)) = some p := h
  cases h3 : (Nat.beq (len (cellsOf v)) ti.size && oneL (cellsOf v)) with
  | false => rw [h3] at h; cases h
  | true =>
  rw [h3] at h
  have h : bind (s.store c off (cellsOf v)) (fun s => some (undef, s)) = some p := h
  cases h4 : s.store c off (cellsOf v) with
  | none => rw [h4] at h; cases h
  | some s1 =>
  rw [h4] at h
  injection h with h
  subst h
  exact store_get h4
theorem pF_pln {f g : Env → List V → S → VS} (h : pF o = some f) (h' : plnF o = some g) : g = f := by
  cases o <;> first | (cases h; done) | (cases h'; done) | (injection h with h; injection h' with h'; rw [← h, ← h']; done) | skip
  rename_i c
  obtain ⟨ce, as, ts⟩ := c
  cases ce with
  | builtin b => cases b <;> first | (cases h'; done) | (injection h with h; injection h' with h'; rw [← h, ← h'])
  | value f => cases h
  | invoke r n => cases h
theorem dep_ok {f : Env → List V → S → VS} {v : V} {s1 : S} (hf : pF o = some f) (h : f E T s = some (v, s1)) : ∀ x, depOf E o T = some x → ∀ s', (∀ b, x = some b → s'.heap.get b = s.heap.get b) → ∃ s1, f E T s' = some (v, s1) := by
  intro x hx s' hs
  cases o <;> first | (cases hx; done) | skip
  rename_i t a
  injection hf with hf
  subst hf
  have h : bind (E.ti t) (fun ti => bind (opv E T a) fun a => ret1 (load s ti a) s) = some (v, s1) := h
  show ∃ s1, bind (E.ti t) (fun ti => bind (opv E T a) fun a => ret1 (load s' ti a) s') = some (v, s1)
  have hx : bind (opv E T a) depV = some x := hx
  cases h1 : E.ti t with
  | none => rw [h1] at h; cases h
  | some ti =>
  rw [h1] at h
  cases h2 : opv E T a with
  | none => rw [h2] at hx; cases hx
  | some av =>
  rw [h2] at h hx
  have hx : depV av = some x := hx
  have h : bind (load s ti av) (fun v => some (v, s)) = some (v, s1) := h
  show ∃ s1, bind (load s' ti av) (fun v => some (v, s')) = some (v, s1)
  have e : load s' ti av = load s ti av := by
    cases av with
    | ptr b off =>
      injection hx with hx
      have := hs b hx.symm
      show ldB (s'.heap.get b) off ti.size ti.agg = ldB (s.heap.get b) off ti.size ti.agg
      rw [this]
    | lptr c => rfl
    | _ => cases hx
  rw [e]
  cases h3 : load s ti av with
  | none => rw [h3] at h; cases h
  | some w =>
    rw [h3] at h
    injection h with h
    injection h with h _
    exact ⟨s', by rw [← h]; rfl⟩
theorem do_some {f : Env → List V → S → VS} {v : V} {s1 : S} (h : ∀ k, withK (f E T s) m k = k v m s1) : f E T s = some (v, s1) := by
  have h9 := h (fun v m s => .norm [v] m s)
  cases hf : f E T s with
  | none => rw [hf] at h9; cases h9
  | some p =>
    rw [hf] at h9
    obtain ⟨v', s'⟩ := p
    injection h9 with h1 h2 h3
    injection h1 with h1 _
    have h3 : s' = s1 := h3
    have h1 : v' = v := h1
    rw [h1, h3]
theorem dQ_ok {all : List Oper} : ∀ (L : List PE) (H : List HE) (D : DD) (T : List V) (s : S) (z : Z) (k : KT), HOk H D s → (∀ T' s' z', runD E rc all L H T m s = .norm T' m s' → k T' s' z') → dQ E rc all L D T s z k := by
  intro L
  induction L with
  | nil => intro H D T s z k hH h; exact h _ _ _ rfl
  | cons e L ih =>
    intro H D T s z k hH h
    have h : ∀ T' s' z', boolC (wantedIn all T e.o.guard) (runD E rc all L H (setD T e.o.dst undef) m s) (dOne E rc all e L (runD E rc all L) H T m s) = .norm T' m s' → k T' s' z' := h
    show boolC (wantedIn all T e.o.guard) _ _
    cases hw : wantedIn all T e.o.guard with
    | false =>
      rw [hw] at h
      exact ih H D _ _ _ _ hH h
    | true =>
    rw [hw] at h
    have h : ∀ T' s' z', natC e.cls (dFix E rc all e L (runD E rc all L)) (fun c => natC c (dNew E e (runD E rc all L)) fun c => dPure E e (Nat.beq c 1) (runD E rc all L)) H T m s = .norm T' m s' → k T' s' z' := h
    show natC e.cls _ _
    cases hc : e.cls with
    | zero =>
      rw [hc] at h
      have h : ∀ T' s' z', boolC (newsOk E all e.i T L) .fail (doOp e.o.op E rc T m s fun v m s => boolC (recheck e.mask s H) .fail (runD E rc all L H (setD T e.o.dst v) m s)) = .norm T' m s' → k T' s' z' := h
      refine boolQ fun hn => ?_
      rw [hn] at h
      have h : ∀ T' s' z', (doOp e.o.op E rc T m s fun v m s => boolC (recheck e.mask s H) .fail (runD E rc all L H (setD T e.o.dst v) m s)) = .norm T' m s' → k T' s' z' := h
      generalize e.o.op = op at h
      cases op <;> first | trivial | skip
      case store t a x =>
        refine optQ fun av ha => ?_
        cases av <;> first | trivial | skip
        rename_i c off
        refine boolQ fun hD => optQ fun p hp => ?_
        have hH' : HOk H D p.2 := hH.move hD (oStore_get ha hp)
        refine ih H D _ _ _ _ hH' fun T' s' z' q => h T' s' z' ?_
        rw [plnF_ok (f := oStore t a x) rfl, hp]
        show boolC (recheck e.mask p.2 H) .fail (runD E rc all L H (setD T e.o.dst p.1) m p.2) = _
        rw [recheck_ok hH']; exact q
      case call c =>
        cases z with
        | nil => trivial
        | cons i z' =>
          obtain ⟨n, i⟩ := i
          cases n with
          | succ n => trivial
          | zero =>
          cases i <;> first | trivial | skip
          rename_i v
          show clD rc (.cl v) s (callTo (.call c) E T) (fun v => dQ E rc all L D (setD T e.o.dst v) s z' k)
          cases ht : callTo (.call c) E T <;> first | trivial | skip
          intro h1
          refine ih H D _ _ _ _ hH fun T' s' z' q => h T' s' z' ?_
          show doOp (.call c) E rc T m s _ = _
          rw [callTo_ok ht, h1]
          show boolC (recheck e.mask s H) .fail (runD E rc all L H (setD T e.o.dst v) m s) = _
          rw [recheck_ok hH]; exact q
    | succ c =>
      rw [hc] at h
      show natC c _ _
      cases c with
      | zero =>
        have h : ∀ T' s' z', (optC (aShape e.o.op E T) .fail fun p => optC p.1 (runD E rc all L H (setD T e.o.dst (p.2 0)) m s) fun x => runD E rc all L H (setD T e.o.dst (p.2 s.next)) m (s.new x)) = .norm T' m s' → k T' s' z' := h
        refine optQ fun p hp => ?_
        rw [hp] at h
        obtain ⟨b, g⟩ := p
        cases b with
        | none => exact ih H D _ _ _ _ hH h
        | some x =>
          refine boolQ fun hD => ih H D _ _ _ _ (hH.move hD fun j hj => ?_) h
          show (Tr.put s.heap s.next (some x)).get j = _
          rw [Tr.get_put, if_neg hj]
      | succ c =>
        have h : ∀ T' s' z', (optC (pF e.o.op) .fail fun f => optC (f E T s) .fail fun p => runD E rc all L (boolC (Nat.beq c 1) H ((e.i, f E T, p.1) :: H)) (setD T e.o.dst p.1) m s) = .norm T' m s' → k T' s' z' := h
        refine optQ fun f hf => optQ fun g hg => ?_
        have hgf := pF_pln hf hg
        subst hgf
        rw [hf] at h
        refine oneQ_ok (m := m) fun v s1 z1 q => ?_
        have hv : g E T s = some (v, s1) := do_some fun k => by rw [← plnF_ok hg]; exact q k
        have h : ∀ T' s' z', (optC (g E T s) .fail fun p => runD E rc all L (boolC (Nat.beq c 1) H ((e.i, g E T, p.1) :: H)) (setD T e.o.dst p.1) m s) = .norm T' m s' → k T' s' z' := h
        rw [hv] at h
        have h : ∀ T' s' z', runD E rc all L (boolC (Nat.beq c 1) H ((e.i, g E T, v) :: H)) (setD T e.o.dst v) m s = .norm T' m s' → k T' s' z' := h
        cases hr : Nat.beq c 1 with
        | false => rw [hr] at h; exact ih H D _ _ _ _ hH h
        | true =>
          rw [hr] at h
          refine boolQ fun hp => ih _ _ _ _ _ _ ?_ h
          exact ⟨⟨hp, ⟨s1, hv⟩, dep_ok hf hv⟩, hH⟩
/-! code -/
theorem regQ_ok {ops : Array Oper} {d : Bool} {k : KR} (h : ∀ r z', xRegion ops d E rc T m s = r → k r z') : regQ E rc ops d T m s z k := by
  unfold regQ
  cases d with
  | false => exact opsQ_ok (m := m) _ _ _ _ _ fun T' s' z' q => h _ _ q
  | true =>
    show boolC (swpTest ops.toList) _ True
    cases hs : swpTest ops.toList with
    | true => trivial
    | false =>
      refine dQ_ok (m := m) _ [] [] _ _ _ _ trivial fun T' s' z' q => h _ _ ?_
      show boolC (swpTest ops.toList) _ _ = _
      rw [hs]; exact q
def Sound (E : Env) (c : Code) (b : CQ) : Prop := ∀ (rc : Rec) (T : List V) (m : M) (s : S) (z : Z) (k : KR), (∀ r z', exec c E rc T m s = r → k r z') → b rc T m s z k
theorem unQ_ok {c : Code} {b : CQ} (hb : Sound E c b) : ∀ l : List Rec, Sound E (.loop c) (unQ E b l) := by
  intro l
  induction l with
  | nil =>
    intro rc T m s z k h
    refine hb _ _ _ _ _ _ fun r z1 q => ?_
    have h : ∀ r z', thenK (exec c E rc T m s) (rc.lp c) = r → k r z' := h
    rw [q] at h
    cases r with
    | norm T1 m1 s1 => trivial
    | _ => exact h _ _ rfl
  | cons rc' l ih =>
    intro rc T m s z k h hrc
    refine hb _ _ _ _ _ _ fun r z1 q => ?_
    have h : ∀ r z', thenK (exec c E rc T m s) (rc.lp c) = r → k r z' := h
    rw [q] at h
    cases r with
    | norm T1 m1 s1 =>
      have h : ∀ r z', rc.lp c T1 m1 s1 = r → k r z' := h
      rw [show rc.lp c T1 m1 s1 = exec (.loop c) E rc' T1 m1 s1 from by rw [hrc]; rfl] at h
      exact ih _ _ _ _ _ _ h
    | _ => exact h _ _ rfl
theorem xQ_ok : ∀ c : Code, Sound E c (xQ E c) := by
  intro c
  induction c with
  | skip => intro rc T m s z k h; exact h _ _ rfl
  | region i ops d => intro rc T m s z k h; exact regQ_ok h
  | seq a b iha ihb =>
    intro rc T m s z k h
    refine iha _ _ _ _ _ _ fun r z1 q => ?_
    have h : ∀ r z', thenK (exec a E rc T m s) (exec b E rc) = r → k r z' := h
    rw [q] at h
    cases r with
    | norm T1 m1 s1 => exact ihb _ _ _ _ _ _ h
    | _ => exact h _ _ rfl
  | cond c a b iha ihb =>
    intro rc T m s z k h
    have h : ∀ r z', (optC (bind (opv E T c) boolOf) .fail fun t => boolC t (exec b E rc T m s) (exec a E rc T m s)) = r → k r z' := h
    refine optQ fun t ht => ?_
    rw [ht] at h
    cases t with
    | false => exact ihb _ _ _ _ _ _ h
    | true => exact iha _ _ _ _ _ _ h
  | block id b ih =>
    intro rc T m s z k h
    refine ih _ _ _ _ _ _ fun r z1 q => ?_
    have h : ∀ r z', blockK id (exec b E rc T m s) = r → k r z' := h
    rw [q] at h
    exact h _ _ rfl
  | loop c ih =>
    intro rc T m s z k h
    cases z with
    | nil => trivial
    | cons i z' =>
      obtain ⟨n, i⟩ := i
      cases n with
      | succ n => trivial
      | zero =>
      cases i <;> first | trivial | skip
      · intro hl
        exact h _ _ hl
      · exact unQ_ok ih _ _ _ _ _ _ _ h
  | rangeFunc g ps a b iha ihb => intro rc T m s z k h; trivial
  | exit id => intro rc T m s z k h; exact h _ _ rfl
  | scope b ih => intro rc T m s z k h; exact ih _ _ _ _ _ _ h
  | label l => intro rc T m s z k h; exact h _ _ rfl
  | goto l => intro rc T m s z k h; trivial
  | ret => intro rc T m s z k h; exact h _ _ rfl
  | refuse w => intro rc T m s z k h; trivial
theorem doQ_ok (E : Env) (rc : Rec) (f : Nat) (args : List V) (s : S) (z : Z) : doQ E rc f args s z := by
  refine optQ fun fn hf => optQ fun c hc => xQ_ok c _ _ _ _ _ _ fun r z' q => ?_
  unfold doBody
  rw [hf]
  show (optC fn.body .fail fun c => bodyEnd E rc fn (exec c E rc (frame0 fn args) (bodyM false none) s)) = _
  rw [hc]
  show bodyEnd E rc fn (exec c E rc (frame0 fn args) (bodyM false none) s) = _
  rw [q]
theorem codeQ_ok (E : Env) (rc : Rec) (c : Code) (T : List V) (s : S) (z : Z) : codeQ E rc c T s z := xQ_ok c _ _ _ _ _ _ fun r z' q => q
end
end
end Go.AM
end
section
/- From an input as it reads to the machine's values; from a body's run to the call. -/
namespace Go.AM
open Go

/-- Types whose values are plain data. -/
def tyGood (P : Program) (ts : List Nat) (t : Nat) : Bool := match P.underlying t with
  | some .bool => true
  | some (.int _) => true
  | some .string => true
  | some (.slice e) => ts.contains e && decide (0 < P.cellsOf e)
  | some (.struct fs) => fs.toList.all (fun f => ts.contains f.type) && (List.range (P.cellsOf t)).all fun i => fs.toList.any fun f => decide (f.offset ≤ i) && decide (i < f.offset + P.cellsOf f.type)
  | _ => false
section
variable {H : Type} {enc : TypeId × Value → H} {P : Program} {W : World} {spare : Nat → Bool} {held : Bool} {μ : Mu} {Sx : Nat → Prop}
theorem add_add (a : Addr) (m n : Nat) : (a.add m).add n = a.add (m + n) := by
  unfold Addr.add
  by_cases h1 : m = 0
  · subst h1; simp
  · rw [if_neg h1]
    by_cases h2 : n = 0
    · subst h2; simp [h1]
    · rw [if_neg h2, if_neg (by omega)]; simp [Nat.add_assoc]
theorem add_plain' (b o j : Nat) : (⟨b, o, none⟩ : Addr).add j = ⟨b, o + j, none⟩ := by
  unfold Addr.add
  split
  · rename_i h; subst h; rfl
  · rfl
/-- One by one. -/
theorem vrs_of : ∀ {xs : List Value}, (∀ y ∈ xs, ∃ v, VR μ Sx W v y ∧ dataV v = true ∧ oneV v = true) → ∃ c, VRs μ Sx W c xs ∧ dataL c = true ∧ oneL c = true
  | [], _ => ⟨[], .nil, rfl, rfl⟩
  | x :: xs, h => by
    obtain ⟨v, h1, h2, h3⟩ := h x (List.mem_cons_self ..)
    obtain ⟨c, k1, k2, k3⟩ := vrs_of fun y hy => h y (List.mem_cons_of_mem _ hy)
    refine ⟨v :: c, .cons _ _ _ _ h1 k1, by show (dataV v && dataL c) = true; rw [h2, k2]; rfl, ?_⟩
    show boolC (oneV v) false (oneL c) = true
    rw [h3]; exact k3
/-- The cells of a row of n elements of z cells. -/
noncomputable def rowC (W : World) (a : Addr) (n : Nat) : List Value := (List.range n).map fun j => (W.cell? (a.add j)).getD .nilIface
theorem rowC_at {a : Addr} {n : Nat} (h : ∀ j, j < n → ∃ y, W.cell? (a.add j) = some y) {j : Nat} {y : Value} (hy : (rowC W a n)[j]? = some y) : W.cell? (a.add j) = some y := by
  unfold rowC at hy
  rw [List.getElem?_map] at hy
  cases hr : (List.range n)[j]? with
  | none => rw [hr] at hy; cases hy
  | some i =>
    have hi : j < n ∧ i = j := by
      have := List.getElem?_eq_some_iff.1 hr
      obtain ⟨h1, h2⟩ := this
      simp at h1 h2
      exact ⟨h1, h2.symm⟩
    obtain ⟨hj, rfl⟩ := hi
    rw [hr] at hy
    obtain ⟨z, hz⟩ := h i hj
    have hy : (W.cell? (a.add i)).getD .nilIface = y := by simpa using hy
    rw [hz] at hy
    rw [hz, ← hy]; rfl
theorem vr_slice {a : Addr} {len cap z : Nat} (hS : ∀ a v, W.cell? a = some v → Sx a.block) (hz : 0 < z) (hcap : len ≤ cap) (h : ∀ j, j < len * z → ∃ y, W.cell? (a.add j) = some y ∧ ∃ v, VR μ Sx W v y ∧ dataV v = true ∧ oneV v = true) :
    ∃ v, VR μ Sx W v (.slice (some a) len cap) ∧ dataV v = true ∧ oneV v = true := by
  cases len with
  | zero => exact ⟨.lsl [] 0 false, .lsl0 a cap false (fun h => by cases h), rfl, rfl⟩
  | succ n =>
    have hpos : 0 < (n + 1) * z := Nat.mul_pos (Nat.succ_pos _) hz
    obtain ⟨y0, hy0, _⟩ := h 0 hpos
    have hsp := World.cell?_spot hy0
    have ha0 : a.add 0 = a := rfl
    rw [ha0] at hsp hy0
    obtain ⟨b, o, sp⟩ := a
    simp only at hsp
    subst hsp
    have hcell : ∀ j, j < (n + 1) * z → ∃ y, W.cell? ((⟨b, o, none⟩ : Addr).add j) = some y := fun j hj => let ⟨y, hy, _⟩ := h j hj; ⟨y, hy⟩
    obtain ⟨c, k1, k2, k3⟩ := vrs_of (μ := μ) (Sx := Sx) (W := W) (xs := rowC W ⟨b, o, none⟩ ((n + 1) * z)) fun y hy => by
      obtain ⟨j, hj⟩ := List.getElem?_of_mem hy
      have hlt : j < (n + 1) * z := by
        have := (List.getElem?_eq_some_iff.1 hj).1
        simpa [rowC] using this
      have hc := rowC_at hcell hj
      obtain ⟨y', hy', v, hv⟩ := h j hlt
      rw [hc] at hy'
      cases hy'
      exact ⟨v, hv⟩
    refine ⟨.lsl c (n + 1) false, .lsl c (n + 1) cap b o false _ (Nat.succ_pos _) hcap (fun h => by cases h) k1 ?_ (hS _ _ hy0) k2, k2, rfl⟩
    intro j x hx
    have := rowC_at hcell hx
    rw [add_plain'] at this
    exact this
theorem trod_vals {ts : List Nat} (hts : ∀ t ∈ ts, tyGood P ts t = true) (hS : ∀ a v, W.cell? a = some v → Sx a.block) : ∀ (fuel t : Nat) (cs : List Value) (x : DataW H × List MemPlace), t ∈ ts → DataW.trod enc P W 0 spare held fuel t cs = some x →
    ∀ y ∈ cs, ∃ v, VR μ Sx W v y ∧ dataV v = true ∧ oneV v = true := by
  intro fuel
  induction fuel with
  | zero => intro t cs x _ h; simp [DataW.trod] at h
  | succ fuel ih =>
    intro t cs x ht h y hy
    have hg := hts t ht
    unfold tyGood at hg
    split at hg
    · rename_i hu
      obtain ⟨b, rfl, _⟩ := DataW.trod_bool hu h
      rw [List.mem_singleton] at hy; subst hy
      exact ⟨.bool b, .bool b, rfl, rfl⟩
    · rename_i k hu
      obtain ⟨n, rfl, _⟩ := DataW.trod_int hu h
      rw [List.mem_singleton] at hy; subst hy
      exact ⟨.int k n, .int k n, rfl, rfl⟩
    · rename_i hu
      obtain ⟨s, rfl, _⟩ := DataW.trod_string hu h
      rw [List.mem_singleton] at hy; subst hy
      exact ⟨.str (nats s), .str s, rfl, rfl⟩
    · rename_i e hu
      rw [Bool.and_eq_true] at hg
      have he : e ∈ ts := by simpa using hg.1
      have hz : 0 < P.cellsOf e := by simpa using hg.2
      rcases DataW.trod_slice hu h with ⟨rfl, _⟩ | ⟨a, len, cap, elems, rest, n, hn, rfl, _, _, hcap, _, hel, hget, _⟩
      · rw [List.mem_singleton] at hy; subst hy
        exact ⟨.nils, .nils, rfl, rfl⟩
      · rw [List.mem_singleton] at hy; subst hy
        have hn : fuel = n := by omega
        subst hn
        refine vr_slice hS hz hcap fun j hj => ?_
        have hi : j / P.cellsOf e < len := Nat.div_lt_of_lt_mul (by rw [Nat.mul_comm]; exact hj)
        have hr : j % P.cellsOf e < P.cellsOf e := Nat.mod_lt _ hz
        have hji : j / P.cellsOf e * P.cellsOf e + j % P.cellsOf e = j := Nat.div_add_mod' j _
        have hgi := hget _ hi
        rw [List.getElem?_eq_getElem (by rw [hel]; exact hi)] at hgi
        obtain ⟨cs', hc1, hc2⟩ := Option.bind_eq_some_iff.1 hgi
        obtain ⟨_, hlen, hcell⟩ := World.cells?_some hc1
        have h1 := hcell _ hr
        rw [add_add, hji] at h1
        rw [List.getElem?_eq_getElem (by rw [hlen]; exact hr)] at h1
        exact ⟨_, h1, ih e cs' _ he hc2 _ (List.getElem_mem _)⟩
    · rename_i fs hu
      rw [Bool.and_eq_true] at hg
      obtain ⟨xs, n, hn, _, hlen, _, hget⟩ := DataW.trod_struct hu h
      have hn : fuel = n := by omega
      subst hn
      obtain ⟨i, hi⟩ := List.getElem?_of_mem hy
      have hil : i < cs.length := (List.getElem?_eq_some_iff.1 hi).1
      have hc := List.all_eq_true.1 hg.2 i (by simp; rw [← hlen]; exact hil)
      obtain ⟨f, hf, hb⟩ := List.any_eq_true.1 hc
      rw [Bool.and_eq_true] at hb
      have hb1 : f.offset ≤ i := by simpa using hb.1
      have hb2 : i < f.offset + P.cellsOf f.type := by simpa using hb.2
      have hft : f.type ∈ ts := by
        have := List.all_eq_true.1 hg.1 f hf
        simpa using this
      obtain ⟨j, hj⟩ := List.getElem?_of_mem hf
      rw [Array.getElem?_toList] at hj
      have hgj := hget j f hj
      cases hx : xs[j]? with
      | none =>
        rw [List.getElem?_eq_none_iff] at hx
        have := (Array.getElem?_eq_some_iff.1 hj).1
        omega
      | some x' =>
        rw [hx] at hgj
        refine ih f.type _ _ hft hgj y ?_
        have : ((cs.drop f.offset).take (P.cellsOf f.type))[i - f.offset]? = some y := by
          rw [List.getElem?_take, if_pos (by omega), List.getElem?_drop, show f.offset + (i - f.offset) = i by omega]
          exact hi
        exact List.mem_of_getElem? this
    · cases hg
end
/-! ### laid variables -/
theorem laid_mem {P : Program} {W : World} : ∀ {laid : List (String × DataW Unit)} {ps : List MemPlace}, DataW.LaidVars P W laid ps → ∀ {n : String} {d : DataW Unit}, (n, d) ∈ laid →
    ∃ g t cs fuel p, P.globalNamed n = some g ∧ (P.globals[g]?).map (·.type) = some t ∧ W.var? P n = some cs ∧ DataW.trod (fun _ => ()) P W 0 (fun _ => true) false fuel t cs.toList = some (d, p)
  | [], _, _, _, _, h => by cases h
  | (n', d') :: r, ps, h, n, d, hm => by
    obtain ⟨g, t, cs, fuel, p, q, h1, h2, h3, h4, h5, _⟩ := h
    rcases List.mem_cons.1 hm with e | hm
    · injection e with e1 e2
      subst e1; subst e2
      exact ⟨g, t, cs, fuel, p, h1, h2, h3, h4⟩
    · exact laid_mem h5 hm
noncomputable def intsV (k : IntKind) (zs : List Int) : List V := zs.map fun z => .int k z
theorem ints_vrs {μ : Mu} {Sx : Nat → Prop} {W : World} (k : IntKind) : ∀ zs : List Int, VRs μ Sx W (intsV k zs) (zs.map fun z => Value.int k z)
  | [] => .nil
  | z :: zs => .cons _ _ _ _ (.int k z) (ints_vrs k zs)
theorem ints_data (k : IntKind) : ∀ zs : List Int, dataL (intsV k zs) = true
  | [] => rfl
  | z :: zs => ints_data k zs
/-- A table of integers, laid: what the machine wants of a variable. -/
theorem glob_tab {E : Env} {A : Al} {s : S} {μ : Mu} {P : Program} {W : World} {laid : List (String × DataW Unit)} (hL : laidMet P laid W) {n : String} {k : IntKind} {zs : List Int} (hm : (n, Lib.tabData k zs) ∈ laid) {g t e m : Nat} (hg : P.globalNamed n = some g) (hty : (P.globals[g]?).map (·.type) = some t)
    (ht : P.underlying t = some (.array m e)) (he : P.underlying e = some (.int k)) (hce : P.cellsOf e = 1) (hct : P.cellsOf t = m) {c : List V} (hc : c = intsV k zs) (hpos : 0 < zs.length) (hA : A g) (hO : ¬ Owned s μ 0 g) :
    ∃ xs, VRs μ (St A s μ W) W c xs ∧ CellsAt W g 0 xs ∧ St A s μ W g ∧ dataL c = true := by
  obtain ⟨ps, hps, _⟩ := hL
  obtain ⟨g', t', cs, fuel, p, h1, h2, h3, h4⟩ := laid_mem hps hm
  obtain rfl := Option.some.inj (hg.symm.trans h1)
  obtain rfl := Option.some.inj (hty.symm.trans h2)
  have hcs := Lib.cells_of_tab ht he hce hct h4
  have hvar := h3
  unfold World.var? at hvar
  rw [hg] at hvar
  have hcell : ∀ i, W.cell? ⟨g, i, none⟩ = cs[i]? := by
    intro i
    cases hh : W.heap[g]? with
    | none => simp [hh] at hvar
    | some o =>
      cases o <;> simp [hh] at hvar
      subst hvar
      unfold World.cell?
      simp [hh]
  subst hc
  refine ⟨cs.toList, by rw [hcs]; exact ints_vrs k zs, ?_, ⟨hA, ?_, hO⟩, ints_data k zs⟩
  · intro i x hx
    rw [Nat.zero_add, hcell i, ← Array.getElem?_toList]; exact hx
  · have h0 : W.cell? ⟨g, 0, none⟩ = some (.int k (zs[0]'hpos)) := by
      rw [hcell 0, ← Array.getElem?_toList, hcs]; simp [hpos]
    unfold World.cell? at h0
    cases hh : W.heap[g]? with
    | none => simp [hh] at h0
    | some o => exact (Array.getElem?_eq_some_iff.1 hh).1
/-! ### the call -/
theorem calls_of {E : Env} {P : Program} {W : World} {f n : Nat} {xs : Array Value} {args : List V} {v : V} {s1 : S} (ok : EnvOk E P) (hov : OvOk E P) (R : Rel E (fun _ => True) s0 (fun _ => none) W) (ha : VRs (fun _ => none) (St (fun _ => True) s0 (fun _ => none) W) W args xs.toList)
    (hd : doBody E (recN E n) f args false none s0 = .ret v s1 false) : Calls P f xs W fun e W' => ∃ μ1 x, e = .returned x ∧ VR μ1 (St (fun _ => True) s1 μ1 W') W' v x ∧ RowKit.Below W.heap.size W W' := by
  have hb := body_ok (f := f) (args := args) (xs := xs) ok (rec_ok ok hov n) R ha (show DkOk (fun _ => none) (St (fun _ => True) s0 (fun _ => none) W) W false none .any from rfl)
  rw [hd] at hb
  obtain ⟨hen, hrd, μ1, W1, x, X, R1, hv, hsteps⟩ := hb
  intro cs
  obtain ⟨fr, q0, q1, q2, q3, q4, q5⟩ := hsteps cs trivial
  refine ⟨.returned x, W1, fr, ⟨μ1, x, rfl, hv, ?_⟩, ?_, q1, ?_⟩
  · exact ⟨X.os, X.tape, X.output, X.size, fun k hk => X.keep k hk (by rintro ⟨b, x, σ, _, _, _, h⟩; cases h)⟩
  · exact q0
  · exact ⟨q3, q4, q2, by rw [q1]; exact q5⟩
end Go.AM
end
section
/- What a function leads to: the walk with a mask for what was seen. -/
namespace Go.AM
open Go
noncomputable def fastC (T : Nat → List Nat) (n : Nat) : List Nat → List Nat → Nat → Option (List Nat) := Nat.rec (motive := fun _ => List Nat → List Nat → Nat → Option (List Nat)) (fun _ _ _ => none)
  (fun _ ih todo seen mask => listC todo (some seen.reverse) fun f todo => boolC (Nat.testBit mask f) (ih (app (T f) todo) (f :: seen) (Nat.lor mask (2 ^ f))) (ih todo seen mask)) n
theorem fastC_ok {P : Program} {T : Nat → List Nat} (hT : ∀ f, (P.funcs[f]?).elim [] P.leadsTo = T f) : ∀ (n m : Nat) (todo seen : List Nat) (mask : Nat) (L : List Nat), (∀ f, Nat.testBit mask f = seen.contains f) → n ≤ m + 1 → fastC T n todo seen mask = some L → P.closureVia m todo seen = L := by
  intro n
  induction n with
  | zero => intro m todo seen mask L _ _ h; cases h
  | succ n ih =>
    intro m todo seen mask L hm hle h
    cases todo with
    | nil =>
      have h : some seen.reverse = some L := h
      injection h with h
      subst h
      cases m <;> rfl
    | cons f todo =>
      have h : boolC (Nat.testBit mask f) (fastC T n (app (T f) todo) (f :: seen) (Nat.lor mask (2 ^ f))) (fastC T n todo seen mask) = some L := h
      cases m with
      | zero =>
        have : n = 0 := by omega
        subst this
        rw [boolC_eq] at h
        split at h <;> cases h
      | succ m =>
        show (if seen.contains f then P.closureVia m todo seen else P.closureVia m ((P.funcs[f]?).elim [] P.leadsTo ++ todo) (f :: seen)) = L
        rw [boolC_eq, hm f] at h
        by_cases hc : seen.contains f = true
        · rw [if_pos hc] at h ⊢
          exact ih m todo seen mask L hm (by omega) h
        · rw [if_neg hc] at h ⊢
          rw [hT, ← app_eq]
          refine ih m _ _ _ L (fun g => ?_) (by omega) h
          show Nat.testBit (mask ||| 2 ^ f) g = (f :: seen).contains g
          rw [Nat.testBit_or, hm g, Nat.testBit_two_pow, List.contains_cons]
          by_cases e : g = f
          · subst e; simp
          · have e' : ¬ f = g := fun h => e h.symm
            simp [e, e']
end Go.AM
end
section
/- Closed facts of a program, by looks that go through its lists once: what the row, its tie and its card ask. -/
namespace Go.AM
open Go
noncomputable def allN (f : Nat → Bool) (n : Nat) : Nat → Bool := Nat.rec (motive := fun _ => Nat → Bool) (fun _ => true) (fun _ ih i => boolC (f i) false (ih (i + 1))) n
theorem allN_at {f : Nat → Bool} {n : Nat} : ∀ {i : Nat}, allN f n i = true → ∀ t, i ≤ t → t < i + n → f t = true := by
  induction n with
  | zero => intro i _ t h1 h2; omega
  | succ n ih =>
    intro i h t h1 h2
    have h : boolC (f i) false (allN f n (i + 1)) = true := h
    rw [boolC_eq] at h
    split at h
    · rename_i h0
      by_cases he : t = i
      · subst he; exact h0
      · exact ih h t (by omega) (by omega)
    · cases h
noncomputable def eqNL (a : List Nat) : List Nat → Bool := List.rec (motive := fun _ => List Nat → Bool) (fun b => listC b true fun _ _ => false) (fun x _ ih b => listC b false fun y b => boolC (Nat.beq x y) false (ih b)) a
theorem eqNL_ok : ∀ {a b : List Nat}, eqNL a b = true → a = b := by
  intro a
  induction a with
  | nil => intro b h; cases b with
    | nil => rfl
    | cons => cases h
  | cons x a ih => intro b h; cases b with
    | nil => cases h
    | cons y b =>
      have h : boolC (Nat.beq x y) false (eqNL a b) = true := h
      rw [boolC_eq] at h
      split at h
      · rename_i e
        rw [Nat.eq_of_beq_eq_true e, ih h]
      · cases h
noncomputable def sumN (T : Nat → List Nat) (n : Nat) : Nat → Nat := Nat.rec (motive := fun _ => Nat → Nat) (fun _ => 0) (fun _ ih i => Nat.add (Nat.succ (List.length (T i))) (ih (Nat.succ i))) n
theorem sum_is {h : Func → List Nat} {T : Nat → List Nat} : ∀ (l : List Func) (i : Nat), (∀ k, (l[k]?).elim [] h = T (i + k)) → (l.map fun g => (h g).length + 1).sum = sumN T l.length i := by
  intro l
  induction l with
  | nil => intro i _; rfl
  | cons g l ih =>
    intro i hk
    have h0 : h g = T i := hk 0
    have h1 := ih (i + 1) fun k => by
      have := hk (k + 1)
      rw [show i + (k + 1) = i + 1 + k by omega] at this
      exact this
    show (((h g).length + 1) :: l.map fun g => (h g).length + 1).sum = Nat.add (Nat.succ (List.length (T i))) (sumN T l.length (i + 1))
    rw [List.sum_cons, h1, h0]; rfl
theorem closure_gen {P : Program} {T : Nat → List Nat} {size n : Nat} {f : Nat} {L : List Nat} (hT : ∀ f, (P.funcs[f]?).elim [] P.leadsTo = T f) (hs : P.funcs.size = size) (hn : Nat.ble n (sumN T size 0) = true) (hL : fastC T n [f] [] 0 = some L) : P.closure f = L := by
  unfold Program.closure
  have e := sum_is (h := P.leadsTo) (T := T) P.funcs.toList 0 (fun k => by rw [Array.getElem?_toList, hT, Nat.zero_add])
  have hlen : P.funcs.toList.length = size := by rw [Array.length_toList, hs]
  rw [hlen] at e
  rw [e]
  have hn := Nat.le_of_ble_eq_true hn
  exact fastC_ok hT n _ [f] [] 0 L (fun g => by simp) (by omega) hL
theorem un_gen {P : Program} {f : Nat} {L : List Nat} (h : P.closure f = L) {g : Nat} (hm : L.contains g = true) (hg : ((P.funcs[g]?).any fun fn => match fn.body with | some c => c.unfollowed | none => entryCalls fn) = true) : P.unfollowed f = true := by
  unfold Program.unfollowed
  rw [h]
  exact List.any_eq_true.2 ⟨g, List.contains_iff_mem.1 hm, hg⟩
theorem place_gen {P : Program} {f : Nat} {L : List Nat} (h : P.closure f = L) {R : List String} (hR : L.filterMap (fun g => (P.funcs[g]?).bind fun fn => if fn.ours || fn.body.isNone || fn.name == "runtime.NumGoroutine" then some fn.name else none) = R) : P.inPlace f = R := by
  unfold Program.inPlace
  rw [h, hR]
theorem vars_gen {P : Program} {f : Nat} {L G : List Nat} {R : List String} (h : P.closure f = L) (hG : L.flatMap (fun g => ((P.funcs[g]?).bind (·.body)).elim [] Code.globalsNamed) = G) (hR : L.filterMap (fun g => (P.funcs[g]?).bind fun fn => if fn.body.isNone then entryReads.lookup fn.name else none) = R) : P.varsNamed f = (G.eraseDups.filterMap (fun g => (P.globals[g]?).map (·.name)) ++ R).eraseDups := by
  unfold Program.varsNamed
  rw [h, hG, hR]
theorem rec_gen {P : Program} {f : Nat} (h : P.unfollowed f = true) : P.recurses f = true := by
  unfold Program.recurses
  rw [h]; rfl
noncomputable def gDoor (fn : Func) : Bool := fn.body.isNone && opensWith (nameBytes "var's door: ") (nameBytes fn.name) && ["(look 8)", "(look 8, test files too)", "(list 7)", "(look 7)"].any (endsIn · (nameBytes fn.name).reverse)
noncomputable def gLay (fn : Func) : Bool := fn.body.isNone && (fn.name == "runtime.SetFinalizer" || fn.name == "runtime.AddCleanup" || fn.origin == "runtime.AddCleanup")
noncomputable def gRef (fn : Func) : Bool := fn.body.isNone && (opensWith (nameBytes "reflect.") (nameBytes fn.name) || opensWith (nameBytes "(reflect.") (nameBytes fn.name) || opensWith (nameBytes "(*reflect.") (nameBytes fn.name))
noncomputable def gNone (fn : Func) : Bool := boolC fn.goes (boolC (gLay fn) (boolC (gRef fn) (boolC (gDoor fn) true false) false) false) false
theorem gNone_at {fn : Func} (h : gNone fn = true) : fn.goes = false ∧ gLay fn = false ∧ gRef fn = false ∧ gDoor fn = false := by
  unfold gNone at h
  simp only [boolC_eq] at h
  split at h
  · cases h
  rename_i h1
  split at h
  · cases h
  rename_i h2
  split at h
  · cases h
  rename_i h3
  split at h
  · cases h
  rename_i h4
  exact ⟨Bool.eq_false_iff.2 h1, Bool.eq_false_iff.2 h2, Bool.eq_false_iff.2 h3, Bool.eq_false_iff.2 h4⟩
theorem mem_no {P : Program} (h : P.funcs.all gNone = true) {fn : Func} (hm : fn ∈ P.funcs.toList) : fn.goes = false ∧ gLay fn = false ∧ gRef fn = false ∧ gDoor fn = false :=
  gNone_at (Array.all_eq_true_iff_forall_mem.1 h fn (Array.mem_toList_iff.1 hm))
theorem any_no {P : Program} (h : P.funcs.all gNone = true) {q : Func → Bool} (hq : ∀ fn, (fn.goes = false ∧ gLay fn = false ∧ gRef fn = false ∧ gDoor fn = false) → q fn = false) : P.funcs.toList.any q = false := by
  cases e : P.funcs.toList.any q with
  | false => rfl
  | true =>
    obtain ⟨fn, hm, hf⟩ := List.any_eq_true.1 e
    rw [hq fn (mem_no h hm)] at hf
    cases hf
theorem lays_gen {P : Program} (h : P.funcs.all gNone = true) : P.laysLater = false := by
  unfold Program.laysLater
  rw [← Array.any_toList]
  exact any_no h fun fn k => k.2.1
theorem refl_gen {P : Program} (h : P.funcs.all gNone = true) : P.bearsReflect = false := by
  unfold Program.bearsReflect
  exact any_no h fun fn k => k.2.2.1
theorem door_gen {P : Program} (h : P.funcs.all gNone = true) : P.doorFits [] = true := by
  have e : (P.doorRows.any fun n => ["(look 8)", "(look 8, test files too)", "(list 7)", "(look 7)"].any (endsIn · n)) = false := by
    unfold Program.doorRows
    rw [List.any_map, List.any_filter]
    exact any_no h fun fn k => k.2.2.2
  unfold Program.doorFits
  simp only [e]
  simp
theorem may_gen {P : Program} {c : List Char} {rest : List (List Char)} (h : behindMainWord (wordsSigns P.initOrder.toList) = c :: rest) (hs : stripLifts liftWords (c :: rest) = ([], c :: rest)) (hc : (c == "cut".toList) = true) (ha : P.funcs.all gNone = true) : P.mayEnter = true := by
  unfold Program.mayEnter
  rw [h]
  simp only [hs, lays_gen ha, refl_gen ha, door_gen ha]
  simp at hc
  simp [hc]
theorem goes_gen {P : Program} (h : P.funcs.all gNone = true) (f : Nat) : P.goes f = false := by
  unfold Program.goes
  rw [show P.funcs.any Func.goes = false by rw [← Array.any_toList]; exact any_no h fun fn k => k.1, Bool.and_false, Bool.or_false]
  cases e : (P.closure f).any fun g => (P.funcs[g]?).any Func.goes with
  | false => rfl
  | true =>
    obtain ⟨g, _, hg⟩ := List.any_eq_true.1 e
    cases hf : P.funcs[g]? with
    | none => rw [hf] at hg; cases hg
    | some fn =>
      rw [hf] at hg
      have hm : fn ∈ P.funcs.toList := Array.mem_toList_iff.2 (Array.mem_of_getElem? hf)
      have hg : fn.goes = true := hg
      rw [(mem_no h hm).1] at hg
      cases hg
theorem looks_gen {P : Program} {g : Nat} (hg : g < P.funcs.size) (h : ((P.funcs[g]?).any fun fn => match fn.body with | some c => c.looks P | none => false) = true) : P.looks [] = true := by
  unfold Program.looks
  exact List.any_eq_true.2 ⟨g, List.mem_range.2 hg, h⟩
theorem goes_by_gen {P : Program} {func : String} (h : P.funcs.all gNone = true) : P.goesAt .entering func = false := by
  unfold Program.goesAt Program.goesFrom
  rw [Bool.or_false]
  cases P.funcNamed func with
  | none => rfl
  | some f => exact goes_gen h f
theorem filter_one {p : Nat → Bool} {k : Nat} : ∀ (n : Nat), (∀ i, i < n → p i = decide (i = k)) → (List.range n).filter p = if k < n then [k] else [] := by
  intro n
  induction n with
  | zero => intro _; rfl
  | succ n ih =>
    intro h
    rw [List.range_succ, List.filter_append, ih fun i hi => h i (by omega)]
    have hn := h n (by omega)
    by_cases he : n = k
    · subst he
      rw [decide_eq_true rfl] at hn
      rw [if_neg (by omega), if_pos (by omega)]
      simp [hn]
    · rw [decide_eq_false he] at hn
      by_cases hk : k < n
      · rw [if_pos hk, if_pos (by omega)]; simp [hn]
      · rw [if_neg hk, if_neg (by omega)]; simp [hn]
theorem named_gen {P : Program} {name : String} {size k : Nat} (hs : P.funcs.size = size) (hf : (List.range size).filter (fun i => (P.funcs[i]?).any (·.name == name)) = [k]) : P.funcNamed name = some k := by
  unfold Program.funcNamed
  rw [hs, hf]
noncomputable def noBody (fn : Func) : Option String := if fn.body.isNone then some fn.name else none
theorem worded_gen {P : Program} {N : List String} (h : P.funcs.toList.filterMap noBody = N) (w : String) : P.worded w = N.any (· == w) := by
  subst h
  unfold Program.worded
  rw [← Array.any_toList]
  induction P.funcs.toList with
  | nil => rfl
  | cons fn l ih =>
    rw [List.any_cons, List.filterMap_cons, ih]
    cases hb : fn.body with
    | none => simp [noBody, hb]
    | some c => simp [noBody, hb]
theorem door_bytes_gen {P : Program} {N : List String} (h : P.funcs.toList.filterMap noBody = N) : P.doorBytes = (N.map fun n => n.toUTF8.data.toList).filterMap (bytesBehind "var's door: ".toUTF8.data.toList) := by
  subst h
  unfold Program.doorBytes
  congr 1
  rw [List.map_filterMap]
  congr 1
  funext fn
  cases hb : fn.body with
  | none => simp [noBody, hb]
  | some c => simp [noBody, hb]
noncomputable def onlyAt (p : Func → Bool) (k : Nat) (l : List Func) : Nat → Bool := List.rec (motive := fun _ => Nat → Bool) (fun _ => true) (fun fn _ ih i => boolC (boolC (Nat.beq i k) (!p fn) (p fn)) false (ih (Nat.succ i))) l
theorem onlyAt_ok {p : Func → Bool} {k : Nat} : ∀ (l : List Func) (i : Nat), onlyAt p k l i = true → ∀ j, j < l.length → (l[j]?).any p = decide (i + j = k) := by
  intro l
  induction l with
  | nil => intro i _ j hj; exact absurd hj (Nat.not_lt_zero _)
  | cons fn l ih =>
    intro i h j hj
    have h : boolC (boolC (Nat.beq i k) (!p fn) (p fn)) false (onlyAt p k l (Nat.succ i)) = true := h
    cases hb : boolC (Nat.beq i k) (!p fn) (p fn) with
    | false => rw [hb] at h; cases h
    | true =>
      rw [hb] at h
      have h : onlyAt p k l (Nat.succ i) = true := h
      rw [boolC_eq] at hb
      cases j with
      | zero =>
        show p fn = decide (i + 0 = k)
        split at hb
        · rename_i e
          rw [hb, Nat.add_zero, decide_eq_true (Nat.eq_of_beq_eq_true e)]
        · rename_i e
          have hne : ¬ i + 0 = k := fun e' => e (by rw [← e', Nat.add_zero]; exact Nat.beq_refl i)
          rw [decide_eq_false hne]
          simpa using hb
      | succ j =>
        have := ih (Nat.succ i) h j (by simpa using hj)
        rw [show i + (j + 1) = Nat.succ i + j by omega]
        exact this
theorem named_at {P : Program} {name : String} {size k : Nat} (hs : P.funcs.size = size) (hk : k < size) (h : onlyAt (fun fn => fn.name == name) k P.funcs.toList 0 = true) : P.funcNamed name = some k := by
  refine named_gen hs ?_
  rw [filter_one (k := k) size fun i hi => ?_, if_pos hk]
  have := onlyAt_ok P.funcs.toList 0 h i (by rw [Array.length_toList, hs]; exact hi)
  rw [Array.getElem?_toList, Nat.zero_add] at this
  exact this
theorem varsId_gen {P : Program} {k : Nat} (h : P.funcNamed "gosem.cut.vars" = some k) : varsId P = k := by
  unfold varsId
  rw [h]; rfl
theorem tails_gen {P : Program} {D : List (List UInt8)} (h : P.doorBytes = D) (v tail : String) : P.wordedOn v tail = (D.filterMap (bytesBehind v.toUTF8.data.toList)).any fun r => bytesBehind tail.toUTF8.data.toList r == some [] := by
  unfold Program.wordedOn Program.tailsOn
  rw [h]
theorem later_gen {P : Program} {v : String} {k : LaidKind} (h : P.kindBase v = some k) (hk : (match k with | .data | .sentinel | .listed => true | _ => false) = true) : P.kindOfLater v = some k := by
  unfold Program.kindOfLater
  rw [h]
  cases k <;> first | rfl | cases hk
theorem pinned_gen {P : Program} {v : String} {g : Nat} (h1 : P.wordedOn v (kindTail .pinned) = true) (h2 : P.kindBase v = none) (h3 : P.funcNamed "gosem.cut.vars" = some g) (h4 : ((P.globalNamed v).any fun n => ((some g).bind fun g => ((P.funcs[g]?).bind (·.body)).bind (·.laysInOrder [])).any fun stored => !stored.contains n) = true) : P.pinnedFits v = true := by
  unfold Program.pinnedFits
  rw [h1, h2, h3, h4]; rfl
theorem rows_app {P : Program} {w : World} {fuel : Nat} {ms : List String} (hm : ((DataW.laidRun P w fuel ms).any fun x => laidRowsB P w x.2) = true) : ∀ (ns : List String), ((DataW.laidRun P w fuel ns).any fun x => laidRowsB P w x.2) = true → ((DataW.laidRun P w fuel (ns ++ ms)).any fun x => laidRowsB P w x.2) = true := by
  intro ns
  induction ns with
  | nil => intro _; exact hm
  | cons n ns ih =>
    intro h
    simp only [DataW.laidRun, List.cons_append] at h ⊢
    cases hg : P.globalNamed n with
    | none => simp [hg] at h
    | some g =>
      simp only [hg] at h ⊢
      cases ht : (P.globals[g]?).map (·.type) with
      | none => simp [ht] at h
      | some t =>
        cases hc : w.var? P n with
        | none => simp [ht, hc] at h
        | some cs =>
          simp only [ht, hc] at h ⊢
          cases ha : DataW.trod (fun _ => ()) P w 0 (fun _ => true) false fuel t cs.toList with
          | none => simp [ha] at h
          | some a =>
            cases hy : DataW.laidRun P w fuel ns with
            | none => simp [ha, hy] at h
            | some y =>
              simp only [ha, hy, Option.any_some] at h
              unfold laidRowsB at h
              rw [List.all_append, Bool.and_eq_true] at h
              have hi := ih (by rw [hy]; exact h.2)
              cases hz : DataW.laidRun P w fuel (ns ++ ms) with
              | none => rw [hz] at hi; cases hi
              | some z =>
                rw [hz] at hi
                simp only [ha, Option.any_some]
                unfold laidRowsB
                rw [List.all_append, h.1]
                exact hi
theorem laid_of_parts {P : Program} {laid : List (String × DataW Unit)} {w : World} (fuel M : Nat) (h : (DataW.laidRun P w fuel (laid.map (·.1))).map (·.1) = some laid)
    (hn : ((DataW.laidRun P w fuel (laid.map (·.1))).any fun x => nodupBits M x.2 0) = true)
    (hr : ((DataW.laidRun P w fuel (laid.map (·.1))).any fun x => laidRowsB P w x.2) = true) : laidMet P laid w := by
  cases hx : DataW.laidRun P w fuel (laid.map (·.1)) with
  | none => simp [hx] at h
  | some x =>
    obtain ⟨l', ps⟩ := x
    simp only [hx, Option.map_some, Option.some.injEq] at h
    simp only [hx, Option.any_some] at hn hr
    subst h
    exact laidMet_of_run fuel hx (decide_eq_true (nodupBits_sound hn).1) hr
theorem alone_gen {P : Program} {g : FuncId} {code : Code} (h1 : code.unfollowedBeside P = false) (h2 : (code.tempsApart 0).isSome = true) (h3 : code.regionsFit P [] = true) (h4 : code.storedByHandle P = []) : P.callsLaidAlone g code = true := by
  unfold Program.callsLaidAlone
  rw [h1, h2, h3, h4]; rfl
theorem fits_gen {P : Program} {l : List (String × DataW Unit)} (h : P.headLifts.contains "ownunsafe" = false) (hf : P.funcsFit l = true) : P.listedFits l = true := by
  unfold Program.listedFits
  rw [h, hf]; rfl
theorem joined_gen {P : Program} {f : FuncId} {fn : Func} {s : ChangeSpec} {c : OpenClaim}
    (k0 : (c.wf (OpenSpec.ofChange s)) = true)
    (k1 : (laidOutB P) = true)
    (k2 : (mapsRowed P) = true)
    (k3 : (fn.params.all (P.readableRec ·)) = true)
    (k4 : (namedTie P c.named s.vars) = true)
    (k5 : ((c.stops == [])) = true)
    (k6 : ((P.stops == [])) = true)
    (k7 : ((c.knobs == [])) = true)
    (k8 : ((P.stopKnobs == [])) = true)
    (k9 : ((c.inPlace == P.inPlace f)) = true)
    (k10 : ((c.unfollowed == P.unfollowed f)) = true)
    (k11 : ((c.recurses == P.recurses f)) = true)
    (k12 : ((c.named == P.varsNamed f)) = true)
    (k13 : ((c.maps == (fn.params.toList ++ s.plain.varTypes P).any (P.mapsRec ·))) = true)
    (k14 : ((c.ifaces == (fn.params.toList ++ s.plain.varTypes P).any (P.ifacesRec ·))) = true)
    (k15 : ((c.mapsOut == P.mapsAmong fn.resultTypes.toList)) = true)
    (k16 : ((c.loops == (fn.params.toList ++ s.plain.varTypes P).any (P.loopsFrom ·))) = true)
    (k17 : ((c.wideKeys == (fn.params.toList ++ s.plain.varTypes P ++ fn.resultTypes.toList).any (P.wideKeysFrom ·))) = true)
    (k18 : (s.vars.all (P.varReadable ·)) = true)
    (k19 : (fn.resultTypes.all (fun t => P.readableRec t && decide (t < P.types.size))) = true)
    (k20 : ((c.ifacesOut == fn.resultTypes.toList.any (P.ifacesRec ·))) = true)
    (k21 : ((c.loopsOut == fn.resultTypes.toList.any (P.loopsFrom ·))) = true)
    (k22 : ((c.plainKeys == P.plainKeys)) = true)
    (k23 : (c.shortTexts.isNone) = true)
    (k24 : (P.stopsHeard) = true)
    (k25 : (P.mayEnter) = true)
    (k26 : ((c.lifted == P.liftsFinal)) = true)
    (k27 : ((P.make == some c.make)) = true)
    (k28 : ((c.kinds == (if c.domain.isEmpty then [] else fn.params.toList.map fun t => match P.underlying t with | some (.int k) => some k | _ => none))) = true)
    (k29 : ((c.pinned == c.pinnedBy)) = true)
    (k30 : ((c.veiled == (fn.params.toList ++ s.plain.varTypes P ++ fn.resultTypes.toList).any (P.veiledRec ·))) = true)
    (k31 : (c.veiledFits P fn.params.toList (fn.params.toList ++ s.plain.varTypes P ++ fn.resultTypes.toList)) = true) : joinedFacts P f fn s c = true := by
  unfold joinedFacts
  simp only [Bool.and_eq_true]
  exact ⟨⟨⟨⟨⟨⟨⟨⟨⟨⟨⟨⟨⟨⟨⟨⟨⟨⟨⟨⟨⟨⟨⟨⟨⟨⟨⟨⟨⟨⟨⟨k0, k1⟩, k2⟩, k3⟩, k4⟩, k5⟩, k6⟩, k7⟩, k8⟩, k9⟩, k10⟩, k11⟩, k12⟩, k13⟩, k14⟩, k15⟩, k16⟩, k17⟩, k18⟩, k19⟩, k20⟩, k21⟩, k22⟩, k23⟩, k24⟩, k25⟩, k26⟩, k27⟩, k28⟩, k29⟩, k30⟩, k31⟩
noncomputable def walkN (q : Func → Nat → Bool) (l : List Func) : Nat → Bool := List.rec (motive := fun _ => Nat → Bool) (fun _ => true) (fun fn _ ih i => boolC (q fn i) false (ih (Nat.succ i))) l
theorem walkN_at {q : Func → Nat → Bool} : ∀ {l : List Func} {i : Nat}, walkN q l i = true → ∀ (j : Nat) (fn : Func), l[j]? = some fn → q fn (i + j) = true := by
  intro l
  induction l with
  | nil => intro i _ j fn hj; simp at hj
  | cons f l ih =>
    intro i h j fn hj
    have h : boolC (q f i) false (walkN q l (Nat.succ i)) = true := h
    rw [boolC_eq] at h
    split at h
    · rename_i h0
      cases j with
      | zero =>
        have hj : some f = some fn := hj
        injection hj with hj
        subst hj
        exact h0
      | succ j =>
        have := ih h j fn (by simpa using hj)
        rw [show i + (j + 1) = Nat.succ i + j by omega]
        exact this
    · cases h
noncomputable def tab {α : Type} (t : Tr α) (size : Nat) (d : α) (f : Nat) : α := boolC (Nat.blt f size) d (optC (t.get f) d fun x => x)
theorem tab_out {α : Type} {t : Tr α} {size : Nat} {d : α} {f : Nat} (h : size ≤ f) : tab t size d f = d := by
  unfold tab
  rw [boolC_eq, if_neg (by rw [Nat.blt_eq]; omega)]
theorem leads_gen {P : Program} {t : Tr (List Nat)} {size : Nat} (hs : P.funcs.size = size) (h : walkN (fun fn i => eqNL (P.leadsTo fn) (tab t size [] i)) P.funcs.toList 0 = true) (f : Nat) : (P.funcs[f]?).elim [] P.leadsTo = tab t size [] f := by
  cases hf : P.funcs[f]? with
  | none =>
    rw [tab_out (by rw [← hs]; exact Array.getElem?_eq_none_iff.1 hf)]; rfl
  | some fn =>
    have := walkN_at h f fn (by rw [Array.getElem?_toList, hf])
    rw [Nat.zero_add] at this
    exact eqNL_ok this
noncomputable def plOf (fn : Func) : Option String := if fn.ours || fn.body.isNone || fn.name == "runtime.NumGoroutine" then some fn.name else none
noncomputable def glOf (fn : Func) : List Nat := fn.body.elim [] Code.globalsNamed
noncomputable def rdOf (fn : Func) : Option String := if fn.body.isNone then entryReads.lookup fn.name else none
noncomputable def pgrOk (p : Tr (Option String)) (g : Tr (List Nat)) (r : Tr (Option String)) (size : Nat) (fn : Func) (i : Nat) : Bool :=
  boolC (decide (plOf fn = tab p size none i)) false (boolC (eqNL (glOf fn) (tab g size [] i)) false (decide (rdOf fn = tab r size none i)))
theorem pgr_at {P : Program} {p : Tr (Option String)} {g : Tr (List Nat)} {r : Tr (Option String)} {size : Nat} (h : walkN (pgrOk p g r size) P.funcs.toList 0 = true) {f : Nat} {fn : Func} (hf : P.funcs[f]? = some fn) :
    plOf fn = tab p size none f ∧ glOf fn = tab g size [] f ∧ rdOf fn = tab r size none f := by
  have := walkN_at h f fn (by rw [Array.getElem?_toList, hf])
  rw [Nat.zero_add] at this
  unfold pgrOk at this
  rw [boolC_eq, boolC_eq] at this
  split at this
  · rename_i h0
    split at this
    · rename_i h1
      exact ⟨of_decide_eq_true h0, eqNL_ok h1, of_decide_eq_true this⟩
    · cases this
  · cases this
theorem place_at {P : Program} {p : Tr (Option String)} {g : Tr (List Nat)} {r : Tr (Option String)} {size : Nat} (hs : P.funcs.size = size) (h : walkN (pgrOk p g r size) P.funcs.toList 0 = true) {f : Nat} {L : List Nat} (hc : P.closure f = L) {R : List String} (hR : L.filterMap (tab p size none) = R) : P.inPlace f = R := by
  refine place_gen hc ?_
  rw [← hR]
  congr 1
  funext k
  cases hf : P.funcs[k]? with
  | none => rw [tab_out (by rw [← hs]; exact Array.getElem?_eq_none_iff.1 hf)]; rfl
  | some fn => exact (pgr_at h hf).1
theorem vars_at {P : Program} {p : Tr (Option String)} {g : Tr (List Nat)} {r : Tr (Option String)} {size : Nat} (hs : P.funcs.size = size) (h : walkN (pgrOk p g r size) P.funcs.toList 0 = true) {f : Nat} {L G : List Nat} (hc : P.closure f = L) {R : List String} (hG : L.flatMap (tab g size []) = G) (hR : L.filterMap (tab r size none) = R) : P.varsNamed f = (G.eraseDups.filterMap (fun g => (P.globals[g]?).map (·.name)) ++ R).eraseDups := by
  refine vars_gen hc ?_ ?_
  · rw [← hG]
    congr 1
    funext k
    cases hf : P.funcs[k]? with
    | none => rw [tab_out (by rw [← hs]; exact Array.getElem?_eq_none_iff.1 hf)]; rfl
    | some fn => exact (pgr_at h hf).2.1
  · rw [← hR]
    congr 1
    funext k
    cases hf : P.funcs[k]? with
    | none => rw [tab_out (by rw [← hs]; exact Array.getElem?_eq_none_iff.1 hf)]; rfl
    | some fn => exact (pgr_at h hf).2.2
theorem allN_cat {f : Nat → Bool} {m : Nat} : ∀ {n i : Nat}, allN f n i = true → allN f m (i + n) = true → allN f (n + m) i = true := by
  intro n
  induction n with
  | zero => intro i _ h; rw [Nat.zero_add]; exact h
  | succ n ih =>
    intro i h h2
    have h : boolC (f i) false (allN f n (i + 1)) = true := h
    rw [show n + 1 + m = (n + m) + 1 by omega]
    show boolC (f i) false (allN f (n + m) (i + 1)) = true
    rw [boolC_eq] at h ⊢
    split at h
    · rename_i h0
      rw [if_pos h0]
      exact ih h (by rw [show i + 1 + n = i + (n + 1) by omega]; exact h2)
    · cases h
theorem allN_app {f : Nat → Bool} {n m size : Nat} (h1 : allN f n 0 = true) (h2 : allN f m n = true) (hs : size = n + m) : (List.range size).all f = true := by
  rw [List.all_eq_true]
  intro t ht
  rw [List.mem_range] at ht
  by_cases h : t < n
  · exact allN_at h1 t (Nat.zero_le t) (by omega)
  · exact allN_at h2 t (by omega) (by omega)
noncomputable def fMap (P : Program) (t : Nat) : Bool := match P.underlying t with | some (.map _ e) => decide (e < P.types.size) | _ => true
noncomputable def fKey (P : Program) (t : Nat) : Bool := match P.underlying t with
    | some (.map k _) => (match P.underlying k with | some (.array _ _) | some (.struct _) => false | _ => true)
    | _ => true
noncomputable def fType (P : Program) (t : Nat) : Bool := boolC (fMap P t) false (boolC (fKey P t) false (rowFine P t))
theorem fType_at {P : Program} {t : Nat} (h : fType P t = true) : fMap P t = true ∧ fKey P t = true ∧ rowFine P t = true := by
  unfold fType at h
  rw [boolC_eq, boolC_eq] at h
  split at h
  · rename_i h0
    split at h
    · rename_i h1; exact ⟨h0, h1, h⟩
    · cases h
  · cases h
theorem types_all {P : Program} (h : (List.range P.types.size).all (fType P) = true) {g : Nat → Bool} (hg : ∀ t, fType P t = true → g t = true) : (List.range P.types.size).all g = true := by
  rw [List.all_eq_true] at h ⊢
  exact fun t ht => hg t (h t ht)
theorem maps_rowed {P : Program} (h : (List.range P.types.size).all (fType P) = true) : mapsRowed P = true := types_all h fun t ht => (fType_at ht).1
theorem plain_keys {P : Program} (h : (List.range P.types.size).all (fType P) = true) : P.plainKeys = true := types_all h fun t ht => (fType_at ht).2.1
noncomputable def gStop (fn : Func) : Bool := (Stop.rowOf fn).isNone || !fn.norace
theorem stops_heard {P : Program} (h : P.funcs.toList.all gStop = true) : P.stopsHeard = true := by
  rw [Array.all_toList] at h
  exact h
theorem laid_out {P : Program} {size : Nat} (hs : P.types.size = size) (h : (List.range P.types.size).all (fType P) = true) (hg : (P.globals.toList.all fun g => decide (g.type < size)) = true) (hp : (P.funcs.toList.all fun f => f.params.toList.all fun t => decide (t < size)) = true) : laidOutB P = true := by
  subst hs
  unfold laidOutB
  rw [types_all h fun t ht => (fType_at ht).2.2]
  rw [Array.all_toList] at hg hp
  simp only [Array.all_toList] at hp
  rw [hg, hp]; rfl
theorem funcs_all' {P : Program} (h : P.funcs.toList.all gNone = true) : P.funcs.all gNone = true := by
  rw [Array.all_toList] at h
  exact h
end Go.AM
end
