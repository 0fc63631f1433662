import Derived.Carry
import Derived.Calls
import Derived.Lib.LaidTab
import Derived.KernelRfl
import GoSem.ClaimFn
import GoSem.ClaimGoes
import GoSem.ClaimStop
import GoSem.ClaimSevenParts
import Derived.JoinedOf
import Derived.LaidByTextLater
import Derived.SevenTiedAt
import Derived.LaidOnce
import Derived.Test.YtkkbeakephmkdaaGreatDoorAm2
set_option linter.all false
section
namespace Go.AM
open Go
noncomputable section
def ldB (x : Option B) (off n : Nat) (agg : Bool) : Option V := bind (bind (blkCells x) fun c => some (dropN off c)) fun c => bind (takeN n c) (wrapCells agg)
inductive TI where
  | bl (b : Bool)
  | nat (y : Nat)
  | ix (x : Nat)
  | cut
  | cat
  | ia
  | il (v : V)
  | ld (v : V)
  | st (s : S)
  | byt
  | eqs (o : Bool)
  | cl (v : V)
  | cs (v : V) (s : S)
  | lp (r : R)
  | un (l : List Rec)
  | str (l : List Nat)
abbrev Z := List (Nat × TI)
def plnF (o : Op) : Option (Env → List V → S → VS) := match o with
  | .move x => some (oMove x)
  | .assign x => some (oMove x)
  | .pick c a b => some (oPick c a b)
  | .alloc t => some (oAlloc t)
  | .box t x => some (oBox t x)
  | .build t ps => some (oBuild t ps)
  | .buildSlice t n ps => some (oBuildSlice t n ps)
  | .load t a => some (oLoad t a)
  | .store t a x => some (oStore t a x)
  | .nilCheck x => some (oNilCheck x)
  | .binOp op t x y _ => some (oBin op t x y)
  | .unOp op _ x => some (oUn op x)
  | .convert a b x => some (oConvert a b x)
  | .makeInterface t x => some (oMakeIface t x)
  | .makeFunc f a c => some (oMakeFunc f a c)
  | .makeSlice t l c => some (oMakeSlice t l c)
  | .slice t x lo hi mx => some (oSlice t x lo hi mx)
  | .fieldAddr t x f => some (oFieldAddr t x f)
  | .field t x f => some (oField t x f)
  | .indexAddr t x i => some (oIndexAddr t x i)
  | .index t x i => some (oIndex t x i)
  | .typeAssert x _ t ok => some (oAssert x t ok)
  | .extract x i => some (oExtract x i)
  | .call c => match c.callee with
    | .builtin b => match b with
      | .recover => none
      | b => some (oBuiltin b c.args c.argTypes)
    | _ => none
  | _ => none
def callTo (o : Op) (E : Env) (T : List V) : Tgt := match o with
  | .call c => match c.callee with
    | .value f => match f with
      | .func g => optC (opvs E T c.args.toList) .no fun a => .f g a
      | f => optC (opv E T f) .no fun g => optC (opvs E T c.args.toList) .no fun a => target E g a
    | _ => .no
  | _ => .no
abbrev KV := V → S → Prop
def isSl (v : V) : Bool := match v with | .sl _ _ _ _ _ => true | _ => false
section
variable (E : Env) (rc : Rec)
def autoQ (o : Op) (T : List V) (s : S) (K : KV) : Prop := optC (plnF o) True fun f => optC (f E T s) True fun p => K p.1 p.2
def blQ (b : Bool) (K : KV) (p : V × S) : Prop := match p.1 with
  | .bool c => c = b → K (.bool b) p.2
  | _ => True
def natQ (y : Nat) (K : KV) (p : V × S) : Prop := match p.1 with
  | .int k e => e = Int.ofNat y → K (.int k (Int.ofNat y)) p.2
  | _ => True
def ixV (x : Nat) (s : S) (K : KV) (v w : V) : Prop := match v, w with
  | .str l, .int _ (.ofNat n) => nth l n = some x → K (byteV x) s
  | _, _ => True
def ixQ (x : Nat) (o : Op) (T : List V) (s : S) (K : KV) : Prop := match o with
  | .index t a i => optC (E.ti t) True fun ti => boolC (strK ti.kind) True (optC (opv E T a) True fun v => optC (opv E T i) True fun w => ixV x s K v w)
  | _ => True
def cutV (s : S) (K : KV) (lo hi : Option Nat) (v : V) : Prop := match v with
  | .str l => inB (orD lo 0) (orD hi (len l)) (len l) (len l) = true → K (.str (takeB (orD hi (len l) - orD lo 0) (dropN (orD lo 0) l))) s
  | _ => True
def cutQ (o : Op) (T : List V) (s : S) (K : KV) : Prop := match o with
  | .slice t a lo hi none => optC (E.ti t) True fun ti => boolC (strK ti.kind) True (optC (opv E T a) True fun v => optC (optN E T lo) True fun lo => optC (optN E T hi) True fun hi => cutV s K lo hi v)
  | _ => True
def catV (s : S) (K : KV) (v w : V) : Prop := match v, w with
  | .str a, .str b => Nat.ble (len a + len b) maxInt = true → K (.str (app a b)) s
  | _, _ => True
def catQ (o : Op) (T : List V) (s : S) (K : KV) : Prop := match o with
  | .binOp .add t x y _ => optC (opv E T x) True fun v => optC (opv E T y) True fun w => catV s K v w
  | _ => True
def iaV (s : S) (K : KV) (sz i : Nat) (v : V) : Prop := match v with
  | .sl b off n _ _ => Nat.blt i n = true → K (.ptr b (off + i * sz)) s
  | _ => True
def sliceE (k : TK) (F : Nat → Prop) : Prop := match k with
  | .slice e => F e
  | _ => True
def iaQ (o : Op) (T : List V) (s : S) (K : KV) : Prop := match o with
  | .indexAddr t x i => optC (E.ti t) True fun ti => sliceE ti.kind fun e => optC (E.ti e) True fun te => optC (opv E T x) True fun v => optC (toNO (opv E T i)) True fun i => iaV s K te.size i v
  | _ => True
def ilQ (r : V) (o : Op) (T : List V) (s : S) (K : KV) : Prop := match o with
  | .indexAddr t x i => optC (E.ti t) True fun ti => sliceE ti.kind fun e => optC (E.ti e) True fun te => optC (opv E T x) True fun v => optC (toNO (opv E T i)) True fun i => (idxSl te.size v i = some r → K r s)
  | _ => True
def ldV (r : V) (s : S) (K : KV) (n : Nat) (agg : Bool) (v : V) : Prop := match v with
  | .ptr b off => ldB (s.heap.get b) off n agg = some r → K r s
  | _ => True
def ldQ (r : V) (o : Op) (T : List V) (s : S) (K : KV) : Prop := match o with
  | .load t a => optC (E.ti t) True fun ti => optC (opv E T a) True fun v => ldV r s K ti.size ti.agg v
  | _ => True
def stQ (s1 : S) (o : Op) (T : List V) (s : S) (K : KV) : Prop := match o with
  | .store t a x => optC (E.ti t) True fun ti => optC (opv E T a) True fun a => optC (opv E T x) True fun v => (storeV s ti.size (cellsOf v) a = some (undef, s1) → K undef s1)
  | _ => True
def bytV (s : S) (K : KV) (v : V) : Prop := match v with
  | .str l => Nat.ble (len l) room = true → K (.sl s.next 0 (len l) 1 none) (s.new (.cells true 0 (mapL byteV l)))
  | _ => True
def bytQ (o : Op) (T : List V) (s : S) (K : KV) : Prop := match o with
  | .convert a b x => boolC (Bool.not (cvtT a b)) True <| optC (E.ti a) True fun ta => boolC (strK ta.kind) True (optC (E.ti b) True fun tb => boolC (isByteSlice E tb.kind) True (optC (opv E T x) True fun v => bytV s K v))
  | _ => True
def strQ (l : List Nat) (o : Op) (T : List V) (s : S) (K : KV) : Prop := match o with
  | .convert a b x => boolC (Bool.not (cvtT a b)) True <| optC (E.ti a) True fun ta => boolC (isByteSlice E ta.kind) True (optC (E.ti b) True fun tb => boolC (strK tb.kind) True (optC (opv E T x) True fun v => boolC (isSl v) True (bind (sliceCells s 1 v) bytesOf = some l → K (.str l) s)))
  | _ => True
def noneQ (x : Option V) (K : Prop) : Prop := optC x K fun _ => True
def eqsQ (b : Bool) (o : Op) (T : List V) (s : S) (K : KV) : Prop := match o with
  | .binOp op t x y _ => optC (opv E T x) True fun v => optC (opv E T y) True fun w => noneQ (nilEq E.ti op t (isConstO x || isConstO y) v w) (noneQ (binOp E.ti op t v w) (noneQ (arrEq E.ti op t v w)
      (boolC (E.eqs t) True (optC (E.ti t) True fun i => (eqStrK E.ti i.kind v w = some b → optC (boolOp op b) True fun r => K r s)))))
  | _ => True
def clT (v : V) (s s1 : S) (K : KV) (t : Tgt) : Prop := match t with
  | .f g a => rc.call g a s = .ret v s1 false → K v s1
  | _ => True
def itemQ (i : TI) (o : Op) (T : List V) (s : S) (K : KV) : Prop := match i with
  | .bl b => optC (plnF o) True fun f => optC (f E T s) True (blQ b K)
  | .nat y => optC (plnF o) True fun f => optC (f E T s) True (natQ y K)
  | .ix x => ixQ E x o T s K
  | .cut => cutQ E o T s K
  | .cat => catQ E o T s K
  | .ia => iaQ E o T s K
  | .il v => ilQ E v o T s K
  | .ld v => ldQ E v o T s K
  | .st s1 => stQ E s1 o T s K
  | .byt => bytQ E o T s K
  | .eqs b => eqsQ E b o T s K
  | .cl v => clT rc v s s K (callTo o E T)
  | .cs v s1 => clT rc v s s1 K (callTo o E T)
  | .lp _ => True
  | .un _ => True
  | .str l => strQ E l o T s K
def oneQ (o : Op) (T : List V) (s : S) (z : Z) (K : V → S → Z → Prop) : Prop :=
  listC z (autoQ E o T s fun v s => K v s []) fun i z' => natC i.1 (itemQ E rc i.2 o T s fun v s => K v s z') fun n => autoQ E o T s fun v s => K v s ((n, i.2) :: z')
abbrev KT := List V → S → Z → Prop
def opsQ (all os : List Oper) : List V → S → Z → KT → Prop := List.rec (motive := fun _ => List V → S → Z → KT → Prop) (fun T s z k => k T s z)
  (fun o _ ih T s z k => boolC (wantedIn all T o.guard) (ih (setD T o.dst undef) s z k) (oneQ E rc o.op T s z fun v s z => ih (setD T o.dst v) s z k)) os
abbrev DD := List (Option (Option Nat))
def depV (v : V) : Option (Option Nat) := match v with
  | .ptr b _ => some (some b)
  | .lptr _ => some none
  | _ => none
def depOf (o : Op) (T : List V) : Option (Option Nat) := match o with
  | .load _ a => bind (opv E T a) depV
  | _ => none
def apart1 (c : Nat) (d : Option (Option Nat)) : Bool := optC d false fun x => optC x true fun b => boolC (Nat.beq b c) true false
def apartD (c : Nat) (D : DD) : Bool := List.rec (motive := fun _ => Bool) true (fun d _ ih => boolC (apart1 c d) false ih) D
def tick (z : Z) : Z := listC z [] fun i z' => natC i.1 z fun n => (n, i.2) :: z'
def plain1 (v : V) : Bool := match v with | .bool _ => true | .int _ _ => true | .str _ => true | .nilp => true | .ptr _ _ => true | .nils => true | .nili => true | _ => false
def plainL (l : List V) : Bool := List.rec (motive := fun _ => Bool) true (fun v _ ih => boolC (plain1 v) false ih) l
def plainV (v : V) : Bool := match v with | .agg l => plainL l | v => plain1 v
abbrev KD := DD → List V → S → Z → Prop
def ptrQ (v : V) (F : Nat → Prop) : Prop := match v with | .ptr b _ => F b | _ => True
def clD (i : TI) (s : S) (t : Tgt) (K : V → Prop) : Prop := match i with
  | .cl v => (match t with | .f g a => rc.call g a s = .ret v s false → K v | _ => True)
  | _ => True
def fixQ (o : Op) (dst : Option Nat) (D : DD) (T : List V) (s : S) (z : Z) (K : KD) : Prop := match o with
  | .store t a x => optC (opv E T a) True fun av => ptrQ av fun c => boolC (apartD c D) True (optC (oStore t a x E T s) True fun p => K D (setD T dst p.1) p.2 (tick z))
  | .call c => listC z True fun i z' => natC i.1 (clD rc i.2 s (callTo (.call c) E T) fun v => K D (setD T dst v) s z') fun _ => True
  | _ => True
def newQ (o : Op) (dst : Option Nat) (D : DD) (T : List V) (s : S) (z : Z) (K : KD) : Prop := optC (aShape o E T) True fun p => optC p.1 (K D (setD T dst (p.2 0)) s (tick z)) fun x => boolC (apartD s.next D) True (K D (setD T dst (p.2 s.next)) (s.new x) (tick z))
def pureQ (rd : Bool) (o : Op) (dst : Option Nat) (D : DD) (T : List V) (s : S) (z : Z) (K : KD) : Prop := optC (pF o) True fun _ => optC (plnF o) True fun _ =>
  oneQ E rc o T s z fun v _ z => boolC rd (K D (setD T dst v) s z) (boolC (plainV v) True (K (depOf E o T :: D) (setD T dst v) s z))
def dQ (all : List Oper) (L : List PE) : DD → List V → S → Z → KT → Prop := List.rec (motive := fun _ => DD → List V → S → Z → KT → Prop) (fun _ T s z k => k T s z)
  (fun e L ih D T s z k => boolC (wantedIn all T e.o.guard) (ih D (setD T e.o.dst undef) s z k)
    (natC e.cls (boolC (newsOk E all e T L) True (fixQ E rc e.o.op e.o.dst D T s z fun D T s z => ih D T s z k)) fun c => natC c (newQ E e.o.op e.o.dst D T s z fun D T s z => ih D T s z k) fun c =>
      pureQ E rc (Nat.beq c 1) e.o.op e.o.dst D T s z fun D T s z => ih D T s z k)) L
abbrev KR := R → Z → Prop
def regQ (ops : Array Oper) (d : Bool) (T : List V) (m : M) (s : S) (z : Z) (k : KR) : Prop := boolC d (opsQ E rc ops.toList ops.toList T s z fun T s z => k (.norm T m s) z)
  (boolC (swpTest ops.toList) (dQ E rc ops.toList (planOf ops.toList) [] T s z fun T s z => k (.norm T m s) z) True)
abbrev CQ := Rec → List V → M → S → Z → KR → Prop
def seqQ (b : CQ) (rc : Rec) (k : KR) (r : R) (z : Z) : Prop := match r with
  | .norm T m s => b rc T m s z k
  | r => k r z
def stopQ (k : KR) (r : R) (z : Z) : Prop := match r with
  | .norm _ _ _ => True
  | r => k r z
def unQ (b : CQ) (l : List Rec) : CQ := List.rec (motive := fun _ => CQ) (fun rc T m s z k => b rc T m s z (stopQ k)) (fun rc' _ ih rc T m s z k => rc = recS E rc' → b rc T m s z (seqQ ih rc' k)) l
def lpQ (c : Code) (b : CQ) (rc : Rec) (T : List V) (m : M) (s : S) (i : TI) (z : Z) (k : KR) : Prop := match i with
  | .lp r => exec (.loop c) E rc T m s = r → k r z
  | .un l => unQ E b l rc T m s z k
  | _ => True
def xQ (c : Code) : CQ := Code.rec (motive := fun _ => CQ)
  (skip := fun _ T m s z k => k (.norm T m s) z) (region := fun _ ops d rc T m s z k => regQ E rc ops d T m s z k) (seq := fun _ _ a b rc T m s z k => a rc T m s z (seqQ b rc k))
  (cond := fun c _ _ a b rc T m s z k => optC (bind (opv E T c) boolOf) True fun t => boolC t (b rc T m s z k) (a rc T m s z k)) (block := fun id _ b rc T m s z k => b rc T m s z fun r z => k (blockK id r) z)
  (loop := fun c b rc T m s z k => listC z True fun i z' => natC i.1 (lpQ E c b rc T m s i.2 z' k) fun _ => True) (rangeFunc := fun _ _ _ _ _ _ _ _ _ _ _ _ => True) (exit := fun id _ T m s z k => k (.exit id T m s) z)
  (scope := fun _ b => b) (label := fun _ _ T m s z k => k (.norm T m s) z) (goto := fun _ _ _ _ _ _ _ => True) (ret := fun _ T m s z k => k (.ret T m s) z) (refuse := fun _ _ _ _ _ _ _ => True) c
end
section
variable {E : Env} {rc : Rec} {o : Op} {T : List V} {m : M} {s : S} {z : Z}
theorem plnF_ok {f : Env → List V → S → VS} (h : plnF o = some f) (k : K) : doOp o E rc T m s k = withK (f E T s) m k := by
  cases o <;> first | (cases h; done) | (injection h with h; subst h; rfl) | skip
  rename_i c
  obtain ⟨ce, as, ts⟩ := c
  cases ce with
  | builtin b => cases b <;> first | (cases h; done) | (injection h with h; subst h; rfl)
  | value f => cases h
  | invoke r n => cases h
theorem callTo_ok {g : Nat} {a : List V} (h : callTo o E T = .f g a) (k : K) : doOp o E rc T m s k = calledK (rc.call g a s) T m k := by
  cases o <;> first | (cases h; done) | skip
  rename_i c
  obtain ⟨ce, as, ts⟩ := c
  cases ce with
  | builtin b => cases h
  | invoke r n => cases h
  | value f =>
    have gen : ∀ f, (optC (opv E T f) Tgt.no fun g => optC (opvs E T as.toList) .no fun a => target E g a) = .f g a → callV E rc (opv E T f) (opvs E T as.toList) T m s k = calledK (rc.call g a s) T m k := by
      intro f h
      unfold callV
      cases h1 : opv E T f with
      | none => rw [h1] at h; cases h
      | some v =>
        rw [h1] at h
        cases h2 : opvs E T as.toList with
        | none => rw [h2] at h; cases h
        | some w =>
          rw [h2] at h
          have h : target E v w = .f g a := h
          show invokeK rc (target E v w) T m s k = _
          rw [h]; rfl
    cases f with
    | func g' =>
      have h : (optC (opvs E T as.toList) Tgt.no fun a => .f g' a) = .f g a := h
      show (optC (opvs E T as.toList) .fail fun args => calledK (rc.call g' args s) T m k) = _
      cases h2 : opvs E T as.toList with
      | none => rw [h2] at h; cases h
      | some w =>
        rw [h2] at h
        injection h with h3 h4
        subst h3; subst h4; rfl
    | tmp t => exact gen _ h
    | const v => exact gen _ h
    | global g => exact gen _ h
theorem optQ {α : Type} {x : Option α} {F : α → Prop} (h : ∀ a, x = some a → F a) : optC x True F := by
  cases x with
  | none => trivial
  | some a => exact h a rfl
theorem boolQ {b : Bool} {P : Prop} (h : b = true → P) : boolC b True P := by
  cases b with
  | false => trivial
  | true => exact h rfl
theorem autoQ_ok {K : KV} (h : ∀ v s', (∀ k, doOp o E rc T m s k = k v m s') → K v s') : autoQ E o T s K :=
  optQ fun f hf => optQ fun p hp => h _ _ fun k => by rw [plnF_ok hf, hp]; rfl
theorem itemQ_ok (i : TI) {K : KV} (h : ∀ v s', (∀ k, doOp o E rc T m s k = k v m s') → K v s') : itemQ E rc i o T s K := by
  cases i with
  | bl b =>
    refine optQ fun f hf => optQ fun p hp => ?_
    obtain ⟨v, s1⟩ := p
    cases v <;> first | trivial | skip
    rename_i c
    intro hc
    have hc : c = b := hc
    subst hc
    exact h _ _ fun k => by rw [plnF_ok hf, hp]; rfl
  | nat y =>
    refine optQ fun f hf => optQ fun p hp => ?_
    obtain ⟨v, s1⟩ := p
    cases v <;> first | trivial | skip
    rename_i kk c
    intro hc
    have hc : c = Int.ofNat y := hc
    subst hc
    exact h _ _ fun k => by rw [plnF_ok hf, hp]; rfl
  | ix x =>
    cases o <;> first | trivial | skip
    rename_i t a i
    refine optQ fun ti h1 => boolQ fun h2 => optQ fun v h3 => optQ fun w h4 => ?_
    cases v <;> first | trivial | skip
    rename_i l
    cases w <;> first | trivial | skip
    rename_i kk n
    cases n <;> first | trivial | skip
    rename_i n
    intro h5
    have h5 : nth l n = some x := h5
    refine h _ _ fun k => ?_
    show withK (oIndex t a i E T s) m k = _
    unfold oIndex
    rw [h1, h3, h4]
    show withK (ret1 (boolC (strK ti.kind) none (bind (nth l n) fun n => some (byteV n))) s) m k = _
    rw [h2, h5]; rfl
  | cut =>
    cases o <;> first | trivial | skip
    rename_i t a lo hi mx
    cases mx <;> first | trivial | skip
    refine optQ fun ti h1 => boolQ fun h2 => optQ fun v h3 => optQ fun lo' h4 => optQ fun hi' h5 => ?_
    cases v <;> first | trivial | skip
    rename_i l
    intro h6
    have h6 : inB (orD lo' 0) (orD hi' (len l)) (len l) (len l) = true := h6
    refine h _ _ fun k => ?_
    show withK (oSlice t a lo hi none E T s) m k = _
    unfold oSlice
    rw [h1, h3, h4, h5]
    show withK (ret1 (sliceK E s ti.kind (.str l) lo' hi' none) s) m k = _
    have h7 : ti.kind = .str := by
      generalize ti.kind = kd at h2
      cases kd <;> first | rfl | (cases h2; done)
    rw [h7]
    show withK (ret1 (boolC (inB (orD lo' 0) (orD hi' (len l)) (len l) (len l)) none _) s) m k = _
    rw [h6]; rfl
  | cat =>
    cases o <;> first | trivial | skip
    rename_i op t x y u
    cases op <;> first | trivial | skip
    refine optQ fun v h1 => optQ fun w h2 => ?_
    cases v <;> first | trivial | skip
    rename_i a
    cases w <;> first | trivial | skip
    rename_i b
    intro h3
    have h3 : Nat.ble (len a + len b) maxInt = true := h3
    refine h _ _ fun k => ?_
    show withK (oBin .add t x y E T s) m k = _
    unfold oBin
    rw [h1, h2]
    show withK (ret1 (orV none (orV (boolC (Nat.ble (len a + len b) maxInt) none (some (.str (app a b)))) _)) s) m k = _
    rw [h3]; rfl
  | ia =>
    cases o <;> first | trivial | skip
    rename_i t x i
    refine optQ fun ti h1 => ?_
    cases h0 : ti.kind <;> first | trivial | skip
    rename_i e
    refine optQ fun te h2 => optQ fun v h3 => optQ fun n h4 => ?_
    cases v <;> first | trivial | skip
    rename_i b off n' z' kk
    intro h5
    have h5 : Nat.blt n n' = true := h5
    refine h _ _ fun k => ?_
    show withK (oIndexAddr t x i E T s) m k = _
    unfold oIndexAddr
    rw [h1, h3, h4]
    show withK (ret1 (idxAddrK E ti.kind _ n) s) m k = _
    rw [h0]
    show withK (ret1 (bind (E.ti e) fun te => idxSl te.size _ n) s) m k = _
    rw [h2]
    show withK (ret1 (boolC (Nat.blt n n') none _) s) m k = _
    rw [h5]; rfl
  | il r =>
    cases o <;> first | trivial | skip
    rename_i t x i
    refine optQ fun ti h1 => ?_
    cases h0 : ti.kind <;> first | trivial | skip
    rename_i e
    refine optQ fun te h2 => optQ fun v h3 => optQ fun n h4 h5 => ?_
    refine h _ _ fun k => ?_
    show withK (oIndexAddr t x i E T s) m k = _
    unfold oIndexAddr
    rw [h1, h3, h4]
    show withK (ret1 (idxAddrK E ti.kind _ n) s) m k = _
    rw [h0]
    show withK (ret1 (bind (E.ti e) fun te => idxSl te.size _ n) s) m k = _
    rw [h2]
    show withK (ret1 (idxSl te.size v n) s) m k = _
    rw [h5]; rfl
  | ld r =>
    cases o <;> first | trivial | skip
    rename_i t a
    refine optQ fun ti h1 => optQ fun v h2 => ?_
    cases v <;> first | trivial | skip
    rename_i b off
    intro h3
    refine h _ _ fun k => ?_
    show withK (oLoad t a E T s) m k = _
    unfold oLoad
    rw [h1, h2]
    show withK (ret1 (ldB (s.heap.get b) off ti.size ti.agg) s) m k = _
    rw [h3]; rfl
  | st s1 =>
    cases o <;> first | trivial | skip
    rename_i t a x
    refine optQ fun ti h1 => optQ fun v h2 => optQ fun w h3 h4 => ?_
    refine h _ _ fun k => ?_
    show withK (oStore t a x E T s) m k = _
    unfold oStore
    rw [h1, h2, h3]
    show withK (storeV s ti.size (cellsOf w) v) m k = _
    rw [h4]; rfl
  | byt =>
    cases o <;> first | trivial | skip
    rename_i a b x
    refine boolQ fun h0 => ?_
    have hcv : cvtT a b = false := by simpa using h0
    refine optQ fun ta h1 => boolQ fun h2 => optQ fun tb h3 => boolQ fun h4 => optQ fun v h5 => ?_
    cases v <;> first | trivial | skip
    rename_i l
    intro h6
    have h6 : Nat.ble (len l) room = true := h6
    refine h _ _ fun k => ?_
    show withK (oConvert a b x E T s) m k = _
    unfold oConvert
    rw [hcv]
    show withK (oConvG a b x E T s) m k = _
    unfold oConvG
    rw [h1, h3, h5]
    show withK (convert E s ta.kind tb.kind (.str l)) m k = _
    cases h0 : tb.kind <;> rw [h0] at h4 <;> first | (cases h4; done) | skip
    show withK (boolC (strK ta.kind) none (boolC (isByteSlice E _) none (boolC (Nat.ble (len l) room) none _))) m k = _
    rw [h2, h4, h6]; rfl
  | str l =>
    cases o <;> first | trivial | skip
    rename_i a b x
    refine boolQ fun h0 => ?_
    have hcv : cvtT a b = false := by simpa using h0
    refine optQ fun ta h1 => boolQ fun h2 => optQ fun tb h3 => boolQ fun h4 => optQ fun v h5 => boolQ fun h6 h7 => ?_
    refine h _ _ fun k => ?_
    show withK (oConvert a b x E T s) m k = _
    unfold oConvert
    rw [hcv]
    show withK (oConvG a b x E T s) m k = _
    unfold oConvG
    rw [h1, h3, h5]
    show withK (convert E s ta.kind tb.kind v) m k = _
    have h8 : tb.kind = .str := by
      generalize tb.kind = kd at h4
      cases kd <;> first | rfl | (cases h4; done)
    rw [h8]
    cases v <;> first | (cases h6; done) | skip
    show withK (boolC (isByteSlice E ta.kind) none (bind (sliceCells s 1 _) fun c => strO (bytesOf c) s)) m k = _
    rw [h2]
    show withK (bind (sliceCells s 1 _) fun c => strO (bytesOf c) s) m k = _
    obtain ⟨c, h9, h10⟩ := bind_eq_some.1 h7
    rw [h9]
    show withK (strO (bytesOf c) s) m k = _
    rw [h10]; rfl
  | eqs b =>
    cases o <;> first | trivial | skip
    rename_i op t x y u
    refine optQ fun v h1 => optQ fun w h2 => ?_
    show optC _ _ _
    cases h3 : nilEq E.ti op t (isConstO x || isConstO y) v w with
    | some r => trivial
    | none =>
    show optC _ _ _
    cases h4 : binOp E.ti op t v w with
    | some r => trivial
    | none =>
    show optC _ _ _
    cases h5 : arrEq E.ti op t v w with
    | some r => trivial
    | none =>
    refine boolQ fun h6 => optQ fun ti h7 h8 => optQ fun r h9 => ?_
    refine h _ _ fun k => ?_
    show withK (oBin op t x y E T s) m k = _
    unfold oBin
    rw [h1, h2]
    show withK (ret1 (orV (nilEq E.ti op t (isConstO x || isConstO y) v w) (orV (binOp E.ti op t v w) (orV (arrEq E.ti op t v w) (strEq E op t v w)))) s) m k = _
    rw [h3, h4, h5]
    unfold strEq
    rw [h6, h7]
    show withK (ret1 (bind (eqStrK E.ti ti.kind v w) (boolOp op)) s) m k = _
    rw [h8]
    show withK (ret1 (boolOp op b) s) m k = _
    rw [h9]; rfl
  | cl v =>
    show clT rc v s s K (callTo o E T)
    cases hc : callTo o E T <;> first | trivial | skip
    intro h1
    refine h _ _ fun k => ?_
    rw [callTo_ok hc, h1]; rfl
  | cs v s1 =>
    show clT rc v s s1 K (callTo o E T)
    cases hc : callTo o E T <;> first | trivial | skip
    intro h1
    refine h _ _ fun k => ?_
    rw [callTo_ok hc, h1]; rfl
  | lp r => trivial
  | un l => trivial
theorem oneQ_ok {K : V → S → Z → Prop} (h : ∀ v s' z', (∀ k, doOp o E rc T m s k = k v m s') → K v s' z') : oneQ E rc o T s z K := by
  cases z with
  | nil => exact autoQ_ok fun v s' q => h v s' _ q
  | cons i z' =>
    obtain ⟨n, i⟩ := i
    cases n with
    | zero => exact itemQ_ok i fun v s' q => h v s' _ q
    | succ n => exact autoQ_ok fun v s' q => h v s' _ q
theorem opsQ_ok {all : List Oper} : ∀ (os : List Oper) (T : List V) (s : S) (z : Z) (k : KT), (∀ T' s' z', runOps os all E rc T m s = .norm T' m s' → k T' s' z') → opsQ E rc all os T s z k := by
  intro os
  induction os with
  | nil => intro T s z k h; exact h _ _ _ rfl
  | cons o os ih =>
    intro T s z k h
    show boolC (wantedIn all T o.guard) _ _
    cases hw : wantedIn all T o.guard with
    | false =>
      refine ih _ _ _ _ fun T' s' z' q => h _ _ _ ?_
      show boolC (wantedIn all T o.guard) _ _ = _
      rw [hw]; exact q
    | true =>
      show oneQ E rc o.op T s z (fun v s z => opsQ E rc all os (setD T o.dst v) s z k)
      refine oneQ_ok (m := m) fun v s1 z1 q => ih _ _ _ _ fun T' s' z' q' => h _ _ _ ?_
      show boolC (wantedIn all T o.guard) _ (doOp o.op E rc T m s fun v m s => runOps os all E rc (setD T o.dst v) m s) = _
      rw [hw]
      show doOp o.op E rc T m s (fun v m s => runOps os all E rc (setD T o.dst v) m s) = _
      rw [q]; exact q'
theorem eqI_refl (n : Int) : eqI n n = true := by cases n <;> exact Nat.beq_refl _
theorem same_refl : ∀ l : List Nat, same l l = true
  | [] => rfl
  | x :: l => by
    show boolC (Nat.beq x x) false (same l l) = true
    rw [show Nat.beq x x = true from Nat.beq_refl x]; exact same_refl l
theorem eqV_plain1 {v : V} (h : plain1 v = true) : eqV v v = true := by
  cases v <;> first | (cases h; done) | rfl | skip
  · rename_i b; cases b <;> rfl
  · rename_i k n
    show boolC (kindEq k k) false (eqI n n) = true
    rw [eqI_refl]; cases k <;> rfl
  · rename_i l; exact same_refl l
  · rename_i b i
    show boolC (Nat.beq b b) false (Nat.beq i i) = true
    rw [show Nat.beq b b = true from Nat.beq_refl b]; exact Nat.beq_refl i
theorem eqVs_plain : ∀ {l : List V}, plainL l = true → eqVs l l = true
  | [], _ => rfl
  | v :: l, h => by
    have h : boolC (plain1 v) false (plainL l) = true := h
    rw [boolC_and, Bool.and_eq_true] at h
    show boolC (eqV v v) false (eqVs l l) = true
    rw [eqV_plain1 h.1]; exact eqVs_plain h.2
theorem eqV_plain {v : V} (h : plainV v = true) : eqV v v = true := by
  cases v <;> first | exact eqV_plain1 h | exact eqVs_plain h
def HOk : List HE → DD → S → Prop
  | [], [], _ => True
  | h :: H, d :: D, s => (plainV h.2.2 = true ∧ (∃ s1, h.2.1 s = some (h.2.2, s1)) ∧ (∀ x, d = some x → ∀ s', (∀ b, x = some b → s'.heap.get b = s.heap.get b) → ∃ s1, h.2.1 s' = some (h.2.2, s1))) ∧ HOk H D s
  | _, _, _ => False
theorem recheck_ok {mask : Nat} : ∀ {H : List HE} {D : DD} {s : S}, HOk H D s → recheck mask s H = true
  | [], [], _, _ => rfl
  | [], _ :: _, _, h => h.elim
  | _ :: _, [], _, h => h.elim
  | x :: H, d :: D, s, h => by
    obtain ⟨⟨h1, ⟨s1, h2⟩, _⟩, h4⟩ := h
    show boolC (bit mask x.1) (boolC (stays x s) false (recheck mask s H)) (recheck mask s H) = true
    have hs : stays x s = true := by unfold stays; rw [h2]; exact eqV_plain h1
    rw [hs, recheck_ok h4]; cases bit mask x.1 <;> rfl
theorem HOk.move {c : Nat} : ∀ {H : List HE} {D : DD} {s s' : S}, HOk H D s → apartD c D = true → (∀ b, b ≠ c → s'.heap.get b = s.heap.get b) → HOk H D s'
  | [], [], _, _, _, _, _ => trivial
  | [], _ :: _, _, _, h, _, _ => h.elim
  | _ :: _, [], _, _, h, _, _ => h.elim
  | x :: H, d :: D, s, s', h, ha, hs => by
    obtain ⟨⟨h1, h2, h3⟩, h4⟩ := h
    have ha : boolC (apart1 c d) false (apartD c D) = true := ha
    rw [boolC_and, Bool.and_eq_true] at ha
    refine ⟨⟨h1, ?_, ?_⟩, h4.move ha.2 hs⟩
    all_goals
      cases d with
      | none => exact absurd ha.1 (by intro h; cases h)
      | some y =>
        have hy : ∀ b, y = some b → b ≠ c := by
          intro b hb hbc
          subst hb; subst hbc
          have h9 : boolC (Nat.beq b b) true false = true := ha.1
          rw [show Nat.beq b b = true from Nat.beq_refl b] at h9; cases h9
        first
        | exact h3 y rfl s' fun b hb => hs b (hy b hb)
        | exact fun x hx s2 h5 => h3 x hx s2 fun b hb => (h5 b hb).trans (hs b (hy b (by injection hx with hx; rw [hx]; exact hb)))
theorem store_get {s s1 : S} {b off : Nat} {vs : List V} (h : s.store b off vs = some s1) : ∀ j, j ≠ b → s1.heap.get j = s.heap.get j := by
  intro j hj
  unfold S.store at h
  cases hb : Nat.blt b s.lo with
  | true => rw [hb] at h; cases h
  | false =>
    rw [hb] at h
    have h : storeBlk s b off vs (s.heap.get b) = some s1 := h
    unfold storeBlk at h
    split at h
    · rename_i t c _
      cases hp : putN c off vs with
      | none => rw [hp] at h; cases h
      | some c' =>
        rw [hp] at h
        injection h with h
        subst h
        show (Tr.put s.heap b _).get j = _
        rw [Tr.get_put, if_neg hj]
    · cases h
theorem oStore_get {t : Nat} {a x : Operand} {c off : Nat} {p : V × S} (ha : opv E T a = some (.ptr c off)) (h : oStore t a x E T s = some p) : ∀ j, j ≠ c → p.2.heap.get j = s.heap.get j := by
  unfold oStore at h
  cases h1 : E.ti t with
  | none => rw [h1] at h; cases h
  | some ti =>
  rw [h1, ha] at h
  cases h2 : opv E T x with
  | none => rw [h2] at h; cases h
  | some v =>
  rw [h2] at h
  have h : boolC (Nat.beq (len (cellsOf v)) ti.size && oneL (cellsOf v)) none (bind (s.store c off (cellsOf v)) fun s => some (undef, s)) = some p := h
  cases h3 : (Nat.beq (len (cellsOf v)) ti.size && oneL (cellsOf v)) with
  | false => rw [h3] at h; cases h
  | true =>
  rw [h3] at h
  have h : bind (s.store c off (cellsOf v)) (fun s => some (undef, s)) = some p := h
  cases h4 : s.store c off (cellsOf v) with
  | none => rw [h4] at h; cases h
  | some s1 =>
  rw [h4] at h
  injection h with h
  subst h
  exact store_get h4
theorem pF_pln {f g : Env → List V → S → VS} (h : pF o = some f) (h' : plnF o = some g) : g = f := by
  cases o <;> first | (cases h; done) | (cases h'; done) | (injection h with h; injection h' with h'; rw [← h, ← h']; done) | skip
  case convert a b x =>
    have h : boolC (cvtT a b) none (some (oConvI a b x)) = some f := h
    cases hc : cvtT a b with
    | false => rw [hc] at h; cases h
    | true =>
      rw [hc] at h
      injection h with h
      have h' : some (oConvert a b x) = some g := h'
      injection h' with h'
      rw [← h, ← h']
      funext E T s
      unfold oConvert
      rw [hc]; rfl
  rename_i c
  obtain ⟨ce, as, ts⟩ := c
  cases ce with
  | builtin b => cases b <;> first | (cases h'; done) | (injection h with h; injection h' with h'; rw [← h, ← h'])
  | value f => cases h
  | invoke r n => cases h
theorem dep_ok {f : Env → List V → S → VS} {v : V} {s1 : S} (hf : pF o = some f) (h : f E T s = some (v, s1)) : ∀ x, depOf E o T = some x → ∀ s', (∀ b, x = some b → s'.heap.get b = s.heap.get b) → ∃ s1, f E T s' = some (v, s1) := by
  intro x hx s' hs
  cases o <;> first | (cases hx; done) | skip
  rename_i t a
  injection hf with hf
  subst hf
  have h : bind (E.ti t) (fun ti => bind (opv E T a) fun a => ret1 (load s ti a) s) = some (v, s1) := h
  show ∃ s1, bind (E.ti t) (fun ti => bind (opv E T a) fun a => ret1 (load s' ti a) s') = some (v, s1)
  have hx : bind (opv E T a) depV = some x := hx
  cases h1 : E.ti t with
  | none => rw [h1] at h; cases h
  | some ti =>
  rw [h1] at h
  cases h2 : opv E T a with
  | none => rw [h2] at hx; cases hx
  | some av =>
  rw [h2] at h hx
  have hx : depV av = some x := hx
  have h : bind (load s ti av) (fun v => some (v, s)) = some (v, s1) := h
  show ∃ s1, bind (load s' ti av) (fun v => some (v, s')) = some (v, s1)
  have e : load s' ti av = load s ti av := by
    cases av with
    | ptr b off =>
      injection hx with hx
      have := hs b hx.symm
      show ldB (s'.heap.get b) off ti.size ti.agg = ldB (s.heap.get b) off ti.size ti.agg
      rw [this]
    | lptr c => rfl
    | _ => cases hx
  rw [e]
  cases h3 : load s ti av with
  | none => rw [h3] at h; cases h
  | some w =>
    rw [h3] at h
    injection h with h
    injection h with h _
    exact ⟨s', by rw [← h]; rfl⟩
theorem do_some {f : Env → List V → S → VS} {v : V} {s1 : S} (h : ∀ k, withK (f E T s) m k = k v m s1) : f E T s = some (v, s1) := by
  have h9 := h (fun v m s => .norm [v] m s)
  cases hf : f E T s with
  | none => rw [hf] at h9; cases h9
  | some p =>
    rw [hf] at h9
    obtain ⟨v', s'⟩ := p
    injection h9 with h1 h2 h3
    injection h1 with h1 _
    have h3 : s' = s1 := h3
    have h1 : v' = v := h1
    rw [h1, h3]
theorem dQ_ok {all : List Oper} : ∀ (L : List PE) (H : List HE) (D : DD) (T : List V) (s : S) (z : Z) (k : KT), HOk H D s → (∀ T' s' z', runD E rc all L H T m s = .norm T' m s' → k T' s' z') → dQ E rc all L D T s z k := by
  intro L
  induction L with
  | nil => intro H D T s z k hH h; exact h _ _ _ rfl
  | cons e L ih =>
    intro H D T s z k hH h
    have h : ∀ T' s' z', boolC (wantedIn all T e.o.guard) (runD E rc all L H (setD T e.o.dst undef) m s) (dOne E rc all e L (runD E rc all L) H T m s) = .norm T' m s' → k T' s' z' := h
    show boolC (wantedIn all T e.o.guard) _ _
    cases hw : wantedIn all T e.o.guard with
    | false =>
      rw [hw] at h
      exact ih H D _ _ _ _ hH h
    | true =>
    rw [hw] at h
    have h : ∀ T' s' z', natC e.cls (dFix E rc all e L (runD E rc all L)) (fun c => natC c (dNew E e (runD E rc all L)) fun c => dPure E e (Nat.beq c 1) (runD E rc all L)) H T m s = .norm T' m s' → k T' s' z' := h
    show natC e.cls _ _
    cases hc : e.cls with
    | zero =>
      rw [hc] at h
      have h : ∀ T' s' z', boolC (newsOk E all e T L) .fail (doOp e.o.op E rc T m s fun v m s => boolC (recheck e.mask s H) .fail (runD E rc all L H (setD T e.o.dst v) m s)) = .norm T' m s' → k T' s' z' := h
      refine boolQ fun hn => ?_
      rw [hn] at h
      have h : ∀ T' s' z', (doOp e.o.op E rc T m s fun v m s => boolC (recheck e.mask s H) .fail (runD E rc all L H (setD T e.o.dst v) m s)) = .norm T' m s' → k T' s' z' := h
      generalize e.o.op = op at h
      cases op <;> first | trivial | skip
      case store t a x =>
        refine optQ fun av ha => ?_
        cases av <;> first | trivial | skip
        rename_i c off
        refine boolQ fun hD => optQ fun p hp => ?_
        have hH' : HOk H D p.2 := hH.move hD (oStore_get ha hp)
        refine ih H D _ _ _ _ hH' fun T' s' z' q => h T' s' z' ?_
        rw [plnF_ok (f := oStore t a x) rfl, hp]
        show boolC (recheck e.mask p.2 H) .fail (runD E rc all L H (setD T e.o.dst p.1) m p.2) = _
        rw [recheck_ok hH']; exact q
      case call c =>
        cases z with
        | nil => trivial
        | cons i z' =>
          obtain ⟨n, i⟩ := i
          cases n with
          | succ n => trivial
          | zero =>
          cases i <;> first | trivial | skip
          rename_i v
          show clD rc (.cl v) s (callTo (.call c) E T) (fun v => dQ E rc all L D (setD T e.o.dst v) s z' k)
          cases ht : callTo (.call c) E T <;> first | trivial | skip
          intro h1
          refine ih H D _ _ _ _ hH fun T' s' z' q => h T' s' z' ?_
          show doOp (.call c) E rc T m s _ = _
          rw [callTo_ok ht, h1]
          show boolC (recheck e.mask s H) .fail (runD E rc all L H (setD T e.o.dst v) m s) = _
          rw [recheck_ok hH]; exact q
    | succ c =>
      rw [hc] at h
      show natC c _ _
      cases c with
      | zero =>
        have h : ∀ T' s' z', (optC (aShape e.o.op E T) .fail fun p => optC p.1 (runD E rc all L H (setD T e.o.dst (p.2 0)) m s) fun x => runD E rc all L H (setD T e.o.dst (p.2 s.next)) m (s.new x)) = .norm T' m s' → k T' s' z' := h
        refine optQ fun p hp => ?_
        rw [hp] at h
        obtain ⟨b, g⟩ := p
        cases b with
        | none => exact ih H D _ _ _ _ hH h
        | some x =>
          refine boolQ fun hD => ih H D _ _ _ _ (hH.move hD fun j hj => ?_) h
          show (Tr.put s.heap s.next (some x)).get j = _
          rw [Tr.get_put, if_neg hj]
      | succ c =>
        have h : ∀ T' s' z', (optC (pF e.o.op) .fail fun f => optC (f E T s) .fail fun p => runD E rc all L (boolC (Nat.beq c 1) H ((e.i, f E T, p.1) :: H)) (setD T e.o.dst p.1) m s) = .norm T' m s' → k T' s' z' := h
        refine optQ fun f hf => optQ fun g hg => ?_
        have hgf := pF_pln hf hg
        subst hgf
        rw [hf] at h
        refine oneQ_ok (m := m) fun v s1 z1 q => ?_
        have hv : g E T s = some (v, s1) := do_some fun k => by rw [← plnF_ok hg]; exact q k
        have h : ∀ T' s' z', (optC (g E T s) .fail fun p => runD E rc all L (boolC (Nat.beq c 1) H ((e.i, g E T, p.1) :: H)) (setD T e.o.dst p.1) m s) = .norm T' m s' → k T' s' z' := h
        rw [hv] at h
        have h : ∀ T' s' z', runD E rc all L (boolC (Nat.beq c 1) H ((e.i, g E T, v) :: H)) (setD T e.o.dst v) m s = .norm T' m s' → k T' s' z' := h
        cases hr : Nat.beq c 1 with
        | false => rw [hr] at h; exact ih H D _ _ _ _ hH h
        | true =>
          rw [hr] at h
          refine boolQ fun hp => ih _ _ _ _ _ _ ?_ h
          exact ⟨⟨hp, ⟨s1, hv⟩, dep_ok hf hv⟩, hH⟩
theorem regQ_ok {ops : Array Oper} {d : Bool} {k : KR} (h : ∀ r z', xRegion ops d E rc T m s = r → k r z') : regQ E rc ops d T m s z k := by
  unfold regQ
  cases d with
  | false => exact opsQ_ok (m := m) _ _ _ _ _ fun T' s' z' q => h _ _ q
  | true =>
    show boolC (swpTest ops.toList) _ True
    cases hs : swpTest ops.toList with
    | true => trivial
    | false =>
      refine dQ_ok (m := m) _ [] [] _ _ _ _ trivial fun T' s' z' q => h _ _ ?_
      show boolC (swpTest ops.toList) _ _ = _
      rw [hs]; exact q
def Sound (E : Env) (c : Code) (b : CQ) : Prop := ∀ (rc : Rec) (T : List V) (m : M) (s : S) (z : Z) (k : KR), (∀ r z', exec c E rc T m s = r → k r z') → b rc T m s z k
theorem unQ_ok {c : Code} {b : CQ} (hb : Sound E c b) : ∀ l : List Rec, Sound E (.loop c) (unQ E b l) := by
  intro l
  induction l with
  | nil =>
    intro rc T m s z k h
    refine hb _ _ _ _ _ _ fun r z1 q => ?_
    have h : ∀ r z', thenK (exec c E rc T m s) (rc.lp c) = r → k r z' := h
    rw [q] at h
    cases r with
    | norm T1 m1 s1 => trivial
    | _ => exact h _ _ rfl
  | cons rc' l ih =>
    intro rc T m s z k h hrc
    refine hb _ _ _ _ _ _ fun r z1 q => ?_
    have h : ∀ r z', thenK (exec c E rc T m s) (rc.lp c) = r → k r z' := h
    rw [q] at h
    cases r with
    | norm T1 m1 s1 =>
      have h : ∀ r z', rc.lp c T1 m1 s1 = r → k r z' := h
      rw [show rc.lp c T1 m1 s1 = exec (.loop c) E rc' T1 m1 s1 from by rw [hrc]; rfl] at h
      exact ih _ _ _ _ _ _ h
    | _ => exact h _ _ rfl
theorem xQ_ok : ∀ c : Code, Sound E c (xQ E c) := by
  intro c
  induction c with
  | skip => intro rc T m s z k h; exact h _ _ rfl
  | region i ops d => intro rc T m s z k h; exact regQ_ok h
  | seq a b iha ihb =>
    intro rc T m s z k h
    refine iha _ _ _ _ _ _ fun r z1 q => ?_
    have h : ∀ r z', thenK (exec a E rc T m s) (exec b E rc) = r → k r z' := h
    rw [q] at h
    cases r with
    | norm T1 m1 s1 => exact ihb _ _ _ _ _ _ h
    | _ => exact h _ _ rfl
  | cond c a b iha ihb =>
    intro rc T m s z k h
    have h : ∀ r z', (optC (bind (opv E T c) boolOf) .fail fun t => boolC t (exec b E rc T m s) (exec a E rc T m s)) = r → k r z' := h
    refine optQ fun t ht => ?_
    rw [ht] at h
    cases t with
    | false => exact ihb _ _ _ _ _ _ h
    | true => exact iha _ _ _ _ _ _ h
  | block id b ih =>
    intro rc T m s z k h
    refine ih _ _ _ _ _ _ fun r z1 q => ?_
    have h : ∀ r z', blockK id (exec b E rc T m s) = r → k r z' := h
    rw [q] at h
    exact h _ _ rfl
  | loop c ih =>
    intro rc T m s z k h
    cases z with
    | nil => trivial
    | cons i z' =>
      obtain ⟨n, i⟩ := i
      cases n with
      | succ n => trivial
      | zero =>
      cases i <;> first | trivial | skip
      · intro hl
        exact h _ _ hl
      · exact unQ_ok ih _ _ _ _ _ _ _ h
  | rangeFunc g ps a b iha ihb => intro rc T m s z k h; trivial
  | exit id => intro rc T m s z k h; exact h _ _ rfl
  | scope b ih => intro rc T m s z k h; exact ih _ _ _ _ _ _ h
  | label l => intro rc T m s z k h; exact h _ _ rfl
  | goto l => intro rc T m s z k h; trivial
  | ret => intro rc T m s z k h; exact h _ _ rfl
  | refuse w => intro rc T m s z k h; trivial
end
end
end Go.AM
end
section
namespace Go.AM
open Go
noncomputable section
abbrev Con := Nat × List V × Option S × V
def okS (o : Option S) (s : S) : Prop := match o with | none => True | some t => s = t
inductive TJ where
  | con (j : Nat)
  | opq (l : List (Nat × Nat))
  | val (j : Nat)
  | fix (l : List (Nat × Nat))
  | pre (j : Nat) (v : V) (s1 : S)
inductive EQ where
  | eq (a b : V)
  | pr (P : Prop)
def EQ.Holds (q : EQ) : Prop := match q with | .eq a b => a = b | .pr P => P
abbrev ZJ := List (Nat × TJ)
inductive Chg where
  | same
  | blk (b : Nat)
  | any
def plnJ (o : Op) : Option (Env → List V → S → VS) := match o with
  | .move x => some (oMove x)
  | .assign x => some (oMove x)
  | .pick c a b => some (oPick c a b)
  | .alloc t => some (oAlloc t)
  | .box t x => some (oBox t x)
  | .build t ps => some (oBuild t ps)
  | .buildSlice t n ps => some (oBuildSlice t n ps)
  | .load t a => some (oLoad t a)
  | .store t a x => some (oStore t a x)
  | .nilCheck x => some (oNilCheck x)
  | .binOp op t x y _ => some (oBin op t x y)
  | .unOp op _ x => some (oUn op x)
  | .convert a b x => some (oConvert a b x)
  | .makeInterface t x => some (oMakeIface t x)
  | .makeFunc f a c => some (oMakeFunc f a c)
  | .makeMap _ r => some (oMakeMap r)
  | .makeSlice t l c => some (oMakeSlice t l c)
  | .slice t x lo hi mx => some (oSlice t x lo hi mx)
  | .fieldAddr t x f => some (oFieldAddr t x f)
  | .field t x f => some (oField t x f)
  | .indexAddr t x i => some (oIndexAddr t x i)
  | .index t x i => some (oIndex t x i)
  | .lookup t m k ok => some (oLookup t m k ok)
  | .mapUpdate t m k x => some (oMapUpdate t m k x)
  | .insert t m k x => some (oMapUpdate t m k x)
  | .range t x => some (oRange t x)
  | .next it str => some (oNext it str)
  | .entry it => some (oEntry it)
  | .typeAssert x _ t ok => some (oAssert x t ok)
  | .extract x i => some (oExtract x i)
  | .call c => match c.callee with
    | .builtin b => match b with
      | .recover => none
      | b => some (oBuiltin b c.args c.argTypes)
    | _ => none
  | _ => none
def callToJ (c : Call) (E : Env) (T : List V) : Tgt := match c.callee with
  | .value f => (match f with
    | .func g => optC (opvs E T c.args.toList) .no fun a => .f g a
    | f => optC (opv E T f) .no fun g => optC (opvs E T c.args.toList) .no fun a => target E g a)
  | .invoke r n => optC (methV n (opv E T r)) .no fun g => optC (opvs E T c.args.toList) .no fun a => target E g a
  | .builtin _ => .no
def isRecover (c : Call) : Bool := match c.callee with | .builtin b => (match b with | .recover => true | _ => false) | _ => false
def chgOf (o : Op) (E : Env) (T : List V) : Chg := match o with
  | .store _ a _ => optC (opv E T a) .any fun v => match v with | .ptr b _ => .blk b | _ => .any
  | _ => .any
abbrev KO := V → M → S → ZJ → Chg → Prop
abbrev KJ := R → ZJ → Prop
abbrev KC := CR → ZJ → Prop
structure Lo where
  code : Code → List V → M → S → ZJ → KJ → Prop
  body : Nat → List V → Bool → Option V → S → ZJ → KC → Prop
def tickJ (z : ZJ) : ZJ := listC z [] fun i z' => natC i.1 z fun n => (n, i.2) :: z'
def opqL (ds : List V) (l : List (Nat × Nat)) (c : List V) (n : Nat) (K : Prop) : Prop := List.rec (motive := fun _ => Nat → List (Nat × Nat) → Prop)
  (fun _ l => listC l K fun _ _ => True)
  (fun v _ ih n l => listC l (boolC (oneV v) True (ih (n + 1) l)) fun p l' => boolC (Nat.beq p.1 n) (boolC (oneV v) True (ih (n + 1) l)) (optC (nth ds p.2) True fun d => (v = d → ih (n + 1) l'))) c n l
section
variable (E : Env) (cs : List Con) (ds : List V) (es : List EQ) (lo : Lo)
def putJ (s : S) (b off : Nat) (vs : List V) (K : S → Prop) : Prop := boolC (Nat.blt b s.lo) (optC (storeBlk s b off vs (s.heap.get b)) True K) True
def appK (te : TyI) (t n m b off : Nat) (k : Option Nat) (s : S) (new : List V) (K : V → S → Prop) (old : List V) : Prop := boolC (isClip k n) (boolC (Nat.blt b s.lo) (boolC (isOwn (s.heap.get b))
    True
    (optC (freshRow (s.drop b) (boolC (Nat.beq off 0) 0 (meetT t (tyB (s.heap.get b)))) (n + m) te.size old new) True fun p => K p.1 p.2)) True) True
def appV (te : TyI) (t m : Nat) (s : S) (new : List V) (x : V) (K : V → S → Prop) : Prop := match x with
  | .sl b off n z k => boolC (Nat.beq z te.size) True (optC (sliceCells s te.size (.sl b off n te.size k)) True (appK te t n m b off k s new K))
  | _ => True
def opqJ (l : List (Nat × Nat)) (o : Op) (T : List V) (s : S) (K : V → S → Prop) : Prop := match o with
  | .store t a x => optC (E.ti t) True fun ti => optC (opv E T a) True fun a => ptrQ2 a fun b off => optC (opv E T x) True fun v => boolC (Nat.beq (len (cellsOf v)) ti.size) True (opqL ds l (cellsOf v) 0 (putJ s b off (cellsOf v) fun s' => K undef s'))
  | .call c => (match c.callee with
    | .builtin b => (match b with
      | .append => listC c.argTypes.toList True fun t ats => listC ats True fun u _ => optC (opvs E T c.args.toList) True fun vs => listC vs True fun x vs => listC vs True fun y _ =>
          optC (elemTi E t) True fun te => optC (E.ti u) True fun tu => boolC (isIntK tu.kind) (optC (lenSl x) True fun n => optC (sliceLen y) True fun m => natC m True fun m' =>
            boolC (Nat.ble (n + (m' + 1)) maxInt && Nat.ble ((n + (m' + 1)) * te.bytes) room) True (optC (sliceCells s te.size y) True fun new => opqL ds l new 0 (appV te (elemE E t) (m' + 1) s new x K))) True
      | _ => True)
    | _ => True)
  | _ => True
where ptrQ2 (v : V) (F : Nat → Nat → Prop) : Prop := match v with | .ptr b off => F b off | _ => True
def conJ (j : Nat) (f : Nat) (a : List V) (s : S) (z : ZJ) (K : KC) : Prop := optC (nth cs j) True fun c => boolC (Nat.beq c.1 f) True (optC c.2.2.1 (a = c.2.1 → K (.ret c.2.2.2 s false) z) fun t => (a = c.2.1 → s = t → K (.ret c.2.2.2 s false) z))
def modeJ (f : Nat) (a : List V) (s : S) (z : ZJ) (K : KC) (md : Mode) : Prop := match md with
  | .N => lo.body f a false none s z K
  | .R => lo.body f a false none { s with lo := s.next } z fun r z => K (backR (live s.heap) s r) z
  | .E => optC (rsvL (rsvN s.heap noBlk deep false) a) True fun as => lo.body f as false none s0 z fun r z => K (frozenE s.heap a s (backR noBlk s r)) z
def callJ (f : Nat) (a : List V) (s : S) (z : ZJ) (K : KC) : Prop := optC (E.ov f) (modeJ lo f a s z K (E.mode f)) fun h => K (h a s) z
def calledJ (T : List V) (m : M) (ch : Chg) (k : KO) (kp : KJ) (r : CR) (z : ZJ) : Prop := match r with
  | .ret v s _ => k v m s z ch
  | .pan v s _ => kp (.pan v T m s) z
  | .fail => True
def roundEndJ (l : Nat) (m : M) (k : KO) (r : R) (z : ZJ) : Prop := optC (jumpOf r) True fun j => optC (endedB j ((memOf r).heap.get l)) True fun x => k (.bool (isNone j)) m ((memOf r).put l x) z .any
def roundJ (l : Nat) (body : Code) (m : M) (k : KO) (r : R) (z : ZJ) : Prop := match r with
  | .norm T1 m1 s => optC (begunB (s.heap.get l)) True fun x => lo.code body T1 m1 (s.put l x) z (roundEndJ l m k)
  | _ => True
def yieldJ (l : Nat) (args : List V) (b : Option B) (m : M) (s : S) (z : ZJ) (k : KO) : Prop := match b with
  | some (.loop 0 _ _ _ tmps ps assign body) => boolC (Nat.blt l s.lo) (optC (setAll tmps ps args) True fun T0 => lo.code assign T0 (roundM l) s z (roundJ lo l body m k)) True
  | _ => True
def chgF (f : Nat) : Chg := optC (E.ov f) (match E.mode f with | .R => .same | _ => .any) fun _ => .any
def invJ (T : List V) (m : M) (s : S) (z : ZJ) (k : KO) (kp : KJ) (t : Tgt) : Prop := match t with
  | .f f a => callJ E lo f a s z (calledJ T m (chgF E f) k kp)
  | .y l a => yieldJ lo l a (s.heap.get l) m s z k
  | .no => True
def recoverJ (m : M) (s : S) (z : ZJ) (k : KO) : Prop := optC m.rnd (boolC m.dk True (boolC m.rd (optC m.rc (k .nili m s z .any) fun v => k v { m with rd := true } s z .any) True)) fun _ => True
def deferVJ (v : V) (args : List V) (m : M) (s : S) (z : ZJ) (k : KO) : Prop := match v with | .fn f a c => boolC (notYield f) True (k undef { m with df := .fn f (app a args) c :: m.df } s z .any) | _ => True
def deferJ (c : Call) (T : List V) (m : M) (s : S) (z : ZJ) (k : KO) : Prop := match c.callee with
  | .value f => optC m.rnd (boolC m.dk (optC (opv E T f) True fun g => optC (opvs E T c.args.toList) True fun args => deferVJ g args m s z k) True) fun _ => True
  | _ => True
def panicJ (x : Operand) (T : List V) (m : M) (s : S) (z : ZJ) (kp : KJ) : Prop := optC (opv E T x) True fun v => match v with | .iface t w => kp (.pan (.iface t w) T m s) z | _ => True
def specJ (o : Op) (T : List V) (m : M) (s : S) (z : ZJ) (k : KO) (kp : KJ) : Prop := match o with
  | .call c => boolC (isRecover c) (invJ E lo T m s z k kp (callToJ c E T)) (recoverJ m s z k)
  | .defer c => deferJ E c T m s z k
  | .panic x => panicJ E x T m s z kp
  | _ => True
def autoJ (o : Op) (T : List V) (m : M) (s : S) (z : ZJ) (k : KO) (kp : KJ) : Prop := optC (plnJ o) (specJ E lo o T m s z k kp) fun f => optC (f E T s) True fun p => k p.1 m p.2 z (chgOf o E T)
def conT (j : Nat) (T : List V) (m : M) (s : S) (z : ZJ) (k : KO) (kp : KJ) (t : Tgt) : Prop := match t with
  | .f f a => conJ cs j f a s z (calledJ T m .same k kp)
  | _ => True
def itemJ (i : TJ) (o : Op) (T : List V) (m : M) (s : S) (z : ZJ) (k : KO) (kp : KJ) : Prop := match i with
  | .con j => (match o with
    | .call c => conT cs j T m s z k kp (callToJ c E T)
    | _ => True)
  | .opq l => opqJ E ds l o T s fun v s => k v m s z (chgOf o E T)
  | .val j => optC (nth es j) True fun q => match q with
    | .eq a b => optC (plnJ o) True fun f => optC (f E T s) True fun p => (p.1 = a → k b m p.2 z (chgOf o E T))
    | .pr _ => True
  | .fix _ => True
  | .pre j v s1 => optC (plnJ o) True fun f => ((f E T s = some (v, s1)) → k v m s1 z (chgOf o E T))
def opJ (o : Op) (T : List V) (m : M) (s : S) (z : ZJ) (k : KO) (kp : KJ) : Prop :=
  listC z (autoJ E lo o T m s [] k kp) fun i z' => natC i.1 (itemJ E cs ds es i.2 o T m s z' k kp) fun n => autoJ E lo o T m s ((n, i.2) :: z') k kp
def opsJ (all os : List Oper) : List V → M → S → ZJ → KJ → Prop := List.rec (motive := fun _ => List V → M → S → ZJ → KJ → Prop) (fun T m s z k => k (.norm T m s) z)
  (fun o _ ih T m s z k => boolC (wantedIn all T o.guard) (ih (setD T o.dst undef) m s z k) (opJ E cs ds es lo o.op T m s z (fun v m s z _ => ih (setD T o.dst v) m s z k) k)) os
structure HJ where
  i : Nat
  f : S → VS
  v : V
  ok : Bool
  dep : Option (Option Nat)
def keepB (ch : Chg) (d : Option (Option Nat)) : Bool := match ch with
  | .same => true
  | .blk c => apart1 c d
  | .any => optC d false fun x => optC x true fun _ => false
def moveH (ch : Chg) (H : List HJ) : List HJ := mapL (fun h => { h with ok := boolC h.ok false (keepB ch h.dep) }) H
def stays1 (s : S) (h : HJ) : Bool := optC (h.f s) false fun p => eqV p.1 h.v
def recheckJ (mask : Nat) (s : S) (H : List HJ) : Bool := List.rec (motive := fun _ => Bool) true (fun h _ ih => boolC (bit mask h.i) (boolC h.ok (boolC (stays1 s h) false ih) ih) ih) H
def assocN (l : List (Nat × Nat)) (i : Nat) : Option Nat := List.rec (motive := fun _ => Option Nat) none (fun p _ ih => boolC (Nat.beq p.1 i) ih (some p.2)) l
def againJ (l : List (Nat × Nat)) (mask : Nat) (s : S) (H : List HJ) (K : List HJ → Prop) : Prop := List.rec (motive := fun _ => (List HJ → Prop) → Prop) (fun K => K [])
  (fun h _ ih K => boolC (bit mask h.i)
    (optC (assocN l h.i) (boolC h.ok (boolC (stays1 s h) True (ih fun H => K (h :: H))) (ih fun H => K (h :: H)))
      fun j => optC (nth es j) True fun q => match q with
        | .eq a _ => optC (h.f s) True fun p => (p.1 = a → h.v = a → ih fun H => K ({ h with ok := true } :: H))
        | .pr _ => True)
    (ih fun H => K (h :: H))) H K
def fixJ (mask : Nat) (s : S) (z : ZJ) (H : List HJ) (K : List HJ → ZJ → Prop) : Prop := listC z (boolC (recheckJ mask s H) True (K H [])) fun i z' => natC i.1 (fixI mask s H K i.2 z') fun n => boolC (recheckJ mask s H) True (K H ((n, i.2) :: z'))
where fixI (mask : Nat) (s : S) (H : List HJ) (K : List HJ → ZJ → Prop) (i : TJ) (z' : ZJ) : Prop := match i with
  | .fix l => againJ es l mask s H fun H => K H z'
  | _ => True
def newJ (o : Op) (T : List V) (s : S) (k : V → S → Chg → Prop) : Prop := optC (aShape o E T) True fun p => optC p.1 (k (p.2 0) s .same) fun x => k (p.2 s.next) (s.new x) (.blk s.next)
def valP (i : TJ) (z : ZJ) (f : S → VS) (s : S) (k : (S → VS) → V → ZJ → Prop) : Prop := match i with
  | .val j => optC (nth es j) True fun q => match q with
    | .eq a b => optC (f s) True fun p => (p.1 = a → k f b z)
    | .pr _ => True
  | .pre j v s1 => ((f s = some (v, s1)) → k f v z)
  | _ => True
def pureJ (o : Op) (T : List V) (s : S) (z : ZJ) (k : (S → VS) → V → ZJ → Prop) : Prop := optC (pF o) True fun f =>
  listC z (optC (f E T s) True fun p => k (f E T) p.1 []) fun i z' => natC i.1 (valP es i.2 z' (f E T) s k) fun n => optC (f E T s) True fun p => k (f E T) p.1 ((n, i.2) :: z')
def dJ (all : List Oper) (L : List PE) : List HJ → List V → M → S → ZJ → KJ → Prop := List.rec (motive := fun _ => List HJ → List V → M → S → ZJ → KJ → Prop) (fun _ T m s z k => k (.norm T m s) z)
  (fun e L ih H T m s z k => boolC (wantedIn all T e.o.guard) (ih H (setD T e.o.dst undef) m s z k)
    (natC e.cls (boolC (newsOk E all e T L) True (opJ E cs ds es lo e.o.op T m s z (fun v m s z ch => fixJ es e.mask s z (moveH ch H) fun H' z => ih H' (setD T e.o.dst v) m s z k) k))
      fun c => natC c (newJ E e.o.op T s fun v s ch => ih (moveH ch H) (setD T e.o.dst v) m s (tickJ z) k) fun c =>
        pureJ E es e.o.op T s z fun f v z => ih (boolC (Nat.beq c 1) H (⟨e.i, f, v, true, depOf e.o.op E T⟩ :: H)) (setD T e.o.dst v) m s z k)) L
where depOf (o : Op) (E : Env) (T : List V) : Option (Option Nat) := match o with
  | .load _ a => bind (opv E T a) depV
  | _ => none
def normJ (k : List V → M → S → ZJ → Prop) (r : R) (z : ZJ) : Prop := match r with
  | .norm T m s => k T m s z
  | _ => True
def swpJ (os : List Oper) (T : List V) (m : M) (s : S) (z : ZJ) (k : KJ) : Prop := opsJ E cs ds es lo os (takeB (len os - 2) os) T m s z (normJ fun T m s z => boolC (apartL E T (dropN (len os - 2) os)) True (opsJ E cs ds es lo os (dropN (len os - 2) os) T m s z (normJ fun T m s z => k (.norm T m s) z)))
def regJ (ops : Array Oper) (d : Bool) (T : List V) (m : M) (s : S) (z : ZJ) (k : KJ) : Prop := boolC d (opsJ E cs ds es lo ops.toList ops.toList T m s z k)
  (boolC (swpTest ops.toList) (dJ E cs ds es lo ops.toList (planOf ops.toList) [] T m s z k) (swpJ E cs ds es lo ops.toList T m s z k))
abbrev CJ := List V → M → S → ZJ → KJ → Prop
def seqJ (b : CJ) (k : KJ) (r : R) (z : ZJ) : Prop := match r with
  | .norm T m s => b T m s z k
  | r => k r z
def afterJ (b : Option B) (l : Nat) (T : List V) (m : M) (s : S) (z : ZJ) (k : KJ) : Prop := match b with
  | some (.loop st pend mk fn tmps ps a b) => boolC (Nat.beq st 1) (optC pend (k (.norm T m (s.put l (.loop 3 pend mk fn tmps ps a b))) z) fun c => lo.code c T m (s.put l (.loop 3 pend mk fn tmps ps a b)) z k) True
  | _ => True
def rangeEndJ (l : Nat) (T : List V) (m : M) (k : KJ) (r : CR) (z : ZJ) : Prop := match r with
  | .ret _ s _ => afterJ lo (s.heap.get l) l T m s z k
  | .pan v s _ => k (.pan v T m s) z
  | .fail => True
def rangeCallJ (t : Tgt) (l : Nat) (T : List V) (m : M) (s : S) (z : ZJ) (k : KJ) : Prop := match t with
  | .f f a => callJ E lo f a s z (rangeEndJ lo l T m k)
  | _ => True
def rangeJ (g : V) (ps : List Nat) (assign body : Code) (T : List V) (m : M) (s : S) (z : ZJ) (k : KJ) : Prop := optC m.rnd
  (rangeCallJ E lo (target E g [yieldV (s.next + 1)]) (s.next + 1) T { m with df := .map s.next :: m.df } ((s.new .mark).new (.loop 0 none s.next 0 T ps assign body)) z k)
  (fun l => optC (loopMk (s.heap.get l)) True fun mk => rangeCallJ E lo (target E g [yieldV s.next]) s.next T m (s.new (.loop 0 none mk 0 T ps assign body)) z k)
def xJ (c : Code) : CJ := Code.rec (motive := fun _ => CJ)
  (skip := fun T m s z k => k (.norm T m s) z) (region := fun _ ops d T m s z k => regJ E cs ds es lo ops d T m s z k) (seq := fun _ _ a b T m s z k => a T m s z (seqJ b k))
  (cond := fun c _ _ a b T m s z k => optC (bind (opv E T c) boolOf) True fun t => boolC t (b T m s z k) (a T m s z k)) (block := fun id _ b T m s z k => b T m s z fun r z => k (blockK id r) z)
  (loop := fun c b T m s z k => b T m s z (seqJ (lo.code (.loop c)) k)) (rangeFunc := fun g ps a b _ _ T m s z k => optC (opv E T g) True fun g => rangeJ E lo g ps.toList a b T m s z k) (exit := fun id T m s z k => k (.exit id T m s) z)
  (scope := fun _ b => b) (label := fun _ T m s z k => k (.norm T m s) z) (goto := fun _ _ _ _ _ _ => True) (ret := fun T m s z k => k (.ret T m s) z) (refuse := fun _ _ _ _ _ _ => True) c
abbrev LJ := Func → List V → Option V → Bool → S → ZJ → KC → Prop
def leaveTJ (pan : Option V) (s : S) (z : ZJ) (k : Option V → S → ZJ → Prop) (t : Tgt) : Prop := match t with
  | .f g args => lo.body g args true pan s z fun r z => match r with
    | .ret _ s rd => k (boolC rd pan none) s z
    | _ => True
  | _ => True
def leave1J (d : V) (ih : LJ) : LJ := fun fn T pan rd s z K => match d with
  | .map b => boolC (Nat.blt b s.lo) (boolC (blkMark (s.heap.get b)) True (ih fn T pan rd (s.drop b) z K)) True
  | d => leaveTJ lo pan s z (fun p s z => ih fn T p rd s z K) (target E d [])
def leaveJ (l : List V) : LJ := List.rec (motive := fun _ => LJ) (fun fn T pan rd s z K => K (leaveNil E rec0 fn T pan rd s) z) (fun d _ ih => leave1J E lo d ih) l
def endJ (fn : Func) (K : KC) (r : R) (z : ZJ) : Prop := match r with
  | .norm T m s => leaveJ E lo m.df fn T none m.rd s z K
  | .ret T m s => leaveJ E lo m.df fn T none m.rd s z K
  | .pan v T m s => leaveJ E lo m.df fn T (some v) m.rd s z K
  | _ => True
def bodyJ (f : Nat) (args : List V) (dk : Bool) (p : Option V) (s : S) (z : ZJ) (K : KC) : Prop := optC (E.fn f) True fun fn => optC fn.body True fun c => xJ E cs ds es lo c (frame0 fn args) (bodyM dk p) s z (endJ E lo fn K)
end
def lo0 : Lo := ⟨fun _ _ _ _ _ _ => True, fun _ _ _ _ _ _ _ => True⟩
def loN (E : Env) (cs : List Con) (ds : List V) (es : List EQ) (n : Nat) : Lo := Nat.rec (motive := fun _ => Lo) lo0 (fun _ ih => ⟨fun c => xJ E cs ds es ih c, fun f => bodyJ E cs ds es ih f⟩) n
section
variable {E : Env} {cs : List Con} {ds : List V} {es : List EQ} {lo : Lo} {rc : Rec} {o : Op} {T : List V} {m : M} {s : S} {z : ZJ}
def ChgOk (ch : Chg) (s s' : S) : Prop := match ch with
  | .same => s' = s
  | .blk c => ∀ b, b ≠ c → s'.heap.get b = s.heap.get b
  | .any => True
structure Under (E : Env) (cs : List Con) (lo : Lo) (rc : Rec) : Prop where
  lp : ∀ c T m s z k, (∀ r z', rc.lp c T m s = r → k r z') → lo.code (.loop c) T m s z k
  ex : ∀ c T m s z k, (∀ r z', rc.ex c T m s = r → k r z') → lo.code c T m s z k
  body : ∀ f a dk p s z k, (∀ r z', rc.body f a dk p s = r → k r z') → lo.body f a dk p s z k
  call : ∀ f a s z k, (∀ r z', rc.call f a s = r → k r z') → callJ E lo f a s z k
  same : ∀ f a s v s' rd, rc.call f a s = .ret v s' rd → ChgOk (chgF E f) s s'
  con : ∀ c ∈ cs, ∀ s, okS c.2.2.1 s → rc.call c.1 c.2.1 s = .ret c.2.2.2 s false
theorem plnJ_ok {f : Env → List V → S → VS} (h : plnJ o = some f) (k : K) : doOp o E rc T m s k = withK (f E T s) m k := by
  cases o <;> first | (cases h; done) | (injection h with h; subst h; rfl) | skip
  rename_i c
  obtain ⟨ce, as, ts⟩ := c
  cases ce with
  | builtin b => cases b <;> first | (cases h; done) | (injection h with h; subst h; rfl)
  | value f => cases h
  | invoke r n => cases h
theorem nth_memJ {α : Type} {x : α} : ∀ {l : List α} {n : Nat}, nth l n = some x → x ∈ l
  | [], _, h => by cases h
  | y :: l, 0, h => by injection h with h; rw [h]; exact List.mem_cons_self ..
  | y :: l, n + 1, h => List.mem_cons_of_mem _ (nth_memJ (l := l) (n := n) h)
theorem callV_tgt {g : Option V} {a : Option (List V)} {t : Tgt} (h : (optC g Tgt.no fun g => optC a .no fun a => target E g a) = t) (ht : t ≠ .no) (k : K) : callV E rc g a T m s k = invokeK rc t T m s k := by
  unfold callV
  cases g with
  | none => exact absurd h.symm ht
  | some g =>
    cases a with
    | none => exact absurd h.symm ht
    | some a => rw [← h]; rfl
theorem callToJ_ok {c : Call} {t : Tgt} (h : callToJ c E T = t) (ht : t ≠ .no) (k : K) : doOp (.call c) E rc T m s k = invokeK rc t T m s k := by
  obtain ⟨ce, as, ts⟩ := c
  cases ce with
  | builtin b => exact absurd h.symm ht
  | invoke r n => exact callV_tgt h ht k
  | value f =>
    cases f with
    | func g =>
      have h : (optC (opvs E T as.toList) Tgt.no fun a => .f g a) = t := h
      show (optC (opvs E T as.toList) .fail fun args => calledK (rc.call g args s) T m k) = _
      cases h2 : opvs E T as.toList with
      | none => rw [h2] at h; exact absurd h.symm ht
      | some w => rw [h2] at h; rw [← h]; rfl
    | tmp t => exact callV_tgt h ht k
    | const v => exact callV_tgt h ht k
    | global g => exact callV_tgt h ht k
mutual
theorem eqV_refl : ∀ v : V, eqV v v = true
  | .bool b => by cases b <;> rfl
  | .int k n => by
    show boolC (kindEq k k) false (eqI n n) = true
    have h1 : kindEq k k = true := by cases k <;> rfl
    rw [h1]
    cases n with
    | ofNat n => exact Nat.beq_refl n
    | negSucc n => exact Nat.beq_refl n
  | .str l => same_refl' l
  | .nilp => rfl
  | .ptr b i => by
    show boolC (Nat.beq b b) false (Nat.beq i i) = true
    rw [show Nat.beq b b = true from Nat.beq_refl b]; exact Nat.beq_refl i
  | .lptr c => eqVs_refl c
  | .nils => rfl
  | .sl a i n z c => by
    show boolC (Nat.beq a a) false (boolC (Nat.beq i i) false (boolC (Nat.beq n n) false (boolC (Nat.beq z z) false (eqO c c)))) = true
    rw [show Nat.beq a a = true from Nat.beq_refl a, show Nat.beq i i = true from Nat.beq_refl i, show Nat.beq n n = true from Nat.beq_refl n, show Nat.beq z z = true from Nat.beq_refl z]
    cases c with
    | none => rfl
    | some c => exact Nat.beq_refl c
  | .lsl c n e => by
    show boolC (Nat.beq n n) false (boolC (beqB e e) false (eqVs c c)) = true
    rw [show Nat.beq n n = true from Nat.beq_refl n, eqVs_refl c]
    cases e <;> rfl
  | .nilm => rfl
  | .map a => Nat.beq_refl a
  | .fn f a c => by
    show boolC (eqFn f f) false (boolC (eqVs a a) false (eqVs c c)) = true
    have h1 : eqFn f f = true := by cases f <;> first | exact decide_eq_true rfl | exact Nat.beq_refl _
    rw [h1, eqVs_refl a, eqVs_refl c]; rfl
  | .nilf => rfl
  | .iface t v => by
    show boolC (Nat.beq t t) false (eqV v v) = true
    rw [show Nat.beq t t = true from Nat.beq_refl t, eqV_refl v]; rfl
  | .nili => rfl
  | .agg c => eqVs_refl c
  | .tup c => eqVs_refl c
theorem eqVs_refl : ∀ l : List V, eqVs l l = true
  | [] => rfl
  | v :: l => by
    show boolC (eqV v v) false (eqVs l l) = true
    rw [eqV_refl v, eqVs_refl l]; rfl
theorem same_refl' : ∀ l : List Nat, same l l = true
  | [] => rfl
  | n :: l => by
    show boolC (Nat.beq n n) false (same l l) = true
    rw [show Nat.beq n n = true from Nat.beq_refl n, same_refl' l]; rfl
end
theorem chgOf_ok {f : Env → List V → S → VS} (h : plnJ o = some f) {p : V × S} (hp : f E T s = some p) : ChgOk (chgOf o E T) s p.2 := by
  cases o <;> first | trivial | skip
  rename_i t a x
  injection h with h
  subst h
  show ChgOk (optC (opv E T a) .any _) s p.2
  cases h1 : opv E T a with
  | none => trivial
  | some v =>
    cases v <;> first | trivial | skip
    exact oStore_get h1 hp
theorem opqL_ok (hd : ∀ d ∈ ds, oneV d = true) {P : Prop} : ∀ (c : List V) (n : Nat) (l : List (Nat × Nat)), (oneL c = true → P) → opqL ds l c n P
  | [], n, l, h => by
    cases l with
    | nil => exact h rfl
    | cons _ _ => trivial
  | v :: c, n, l, h => by
    have go : oneV v = true → oneL c = true → P := fun h1 h2 => h (by show boolC (oneV v) false (oneL c) = true; rw [h1]; exact h2)
    cases l with
    | nil => exact boolQ fun h1 => opqL_ok hd c (n + 1) [] (go h1)
    | cons p l =>
      show boolC (Nat.beq p.1 n) (boolC (oneV v) True _) (optC (nth ds p.2) True _)
      cases Nat.beq p.1 n with
      | false => exact boolQ fun h1 => opqL_ok hd c (n + 1) (p :: l) (go h1)
      | true => exact optQ fun d h2 hv => opqL_ok hd c (n + 1) l (go (by rw [hv]; exact hd d (nth_memJ h2)))
theorem opqJ_ok (hd : ∀ d ∈ ds, oneV d = true) {l : List (Nat × Nat)} {K : V → S → Prop} (h : ∀ v s', ChgOk (chgOf o E T) s s' → (∀ k, doOp o E rc T m s k = k v m s') → K v s') : opqJ E ds l o T s K := by
  cases o <;> first | trivial | skip
  case store t a x =>
    refine optQ fun ti h1 => optQ fun av h2 => ?_
    cases av <;> first | trivial | skip
    rename_i b off
    refine optQ fun v h3 => boolQ fun h4 => opqL_ok hd _ _ _ fun h5 => ?_
    show boolC (Nat.blt b s.lo) (optC (storeBlk s b off (cellsOf v) (s.heap.get b)) True _) True
    cases h6 : Nat.blt b s.lo with
    | true => trivial
    | false =>
    refine optQ fun s' h7 => ?_
    have : oStore t a x E T s = some (undef, s') := by
      unfold oStore
      rw [h1, h2]
      show bind (opv E T x) (fun v => storeV s ti.size (cellsOf v) (.ptr b off)) = _
      rw [h3]
      show boolC (Nat.beq (len (cellsOf v)) ti.size && oneL (cellsOf v)) none (bind (s.store b off (cellsOf v)) fun s => some (undef, s)) = _
      rw [h4, h5]
      show bind (boolC (Nat.blt b s.lo) (storeBlk s b off (cellsOf v) (s.heap.get b)) none) _ = _
      rw [h6]
      show bind (storeBlk s b off (cellsOf v) (s.heap.get b)) _ = _
      rw [h7]; rfl
    refine h _ _ (chgOf_ok (o := .store t a x) rfl this) fun k => ?_
    rw [plnJ_ok (f := oStore t a x) rfl, this]; rfl
  case call c =>
    obtain ⟨ce, as, ts⟩ := c
    cases ce <;> first | trivial | skip
    rename_i b
    cases b <;> first | trivial | skip
    show listC ts.toList True _
    cases hts : ts.toList with
    | nil => trivial
    | cons t ats =>
    cases ats with
    | nil => trivial
    | cons u ats =>
    refine optQ fun vs hvs => ?_
    cases vs with
    | nil => trivial
    | cons x vs =>
    cases vs with
    | nil => trivial
    | cons y vs =>
    refine optQ fun te h1 => optQ fun tu h2 => ?_
    cases h3 : isIntK tu.kind with
    | true => trivial
    | false =>
    refine optQ fun n h4 => optQ fun m' h5 => ?_
    cases m' with
    | zero => trivial
    | succ m' =>
    refine boolQ fun h6 => optQ fun new h7 => opqL_ok hd _ _ _ fun h8 => ?_
    cases x <;> first | trivial | skip
    rename_i b off n' z k'
    injection h4 with h4
    subst h4
    refine boolQ fun h9 => optQ fun old h10 => ?_
    show boolC (isClip k' n') (boolC (Nat.blt b s.lo) (boolC (isOwn (s.heap.get b)) True (optC _ True _)) True) True
    cases h11 : isClip k' n' with
    | true => trivial
    | false =>
    cases h12 : Nat.blt b s.lo with
    | true => trivial
    | false =>
    refine boolQ fun h13 => optQ fun p h14 => h _ _ trivial fun k => ?_
    rw [plnJ_ok (f := oBuiltin .append as ts) rfl]
    have : oBuiltin .append as ts E T s = some p := by
      unfold oBuiltin
      rw [hvs]
      show builtin E s .append ts.toList (.sl b off n' z k' :: y :: vs) = _
      rw [hts]
      show bAppend E s t u (.sl b off n' z k') y = _
      unfold bAppend
      rw [h1]
      show bind (E.ti u) (fun tu => boolC (isIntK tu.kind) (append s (elemE E t) te.size te.bytes (.sl b off n' z k') y) _) = _
      rw [h2]
      show boolC (isIntK tu.kind) (append s (elemE E t) te.size te.bytes (.sl b off n' z k') y) _ = _
      rw [h3]
      show bind (sliceLen y) (fun m => natC m (some (.sl b off n' z k', s)) fun m' => boolC (Nat.ble (n' + (m' + 1)) maxInt && Nat.ble ((n' + (m' + 1)) * te.bytes) room) none (bind (sliceCells s te.size y) fun new => appendTo s (elemE E t) te.size (.sl b off n' z k') (m' + 1) new)) = _
      rw [h5]
      show boolC (Nat.ble (n' + (m' + 1)) maxInt && Nat.ble ((n' + (m' + 1)) * te.bytes) room) none (bind (sliceCells s te.size y) fun new => appendTo s (elemE E t) te.size (.sl b off n' z k') (m' + 1) new) = _
      rw [h6]
      show bind (sliceCells s te.size y) (fun new => appendTo s (elemE E t) te.size (.sl b off n' z k') (m' + 1) new) = _
      rw [h7]
      show boolC (Nat.beq z te.size) none (appendSl s (elemE E t) te.size b off n' (m' + 1) k' new) = _
      rw [h9]
      show bind (sliceCells s te.size (.sl b off n' te.size k')) _ = _
      rw [h10]
      show boolC (isClip k' n') (boolC (Nat.blt b s.lo) (boolC (isOwn (s.heap.get b) && oneL new) none _) none) _ = _
      rw [h11, h12, h13, h8]
      exact h14
    rw [this]; rfl
section
variable (u : Under E cs lo rc) (hd : ∀ d ∈ ds, oneV d = true) (he : ∀ q ∈ es, q.Holds) {k : KO} {kp : KJ}
include u
theorem yieldJ_ok {l : Nat} {args : List V} {b : Option B} (h : ∀ v s' z', (∀ k0, yieldB rc l args b m s k0 = k0 v m s') → k v m s' z' .any) : yieldJ lo l args b m s z k := by
  cases b with
  | none => trivial
  | some b =>
  cases b <;> first | trivial | skip
  rename_i st pend mk fn tmps ps assign body
  cases st with
  | succ _ => trivial
  | zero =>
  show boolC (Nat.blt l s.lo) (optC (setAll tmps ps args) True _) True
  have h : ∀ v s' z', (∀ k0, boolC (Nat.blt l s.lo) (optC (setAll tmps ps args) .fail fun T0 => roundBody rc (rc.ex assign T0 (roundM l) s) l body m k0) .fail = k0 v m s') → k v m s' z' .any := h
  cases hl : Nat.blt l s.lo with
  | true => trivial
  | false =>
  rw [hl] at h
  refine optQ fun T0 hT => ?_
  rw [hT] at h
  have h : ∀ v s' z', (∀ k0, roundBody rc (rc.ex assign T0 (roundM l) s) l body m k0 = k0 v m s') → k v m s' z' .any := h
  refine u.ex _ _ _ _ _ _ fun r z1 q => ?_
  rw [q] at h
  cases r <;> first | trivial | skip
  rename_i T1 m1 s1
  refine optQ fun x hx => u.ex _ _ _ _ _ _ fun r2 z2 q2 => optQ fun j hj => optQ fun y hy => h _ _ _ fun k0 => ?_
  show optC (begunB (s1.heap.get l)) .fail (fun x => roundEnd (rc.ex body T1 m1 (s1.put l x)) l m k0) = _
  rw [hx]
  show roundEnd (rc.ex body T1 m1 (s1.put l x)) l m k0 = _
  rw [q2]
  show optC (jumpOf r2) .fail (fun j => optC (endedB j ((memOf r2).heap.get l)) .fail fun x => k0 (.bool (isNone j)) m ((memOf r2).put l x)) = _
  rw [hj]
  show optC (endedB j ((memOf r2).heap.get l)) .fail (fun x => k0 (.bool (isNone j)) m ((memOf r2).put l x)) = _
  rw [hy]; rfl
theorem invJ_ok {t : Tgt} (h : ∀ v s' z' ch, ChgOk ch s s' → (∀ k0, invokeK rc t T m s k0 = k0 v m s') → k v m s' z' ch) (hp : ∀ r z', (∀ k0, invokeK rc t T m s k0 = r) → kp r z') : invJ E lo T m s z k kp t := by
  cases t with
  | no => trivial
  | f g a =>
    refine u.call _ _ _ _ _ fun r z1 q => ?_
    have e : ∀ k0, invokeK rc (.f g a) T m s k0 = calledK r T m k0 := fun k0 => by show calledK (rc.call g a s) T m k0 = _; rw [q]
    cases r with
    | ret v s' rd => exact h v s' z1 _ (u.same _ _ _ _ _ _ q) e
    | pan v s' rd => exact hp _ z1 e
    | fail => trivial
  | y l a => exact yieldJ_ok u fun v s' z' hk => h v s' z' .any trivial hk
omit u in
theorem recoverJ_ok (h : ∀ v m' s' z', (∀ k0, recoverK m s k0 = k0 v m' s') → k v m' s' z' .any) : recoverJ m s z k := by
  obtain ⟨df, dk, rcv, rd, rnd⟩ := m
  cases rnd <;> cases dk <;> cases rd <;> cases rcv <;> first | trivial | exact h _ _ _ _ fun _ => rfl
omit u in
theorem deferJ_ok {c : Call} (h : ∀ v m' s' z', (∀ k0, doOp (.defer c) E rc T m s k0 = k0 v m' s') → k v m' s' z' .any) : deferJ E c T m s z k := by
  obtain ⟨ce, as, ts⟩ := c
  cases ce <;> first | trivial | skip
  rename_i f
  show optC m.rnd (boolC m.dk (optC (opv E T f) True fun g => optC (opvs E T as.toList) True fun args => deferVJ g args m s z k) True) fun _ => True
  have h : ∀ v m' s' z', (∀ k0, deferK (opv E T f) (opvs E T as.toList) m s k0 = k0 v m' s') → k v m' s' z' .any := h
  obtain ⟨df, dk, rcv, rd, rnd⟩ := m
  cases rnd <;> cases dk <;> first | trivial | skip
  refine optQ fun g h3 => optQ fun args h4 => ?_
  rw [h3, h4] at h
  have h : ∀ v m' s' z', (∀ k0, deferV g args ⟨df, false, rcv, rd, none⟩ s k0 = k0 v m' s') → k v m' s' z' .any := h
  cases g with
  | fn f a c =>
  refine boolQ fun h5 => h _ _ _ _ fun k0 => ?_
  show boolC (notYield f) .fail (k0 undef { df := .fn f (app a args) c :: df, dk := false, rc := rcv, rd := rd, rnd := none } s) = _
  rw [h5]; rfl
  | _ => trivial
theorem specJ_ok (h : ∀ v m' s' z' ch, ChgOk ch s s' → (∀ k0, doOp o E rc T m s k0 = k0 v m' s') → k v m' s' z' ch) (hp : ∀ r z', (∀ k0, doOp o E rc T m s k0 = r) → kp r z') : specJ E lo o T m s z k kp := by
  cases o <;> first | trivial | skip
  case call c =>
    show boolC (isRecover c) _ _
    cases hr : isRecover c with
    | true =>
      obtain ⟨ce, as, ts⟩ := c
      cases ce <;> first | (cases hr; done) | skip
      rename_i b
      cases b <;> first | (cases hr; done) | skip
      exact recoverJ_ok fun v m' s' z' hk => h v m' s' z' .any trivial hk
    | false =>
      show invJ E lo T m s z k kp (callToJ c E T)
      cases ht : callToJ c E T with
      | no => trivial
      | f g a =>
        have e := fun k0 => callToJ_ok (rc := rc) (m := m) (s := s) ht (fun h => Tgt.noConfusion h) k0
        exact invJ_ok u (fun v s' z' ch hc hk => h _ _ _ _ _ hc fun k0 => (e k0).trans (hk k0)) fun r z' hk => hp _ _ fun k0 => (e k0).trans (hk k0)
      | y l a =>
        have e := fun k0 => callToJ_ok (rc := rc) (m := m) (s := s) ht (fun h => Tgt.noConfusion h) k0
        exact invJ_ok u (fun v s' z' ch hc hk => h _ _ _ _ _ hc fun k0 => (e k0).trans (hk k0)) fun r z' hk => hp _ _ fun k0 => (e k0).trans (hk k0)
  case defer c => exact deferJ_ok fun v m' s' z' hk => h v m' s' z' .any trivial hk
  case panic x =>
    refine optQ fun v hv => ?_
    cases v <;> first | trivial | skip
    rename_i t w
    refine hp _ _ fun k0 => ?_
    show optC (opv E T x) .fail (fun v => panicV v T m s) = _
    rw [hv]; rfl
theorem autoJ_ok (h : ∀ v m' s' z' ch, ChgOk ch s s' → (∀ k0, doOp o E rc T m s k0 = k0 v m' s') → k v m' s' z' ch) (hp : ∀ r z', (∀ k0, doOp o E rc T m s k0 = r) → kp r z') : autoJ E lo o T m s z k kp := by
  show optC (plnJ o) _ _
  cases hf : plnJ o with
  | none => exact specJ_ok u h hp
  | some f => exact optQ fun p hp => h _ _ _ _ _ (chgOf_ok hf hp) fun k0 => by rw [plnJ_ok hf, hp]; rfl
theorem conT_ok {t : Tgt} {j : Nat} (h : ∀ v s' z' ch, ChgOk ch s s' → (∀ k0, invokeK rc t T m s k0 = k0 v m s') → k v m s' z' ch) : conT cs j T m s z k kp t := by
  cases t <;> first | trivial | skip
  rename_i g a
  refine optQ fun c hc => boolQ fun hg => ?_
  have hg := Nat.eq_of_beq_eq_true hg
  have go : a = c.2.1 → okS c.2.2.1 s → k c.2.2.2 m s z .same := fun ha ho => by
    refine h _ _ _ _ rfl fun k0 => ?_
    show calledK (rc.call g a s) T m k0 = _
    rw [← hg, ha, u.con c (nth_memJ hc) s ho]; rfl
  show optC c.2.2.1 (a = c.2.1 → k c.2.2.2 m s z .same) fun t => (a = c.2.1 → s = t → k c.2.2.2 m s z .same)
  cases ho : c.2.2.1 with
  | none => exact fun ha => go ha (by rw [ho]; trivial)
  | some t => exact fun ha hs => go ha (by rw [ho]; exact hs)
include hd he
theorem opJ_ok (h : ∀ v m' s' z' ch, ChgOk ch s s' → (∀ k0, doOp o E rc T m s k0 = k0 v m' s') → k v m' s' z' ch) (hp : ∀ r z', (∀ k0, doOp o E rc T m s k0 = r) → kp r z') : opJ E cs ds es lo o T m s z k kp := by
  cases z with
  | nil => exact autoJ_ok u h hp
  | cons i z' =>
    obtain ⟨n, i⟩ := i
    cases n with
    | succ n => exact autoJ_ok u h hp
    | zero =>
    cases i with
    | con j =>
      cases o <;> first | trivial | skip
      rename_i c
      show conT cs j T m s z' k kp (callToJ c E T)
      cases ht : callToJ c E T with
      | no => trivial
      | f g a => exact conT_ok u fun v s' z' ch hc hk => h _ _ _ _ _ hc fun k0 => (callToJ_ok ht (fun h => Tgt.noConfusion h) k0).trans (hk k0)
      | y l a => trivial
    | opq l =>
      exact opqJ_ok hd fun v s' hc hk => h _ _ _ _ _ hc hk
    | val j =>
      refine optQ fun q hq => ?_
      cases q with
      | pr P => trivial
      | eq a b =>
      refine optQ fun f hf => optQ fun p hp hv => ?_
      have e : p.1 = b := hv.trans (he _ (nth_memJ hq))
      exact h _ _ _ _ _ (chgOf_ok hf hp) fun k0 => by rw [plnJ_ok hf, hp, ← e]; rfl
    | fix l => trivial
    | pre j v s1 =>
      refine optQ fun f hf hp => ?_
      exact h _ _ _ _ _ (chgOf_ok hf hp) fun k0 => by rw [plnJ_ok hf, hp]; rfl
theorem opsJ_ok {all : List Oper} : ∀ (os : List Oper) (T : List V) (m : M) (s : S) (z : ZJ) (k : KJ), (∀ r z', runOps os all E rc T m s = r → k r z') → opsJ E cs ds es lo all os T m s z k := by
  intro os
  induction os with
  | nil => intro T m s z k h; exact h _ _ rfl
  | cons o os ih =>
    intro T m s z k h
    have h : ∀ r z', boolC (wantedIn all T o.guard) (runOps os all E rc (setD T o.dst undef) m s) (doOp o.op E rc T m s (fun v m s => runOps os all E rc (setD T o.dst v) m s)) = r → k r z' := h
    show boolC (wantedIn all T o.guard) _ _
    cases hw : wantedIn all T o.guard with
    | false => rw [hw] at h; exact ih _ _ _ _ _ h
    | true =>
      rw [hw] at h
      have h : ∀ r z', doOp o.op E rc T m s (fun v m s => runOps os all E rc (setD T o.dst v) m s) = r → k r z' := h
      exact opJ_ok u hd he (fun v m' s' z' ch _ hk => ih _ _ _ _ _ fun r z'' q => h _ _ ((hk _).trans q)) fun r z' hk => h _ _ (hk _)
end
def DepOk (f : S → VS) (d : Option (Option Nat)) : Prop := ∀ (s : S) (v : V) (s1 : S), f s = some (v, s1) → ∀ x, d = some x → ∀ s', (∀ b, x = some b → s'.heap.get b = s.heap.get b) → ∃ s2, f s' = some (v, s2)
def HInv : List HE → List HJ → S → Prop
  | [], [], _ => True
  | h :: H, d :: D, s => (h.1 = d.i ∧ h.2.1 = d.f ∧ h.2.2 = d.v ∧ DepOk d.f d.dep ∧ (d.ok = true → ∃ s1, d.f s = some (d.v, s1))) ∧ HInv H D s
  | _, _, _ => False
theorem recheckJ_ok {mask : Nat} : ∀ {H : List HE} {D : List HJ} {s : S}, HInv H D s → recheckJ mask s D = true → recheck mask s H = true
  | [], [], _, _, _ => rfl
  | [], _ :: _, _, h, _ => h.elim
  | _ :: _, [], _, h, _ => h.elim
  | x :: H, d :: D, s, h, hr => by
    obtain ⟨⟨h1, h2, h3, _, h4⟩, h5⟩ := h
    have hr : boolC (bit mask d.i) (boolC d.ok (boolC (stays1 s d) false (recheckJ mask s D)) (recheckJ mask s D)) (recheckJ mask s D) = true := hr
    show boolC (bit mask x.1) (boolC (stays x s) false (recheck mask s H)) (recheck mask s H) = true
    rw [h1]
    cases hb : bit mask d.i with
    | true => rw [hb] at hr; exact recheckJ_ok h5 hr
    | false =>
      rw [hb] at hr
      have hr : boolC d.ok (boolC (stays1 s d) false (recheckJ mask s D)) (recheckJ mask s D) = true := hr
      show boolC (stays x s) false (recheck mask s H) = true
      cases hk : d.ok with
      | true =>
        rw [hk] at hr
        obtain ⟨s1, h6⟩ := h4 hk
        have hs : stays x s = true := by unfold stays; rw [h2, h3, h6]; exact eqV_refl _
        rw [hs]; exact recheckJ_ok h5 hr
      | false =>
        rw [hk] at hr
        have hr : boolC (stays1 s d) false (recheckJ mask s D) = true := hr
        rw [boolC_and, Bool.and_eq_true] at hr
        have hs : stays x s = true := by unfold stays; rw [h2, h3]; exact hr.1
        rw [hs]; exact recheckJ_ok h5 hr.2
theorem keepB_ok {ch : Chg} {d : Option (Option Nat)} {f : S → VS} {v : V} {s s' : S} (hd : DepOk f d) (hc : ChgOk ch s s') (hk : keepB ch d = true) (h : ∃ s1, f s = some (v, s1)) : ∃ s1, f s' = some (v, s1) := by
  obtain ⟨s1, h⟩ := h
  cases ch with
  | same =>
    have hc : s' = s := hc
    rw [hc]; exact ⟨s1, h⟩
  | blk c =>
    have hc : ∀ b, b ≠ c → s'.heap.get b = s.heap.get b := hc
    have hk : apart1 c d = true := hk
    cases d with
    | none => cases hk
    | some x =>
      refine hd s v s1 h x rfl s' ?_
      intro b hb
      subst hb
      refine hc b fun hbc => ?_
      subst hbc
      have h9 : boolC (Nat.beq b b) true false = true := hk
      rw [show Nat.beq b b = true from Nat.beq_refl b] at h9; cases h9
  | any =>
    cases d with
    | none => cases hk
    | some x =>
      cases x with
      | some b => cases hk
      | none => exact hd s v s1 h none rfl s' (fun b hb => by cases hb)
theorem HInv.move {ch : Chg} : ∀ {H : List HE} {D : List HJ} {s s' : S}, HInv H D s → ChgOk ch s s' → HInv H (moveH ch D) s'
  | [], [], _, _, _, _ => trivial
  | [], _ :: _, _, _, h, _ => h.elim
  | _ :: _, [], _, _, h, _ => h.elim
  | x :: H, d :: D, s, s', h, hc => by
    obtain ⟨⟨h1, h2, h3, hd, h4⟩, h5⟩ := h
    refine ⟨⟨h1, h2, h3, hd, fun hk => ?_⟩, h5.move hc⟩
    have hk : boolC d.ok false (keepB ch d.dep) = true := hk
    rw [boolC_and, Bool.and_eq_true] at hk
    exact keepB_ok hd hc hk.2 (h4 hk.1)
theorem againJ_ok {l : List (Nat × Nat)} {mask : Nat} {s : S} : ∀ {H : List HE} {D : List HJ} {K : List HJ → Prop}, HInv H D s → (∀ D', HInv H D' s → recheck mask s H = true → K D') → againJ es l mask s D K
  | [], [], _, h, hk => hk [] trivial rfl
  | [], _ :: _, _, h, _ => h.elim
  | _ :: _, [], _, h, _ => h.elim
  | x :: H, d :: D, K, h, hk => by
    obtain ⟨⟨h1, h2, h3, hd, h4⟩, h5⟩ := h
    have hk : ∀ D', HInv (x :: H) D' s → boolC (bit mask x.1) (boolC (stays x s) false (recheck mask s H)) (recheck mask s H) = true → K D' := hk
    have yes : stays x s = true → ∀ d', x.1 = d'.i → x.2.1 = d'.f → x.2.2 = d'.v → DepOk d'.f d'.dep → (d'.ok = true → ∃ s1, d'.f s = some (d'.v, s1)) → againJ es l mask s D fun D' => K (d' :: D') := by
      intro hs d' g1 g2 g3 g4 g5
      refine againJ_ok h5 fun D' hD hr => hk _ ⟨⟨g1, g2, g3, g4, g5⟩, hD⟩ ?_
      rw [hs, hr]; cases bit mask x.1 <;> rfl
    show boolC (bit mask d.i) (optC (assocN l d.i) (boolC d.ok (boolC (stays1 s d) True (againJ es l mask s D fun H => K (d :: H))) (againJ es l mask s D fun H => K (d :: H)))
      fun j => optC (nth es j) True fun q => match q with
        | .eq a _ => optC (d.f s) True fun p => (p.1 = a → d.v = a → againJ es l mask s D fun H => K ({ d with ok := true } :: H))
        | .pr _ => True)
      (againJ es l mask s D fun H => K (d :: H))
    cases hb : bit mask d.i with
    | true =>
      refine againJ_ok h5 fun D' hD hr => hk _ ⟨⟨h1, h2, h3, hd, h4⟩, hD⟩ ?_
      rw [h1, hb]; exact hr
    | false =>
    cases ha : assocN l d.i with
    | none =>
      show boolC d.ok _ _
      cases ho : d.ok with
      | false =>
        refine boolQ fun hs => yes (by unfold stays; rw [h2, h3]; exact hs) d h1 h2 h3 hd h4
      | true =>
        refine yes ?_ d h1 h2 h3 hd h4
        obtain ⟨s1, h6⟩ := h4 ho
        unfold stays; rw [h2, h3, h6]; exact eqV_refl _
    | some j =>
      refine optQ fun q _ => ?_
      cases q with
      | pr P => trivial
      | eq a b =>
      refine optQ fun p hp e1 e2 => yes ?_ { d with ok := true } h1 h2 h3 hd fun _ => ⟨p.2, ?_⟩
      · unfold stays; rw [h2, h3, hp]
        show eqV p.1 d.v = true
        rw [e1, e2]; exact eqV_refl _
      · show d.f s = some (d.v, p.2)
        rw [hp, e2, ← e1]
theorem fixJ_ok {mask : Nat} {s : S} {z : ZJ} {H : List HE} {D : List HJ} {K : List HJ → ZJ → Prop} (h : HInv H D s) (hk : ∀ D' z', HInv H D' s → recheck mask s H = true → K D' z') : fixJ es mask s z D K := by
  have std : ∀ z', boolC (recheckJ mask s D) True (K D z') := fun z' => boolQ fun hr => hk _ _ h (recheckJ_ok h hr)
  cases z with
  | nil => exact std _
  | cons i z' =>
    obtain ⟨n, i⟩ := i
    cases n with
    | succ n => exact std _
    | zero =>
    cases i with
    | fix l => exact againJ_ok h fun D' hD hr => hk _ _ hD hr
    | _ => trivial
section
variable (u : Under E cs lo rc) (hd : ∀ d ∈ ds, oneV d = true) (he : ∀ q ∈ es, q.Holds) {k : KO} {kp : KJ}
include u hd he
theorem dJ_ok {all : List Oper} : ∀ (L : List PE) (H : List HE) (D : List HJ) (T : List V) (m : M) (s : S) (z : ZJ) (k : KJ), HInv H D s → (∀ r z', runD E rc all L H T m s = r → k r z') → dJ E cs ds es lo all L D T m s z k := by
  intro L
  induction L with
  | nil => intro H D T m s z k _ h; exact h _ _ rfl
  | cons e L ih =>
    intro H D T m s z k hH h
    have h : ∀ r z', boolC (wantedIn all T e.o.guard) (runD E rc all L H (setD T e.o.dst undef) m s) (dOne E rc all e L (runD E rc all L) H T m s) = r → k r z' := h
    show boolC (wantedIn all T e.o.guard) _ _
    cases hw : wantedIn all T e.o.guard with
    | false => rw [hw] at h; exact ih H D _ _ _ _ _ hH h
    | true =>
    rw [hw] at h
    have h : ∀ r z', natC e.cls (dFix E rc all e L (runD E rc all L)) (fun c => natC c (dNew E e (runD E rc all L)) fun c => dPure E e (Nat.beq c 1) (runD E rc all L)) H T m s = r → k r z' := h
    show natC e.cls _ _
    cases hc : e.cls with
    | zero =>
      rw [hc] at h
      have h : ∀ r z', boolC (newsOk E all e T L) .fail (doOp e.o.op E rc T m s fun v m s => boolC (recheck e.mask s H) .fail (runD E rc all L H (setD T e.o.dst v) m s)) = r → k r z' := h
      refine boolQ fun hn => ?_
      rw [hn] at h
      have h : ∀ r z', (doOp e.o.op E rc T m s fun v m s => boolC (recheck e.mask s H) .fail (runD E rc all L H (setD T e.o.dst v) m s)) = r → k r z' := h
      refine opJ_ok u hd he (fun v m' s' z' ch hch hk => ?_) fun r z' hk => h _ _ (hk _)
      have hH' := hH.move hch
      refine fixJ_ok hH' fun D' z1 hD hr => ih H _ _ _ _ _ _ hD fun r z'' q => h _ _ ((hk _).trans ?_)
      show boolC (recheck e.mask s' H) .fail (runD E rc all L H (setD T e.o.dst v) m' s') = _
      rw [hr]; exact q
    | succ c =>
      rw [hc] at h
      show natC c _ _
      cases c with
      | zero =>
        have h : ∀ r z', (optC (aShape e.o.op E T) .fail fun p => optC p.1 (runD E rc all L H (setD T e.o.dst (p.2 0)) m s) fun x => runD E rc all L H (setD T e.o.dst (p.2 s.next)) m (s.new x)) = r → k r z' := h
        refine optQ fun p hp => ?_
        rw [hp] at h
        obtain ⟨b, g⟩ := p
        cases b with
        | none => exact ih H _ _ _ _ _ _ (hH.move (ch := .same) (s' := s) rfl) h
        | some x =>
          refine ih H _ _ _ _ _ _ (hH.move (ch := .blk s.next) (s' := s.new x) fun j hj => ?_) h
          show (Tr.put s.heap s.next (some x)).get j = _
          rw [Tr.get_put, if_neg hj]
      | succ c =>
        have h : ∀ r z', (optC (pF e.o.op) .fail fun f => optC (f E T s) .fail fun p => runD E rc all L (boolC (Nat.beq c 1) H ((e.i, f E T, p.1) :: H)) (setD T e.o.dst p.1) m s) = r → k r z' := h
        refine optQ fun f hf => ?_
        rw [hf] at h
        have h : ∀ r z', (optC (f E T s) .fail fun p => runD E rc all L (boolC (Nat.beq c 1) H ((e.i, f E T, p.1) :: H)) (setD T e.o.dst p.1) m s) = r → k r z' := h
        have go : ∀ v s1 z', f E T s = some (v, s1) → dJ E cs ds es lo all L (boolC (Nat.beq c 1) D (⟨e.i, f E T, v, true, dJ.depOf e.o.op E T⟩ :: D)) (setD T e.o.dst v) m s z' k := by
          intro v s1 z' hp
          rw [hp] at h
          refine ih _ _ _ _ _ _ _ ?_ h
          cases Nat.beq c 1 with
          | false => exact hH
          | true => exact ⟨⟨rfl, rfl, rfl, fun s v s1 hv => dep_ok hf hv, fun _ => ⟨s1, hp⟩⟩, hH⟩
        cases z with
        | nil => exact optQ fun p hp => go _ _ _ hp
        | cons i z' =>
          obtain ⟨n, i⟩ := i
          cases n with
          | succ n => exact optQ fun p hp => go _ _ _ hp
          | zero =>
          cases i with
          | val j =>
            refine optQ fun q hq => ?_
            cases q with
            | pr P => trivial
            | eq a b =>
            refine optQ fun p hp hv => ?_
            have e : p.1 = b := hv.trans (he _ (nth_memJ hq))
            exact go b p.2 z' (by show f E T s = some (b, p.2); rw [hp, ← e])
          | pre j v s1 => exact fun hp => go v s1 z' hp
          | _ => trivial
theorem regJ_ok {ops : Array Oper} {d : Bool} {k : KJ} (h : ∀ r z', xRegion ops d E rc T m s = r → k r z') : regJ E cs ds es lo ops d T m s z k := by
  unfold regJ
  cases d with
  | false => exact opsJ_ok u hd he _ _ _ _ _ _ h
  | true =>
    show boolC (swpTest ops.toList) _ _
    cases hs : swpTest ops.toList with
    | true =>
      have h : ∀ r z', boolC (swpTest ops.toList) _ (runS E rc ops.toList T m s) = r → k r z' := h
      rw [hs] at h
      have h : ∀ r z', onlyNorm (thenK (runOps (takeB (len ops.toList - 2) ops.toList) ops.toList E rc T m s) fun T m s => boolC (apartL E T (dropN (len ops.toList - 2) ops.toList)) .fail (runOps (dropN (len ops.toList - 2) ops.toList) ops.toList E rc T m s)) = r → k r z' := h
      refine opsJ_ok u hd he _ _ _ _ _ _ fun r z1 q => ?_
      rw [q] at h
      cases r <;> first | trivial | skip
      rename_i T1 m1 s1
      refine boolQ fun ha => opsJ_ok u hd he _ _ _ _ _ _ fun r z2 q2 => ?_
      have h : ∀ r z', onlyNorm (boolC (apartL E T1 (dropN (len ops.toList - 2) ops.toList)) .fail (runOps (dropN (len ops.toList - 2) ops.toList) ops.toList E rc T1 m1 s1)) = r → k r z' := h
      rw [ha] at h
      have h : ∀ r z', onlyNorm (runOps (dropN (len ops.toList - 2) ops.toList) ops.toList E rc T1 m1 s1) = r → k r z' := h
      rw [q2] at h
      cases r <;> first | trivial | exact h _ _ rfl
    | false =>
      refine dJ_ok u hd he _ [] [] _ _ _ _ _ trivial fun r z' q => h _ _ ?_
      show boolC (swpTest ops.toList) _ _ = _
      rw [hs]; exact q
omit hd he in
theorem afterJ_ok {b : Option B} {l : Nat} {k : KJ} (h : ∀ r z', afterB rc b l T m s = r → k r z') : afterJ lo b l T m s z k := by
  cases b with
  | none => trivial
  | some b =>
  cases b <;> first | trivial | skip
  rename_i st pend mk fn tmps ps x y
  show boolC (Nat.beq st 1) _ True
  have h : ∀ r z', boolC (Nat.beq st 1) (optC pend (.norm T m (s.put l (.loop 3 pend mk fn tmps ps x y))) fun c => rc.ex c T m (s.put l (.loop 3 pend mk fn tmps ps x y))) .fail = r → k r z' := h
  cases hs : Nat.beq st 1 with
  | true => trivial
  | false =>
  rw [hs] at h
  cases pend with
  | none => exact h _ _ rfl
  | some c => exact u.ex _ _ _ _ _ _ h
omit hd he in
theorem rangeCallJ_ok {t : Tgt} {l : Nat} {k : KJ} (h : ∀ r z', rangeCall rc t l T m s = r → k r z') : rangeCallJ E lo t l T m s z k := by
  cases t <;> first | trivial | skip
  rename_i g a
  refine u.call _ _ _ _ _ fun r z1 q => ?_
  have h : ∀ r z', rangeEnd rc (rc.call g a s) l T m = r → k r z' := h
  rw [q] at h
  cases r with
  | ret v s' rd => exact afterJ_ok u h
  | pan v s' rd => exact h _ _ rfl
  | fail => trivial
omit hd he in
theorem rangeJ_ok {g : V} {ps : List Nat} {a b : Code} {k : KJ} (h : ∀ r z', rangeGo E rc g ps a b T m s = r → k r z') : rangeJ E lo g ps a b T m s z k := by
  unfold rangeJ
  unfold rangeGo at h
  cases hm : m.rnd with
  | none => rw [hm] at h; exact rangeCallJ_ok u h
  | some l =>
    rw [hm] at h
    have h : ∀ r z', (optC (loopMk (s.heap.get l)) .fail fun mk => rangeCall rc (target E g [yieldV s.next]) s.next T m (s.new (.loop 0 none mk 0 T ps a b))) = r → k r z' := h
    refine optQ fun mk hk => ?_
    rw [hk] at h
    exact rangeCallJ_ok u h
theorem xJ_ok : ∀ (c : Code) (T : List V) (m : M) (s : S) (z : ZJ) (k : KJ), (∀ r z', exec c E rc T m s = r → k r z') → xJ E cs ds es lo c T m s z k := by
  intro c
  induction c with
  | skip => intro T m s z k h; exact h _ _ rfl
  | region i ops d => intro T m s z k h; exact regJ_ok u hd he h
  | seq a b iha ihb =>
    intro T m s z k h
    refine iha _ _ _ _ _ fun r z1 q => ?_
    have h : ∀ r z', thenK (exec a E rc T m s) (exec b E rc) = r → k r z' := h
    rw [q] at h
    cases r with
    | norm T1 m1 s1 => exact ihb _ _ _ _ _ h
    | _ => exact h _ _ rfl
  | cond c a b iha ihb =>
    intro T m s z k h
    have h : ∀ r z', (optC (bind (opv E T c) boolOf) .fail fun t => boolC t (exec b E rc T m s) (exec a E rc T m s)) = r → k r z' := h
    refine optQ fun t ht => ?_
    rw [ht] at h
    cases t with
    | false => exact ihb _ _ _ _ _ h
    | true => exact iha _ _ _ _ _ h
  | block id b ih =>
    intro T m s z k h
    refine ih _ _ _ _ _ fun r z1 q => ?_
    have h : ∀ r z', blockK id (exec b E rc T m s) = r → k r z' := h
    rw [q] at h
    exact h _ _ rfl
  | loop c ih =>
    intro T m s z k h
    refine ih _ _ _ _ _ fun r z1 q => ?_
    have h : ∀ r z', thenK (exec c E rc T m s) (rc.lp c) = r → k r z' := h
    rw [q] at h
    cases r with
    | norm T1 m1 s1 => exact u.lp _ _ _ _ _ _ h
    | _ => exact h _ _ rfl
  | rangeFunc g ps a b iha ihb =>
    intro T m s z k h
    have h : ∀ r z', (optC (opv E T g) .fail fun g => rangeGo E rc g ps.toList a b T m s) = r → k r z' := h
    refine optQ fun gv hg => ?_
    rw [hg] at h
    exact rangeJ_ok u h
  | exit id => intro T m s z k h; exact h _ _ rfl
  | scope b ih => intro T m s z k h; exact ih _ _ _ _ _ h
  | label l => intro T m s z k h; exact h _ _ rfl
  | goto l => intro T m s z k h; trivial
  | ret => intro T m s z k h; exact h _ _ rfl
  | refuse w => intro T m s z k h; trivial
omit hd he in
theorem leaveTJ_ok {fn : Func} {pan : Option V} {rd : Bool} {t : Tgt} {K : KC} {ih : LeaveF} {ihJ : LJ} (hih : ∀ T p rd s z, (∀ r z', ih E rc fn T p rd s = r → K r z') → ihJ fn T p rd s z K) (h : ∀ r z', leaveTo t ih E rc fn T pan rd s = r → K r z') : leaveTJ lo pan s z (fun p s z => ihJ fn T p rd s z K) t := by
  cases t <;> first | trivial | skip
  rename_i g a
  refine u.body _ _ _ _ _ _ _ fun r z1 q => ?_
  have h : ∀ r z', afterDefer (rc.body g a true pan s) pan (fun p s => ih E rc fn T p rd s) = r → K r z' := h
  rw [q] at h
  cases r <;> first | trivial | skip
  rename_i v s' rd'
  exact hih _ _ _ _ _ h
omit hd he in
theorem leaveJ_ok {fn : Func} {K : KC} : ∀ (l : List V) (T : List V) (pan : Option V) (rd : Bool) (s : S) (z : ZJ), (∀ r z', leave l E rc fn T pan rd s = r → K r z') → leaveJ E lo l fn T pan rd s z K := by
  intro l
  induction l with
  | nil => intro T pan rd s z h; exact h _ _ rfl
  | cons d l ih =>
    intro T pan rd s z h
    have key : ∀ t, (∀ r z', leaveTo t (leave l) E rc fn T pan rd s = r → K r z') → leaveTJ lo pan s z (fun p s z => leaveJ E lo l fn T p rd s z K) t := fun t h => leaveTJ_ok u ih h
    have h : ∀ r z', leave1 d (leave l) E rc fn T pan rd s = r → K r z' := h
    show leave1J E lo d (leaveJ E lo l) fn T pan rd s z K
    by_cases hm : ∃ b, d = .map b
    · obtain ⟨b, hb⟩ := hm
      subst hb
      have h : ∀ r z', boolC (Nat.blt b s.lo) (boolC (blkMark (s.heap.get b)) .fail (leave l E rc fn T pan rd (s.drop b))) .fail = r → K r z' := h
      show boolC (Nat.blt b s.lo) (boolC (blkMark (s.heap.get b)) True (leaveJ E lo l fn T pan rd (s.drop b) z K)) True
      cases h1 : Nat.blt b s.lo with
      | true => trivial
      | false =>
      rw [h1] at h
      cases h2 : blkMark (s.heap.get b) with
      | false => trivial
      | true => rw [h2] at h; exact ih _ _ _ _ _ h
    · have e1 : leave1J E lo d (leaveJ E lo l) fn T pan rd s z K = leaveTJ lo pan s z (fun p s z => leaveJ E lo l fn T p rd s z K) (target E d []) := by
        cases d <;> first | rfl | exact absurd ⟨_, rfl⟩ hm
      have e2 : leave1 d (leave l) E rc fn T pan rd s = leaveTo (target E d []) (leave l) E rc fn T pan rd s := by
        cases d <;> first | rfl | exact absurd ⟨_, rfl⟩ hm
      rw [e1]
      rw [e2] at h
      exact key _ h
theorem bodyJ_ok {f : Nat} {args : List V} {dk : Bool} {p : Option V} {K : KC} (h : ∀ r z', doBody E rc f args dk p s = r → K r z') : bodyJ E cs ds es lo f args dk p s z K := by
  refine optQ fun fn hf => optQ fun c hc => xJ_ok u hd he c _ _ _ _ _ fun r z1 q => ?_
  unfold doBody at h
  rw [hf] at h
  have h : ∀ r z', (optC fn.body .fail fun c => bodyEnd E rc fn (exec c E rc (frame0 fn args) (bodyM dk p) s)) = r → K r z' := h
  rw [hc] at h
  have h : ∀ r z', bodyEnd E rc fn (exec c E rc (frame0 fn args) (bodyM dk p) s) = r → K r z' := h
  rw [q] at h
  cases r <;> first | trivial | exact leaveJ_ok u _ _ _ _ _ _ h
end
theorem callJ_ok {f : Nat} {a : List V} {k : KC} (hb : ∀ f a dk p s z k, (∀ r z', doBody E rc f a dk p s = r → k r z') → lo.body f a dk p s z k) (h : ∀ r z', doCall E rc f a s = r → k r z') : callJ E lo f a s z k := by
  unfold callJ
  unfold doCall at h
  cases ho : E.ov f with
  | some g => rw [ho] at h; exact h _ _ rfl
  | none =>
  rw [ho] at h
  have h : ∀ r z', callM E rc f a s (E.mode f) = r → k r z' := h
  show modeJ lo f a s z k (E.mode f)
  cases hm : E.mode f with
  | N => rw [hm] at h; exact hb _ _ _ _ _ _ _ h
  | R =>
    rw [hm] at h
    refine hb _ _ _ _ _ _ _ fun r z1 q => h _ _ ?_
    show backR (live s.heap) s (doBody E rc f a false none { s with lo := s.next }) = _
    rw [q]
  | E =>
    rw [hm] at h
    have h : ∀ r z', callE E rc f a s = r → k r z' := h
    unfold callE at h
    refine optQ fun as has => hb _ _ _ _ _ _ _ fun r z1 q => h _ _ ?_
    rw [has]
    show frozenE s.heap a s (backR noBlk s (doBody E rc f as false none s0)) = _
    rw [q]
theorem doCall_same {f : Nat} {a : List V} {s : S} {v : V} {s' : S} {rd : Bool} (h : doCall E rc f a s = .ret v s' rd) : ChgOk (chgF E f) s s' := by
  unfold chgF
  unfold doCall at h
  cases ho : E.ov f with
  | some g => trivial
  | none =>
  rw [ho] at h
  have h : callM E rc f a s (E.mode f) = .ret v s' rd := h
  show ChgOk (match E.mode f with | .R => .same | _ => .any) s s'
  cases hm : E.mode f with
  | N => trivial
  | E => trivial
  | R =>
    rw [hm] at h
    have h : backR (live s.heap) s (doBody E rc f a false none { s with lo := s.next }) = .ret v s' rd := h
    show s' = s
    cases hd : doBody E rc f a false none { s with lo := s.next } with
    | fail => rw [hd] at h; cases h
    | ret w s1 rd1 =>
      rw [hd] at h
      have h : optC (rsvN s1.heap (live s.heap) deep false w) CR.fail (fun v => .ret v s false) = .ret v s' rd := h
      cases hw : rsvN s1.heap (live s.heap) deep false w with
      | none => rw [hw] at h; cases h
      | some x => rw [hw] at h; injection h with _ h _; exact h.symm
    | pan w s1 rd1 =>
      rw [hd] at h
      have h : optC (rsvN s1.heap (live s.heap) deep false w) CR.fail (fun v => .pan v s false) = .ret v s' rd := h
      cases hw : rsvN s1.heap (live s.heap) deep false w with
      | none => rw [hw] at h; cases h
      | some x => rw [hw] at h; cases h
theorem under0 (hc : ∀ c ∈ cs, ∀ s, okS c.2.2.1 s → (recS E rc).call c.1 c.2.1 s = .ret c.2.2.2 s false) : Under E cs lo0 (recS E rc) :=
  ⟨fun _ _ _ _ _ _ _ => trivial, fun _ _ _ _ _ _ _ => trivial, fun _ _ _ _ _ _ _ _ => trivial, fun _ _ _ _ _ h => callJ_ok (fun _ _ _ _ _ _ _ _ => trivial) h, fun _ _ _ _ _ _ h => doCall_same h, hc⟩
theorem underS (hd : ∀ d ∈ ds, oneV d = true) (he : ∀ q ∈ es, q.Holds) (hc : ∀ c ∈ cs, ∀ s, okS c.2.2.1 s → (recS E rc).call c.1 c.2.1 s = .ret c.2.2.2 s false) (u : Under E cs lo rc) : Under E cs ⟨fun c => xJ E cs ds es lo c, fun f => bodyJ E cs ds es lo f⟩ (recS E rc) :=
  ⟨fun c _ _ _ _ _ h => xJ_ok u hd he (.loop c) _ _ _ _ _ h, fun _ _ _ _ _ _ h => xJ_ok u hd he _ _ _ _ _ _ h, fun _ _ _ _ _ _ _ h => bodyJ_ok u hd he h,
    fun _ _ _ _ _ h => callJ_ok (fun _ _ _ _ _ _ _ h => bodyJ_ok u hd he h) h, fun _ _ _ _ _ _ h => doCall_same h, hc⟩
theorem underN (hd : ∀ d ∈ ds, oneV d = true) (he : ∀ q ∈ es, q.Holds) {n0 : Nat} (hc : ∀ n, n0 ≤ n → ∀ c ∈ cs, ∀ s, okS c.2.2.1 s → (recN E n).call c.1 c.2.1 s = .ret c.2.2.2 s false) : ∀ d, Under E cs (loN E cs ds es d) (recN E (n0 + 1 + d))
  | 0 => under0 (hc (n0 + 1) (Nat.le_succ _))
  | d + 1 => underS hd he (hc (n0 + 1 + d + 1) (by omega)) (underN hd he hc d)
def EQ.lhs (q : EQ) : V := match q with | .eq a _ => a | .pr _ => undef
def EQ.prop (q : EQ) : Prop := match q with | .eq _ _ => True | .pr P => P
def hypJ (cs : List Con) (ds : List V) (es : List EQ) (l : ZJ) (K : Prop) : Prop := List.rec (motive := fun _ => Prop) K (fun i _ ih => match i.2 with
  | .con j => optC (nth cs j) True fun c => optC c.2.2.1 (c.2.1 = c.2.1 → ih) fun t => (c.2.1 = c.2.1 → t = t → ih)
  | .opq l => List.rec (motive := fun _ => Prop) ih (fun p _ ih => optC (nth ds p.2) True fun d => (d = d → ih)) l
  | .val j => optC (nth es j) True fun q => (EQ.lhs q = EQ.lhs q → ih)
  | .fix l => List.rec (motive := fun _ => Prop) ih (fun p _ ih => optC (nth es p.2) True fun q => (EQ.lhs q = EQ.lhs q → EQ.lhs q = EQ.lhs q → ih)) l
  | .pre j _ _ => optC (nth es j) True fun q => (EQ.prop q → ih)) l
def tabJ1 (cs : List Con) (ds : List V) (es : List EQ) (i : TJ) : Bool := match i with
  | .con j => optC (nth cs j) false fun _ => true
  | .opq l => List.rec (motive := fun _ => Bool) true (fun p _ ih => boolC (optC (nth ds p.2) false fun _ => true) false ih) l
  | .val j => optC (nth es j) false fun _ => true
  | .fix l => List.rec (motive := fun _ => Bool) true (fun p _ ih => boolC (optC (nth es p.2) false fun _ => true) false ih) l
  | .pre j _ _ => optC (nth es j) false fun _ => true
def tabJ (cs : List Con) (ds : List V) (es : List EQ) (l : ZJ) : Bool := List.rec (motive := fun _ => Bool) true (fun i _ ih => boolC (tabJ1 cs ds es i.2) false ih) l
theorem hypJ_ok (he : ∀ q ∈ es, q.Holds) {K : Prop} : ∀ l : ZJ, tabJ cs ds es l = true → hypJ cs ds es l K → K
  | [], _, h => h
  | i :: l, h1, h => by
    replace h1 : boolC (tabJ1 cs ds es i.2) false (tabJ cs ds es l) = true := h1
    rw [boolC_and, Bool.and_eq_true] at h1
    obtain ⟨h1, h2⟩ := h1
    refine hypJ_ok he l h2 ?_
    obtain ⟨n, i⟩ := i
    cases i with
    | con j =>
      have h : optC (nth cs j) True (fun c => optC c.2.2.1 (c.2.1 = c.2.1 → hypJ cs ds es l K) fun t => (c.2.1 = c.2.1 → t = t → hypJ cs ds es l K)) := h
      have h1 : optC (nth cs j) false (fun _ => true) = true := h1
      cases hc : nth cs j with
      | none => rw [hc] at h1; cases h1
      | some c =>
        rw [hc] at h
        have h : optC c.2.2.1 (c.2.1 = c.2.1 → hypJ cs ds es l K) (fun t => (c.2.1 = c.2.1 → t = t → hypJ cs ds es l K)) := h
        cases ho : c.2.2.1 with
        | none => rw [ho] at h; exact h rfl
        | some t => rw [ho] at h; exact h rfl rfl
    | val j =>
      have h : optC (nth es j) True (fun c => (EQ.lhs c = EQ.lhs c → hypJ cs ds es l K)) := h
      have h1 : optC (nth es j) false (fun _ => true) = true := h1
      cases hc : nth es j with
      | none => rw [hc] at h1; cases h1
      | some c => rw [hc] at h; exact h rfl
    | pre j v s1 =>
      have h : optC (nth es j) True (fun q => (EQ.prop q → hypJ cs ds es l K)) := h
      have h1 : optC (nth es j) false (fun _ => true) = true := h1
      cases hc : nth es j with
      | none => rw [hc] at h1; cases h1
      | some q =>
        rw [hc] at h
        refine h ?_
        have := he q (nth_memJ hc)
        cases q with
        | eq a b => trivial
        | pr P => exact this
    | fix q =>
      replace h : List.rec (motive := fun _ => Prop) (hypJ cs ds es l K) (fun p _ ih => optC (nth es p.2) True fun d => (EQ.lhs d = EQ.lhs d → EQ.lhs d = EQ.lhs d → ih)) q := h
      replace h1 : List.rec (motive := fun _ => Bool) true (fun p _ ih => boolC (optC (nth es p.2) false fun _ => true) false ih) q = true := h1
      induction q with
      | nil => exact h
      | cons p q ihq =>
        replace h1 : boolC (optC (nth es p.2) false fun _ => true) false (List.rec (motive := fun _ => Bool) true (fun p _ ih => boolC (optC (nth es p.2) false fun _ => true) false ih) q) = true := h1
        rw [boolC_and, Bool.and_eq_true] at h1
        have h : optC (nth es p.2) True (fun d => (EQ.lhs d = EQ.lhs d → EQ.lhs d = EQ.lhs d → List.rec (motive := fun _ => Prop) (hypJ cs ds es l K) (fun p _ ih => optC (nth es p.2) True fun d => (EQ.lhs d = EQ.lhs d → EQ.lhs d = EQ.lhs d → ih)) q)) := h
        cases hd : nth es p.2 with
        | none => have := h1.1; rw [hd] at this; cases this
        | some d => rw [hd] at h; exact ihq (h rfl rfl) h1.2
    | opq q =>
      replace h : List.rec (motive := fun _ => Prop) (hypJ cs ds es l K) (fun p _ ih => optC (nth ds p.2) True fun d => (d = d → ih)) q := h
      replace h1 : List.rec (motive := fun _ => Bool) true (fun p _ ih => boolC (optC (nth ds p.2) false fun _ => true) false ih) q = true := h1
      induction q with
      | nil => exact h
      | cons p q ihq =>
        replace h1 : boolC (optC (nth ds p.2) false fun _ => true) false (List.rec (motive := fun _ => Bool) true (fun p _ ih => boolC (optC (nth ds p.2) false fun _ => true) false ih) q) = true := h1
        rw [boolC_and, Bool.and_eq_true] at h1
        have h : optC (nth ds p.2) True (fun d => (d = d → List.rec (motive := fun _ => Prop) (hypJ cs ds es l K) (fun p _ ih => optC (nth ds p.2) True fun d => (d = d → ih)) q)) := h
        cases hd : nth ds p.2 with
        | none => have := h1.1; rw [hd] at this; cases this
        | some d => rw [hd] at h; exact ihq (h rfl) h1.2
end
end
end Go.AM
end
section
namespace Go.AM
open Go
section
variable {H : Type} {enc : TypeId × Value → H} {P : Program} {W : World} {spare : Nat → Bool} {held : Bool} {μ : Mu} {Sx : Nat → Prop}
end
theorem laid_mem {P : Program} {W : World} : ∀ {laid : List (String × DataW Unit)} {ps : List MemPlace}, DataW.LaidVars P W laid ps → ∀ {n : String} {d : DataW Unit}, (n, d) ∈ laid →
    ∃ g t cs fuel p, P.globalNamed n = some g ∧ (P.globals[g]?).map (·.type) = some t ∧ W.var? P n = some cs ∧ DataW.trod (fun _ => ()) P W 0 (fun _ => true) false fuel t cs.toList = some (d, p)
  | [], _, _, _, _, h => by cases h
  | (n', d') :: r, ps, h, n, d, hm => by
    obtain ⟨g, t, cs, fuel, p, q, h1, h2, h3, h4, h5, _⟩ := h
    rcases List.mem_cons.1 hm with e | hm
    · injection e with e1 e2
      subst e1; subst e2
      exact ⟨g, t, cs, fuel, p, h1, h2, h3, h4⟩
    · exact laid_mem h5 hm
noncomputable def intsV (k : IntKind) (zs : List Int) : List V := zs.map fun z => .int k z
theorem ints_vrs {μ : Mu} {Sx : Nat → Prop} {W : World} (k : IntKind) : ∀ zs : List Int, VRs μ Sx W (intsV k zs) (zs.map fun z => Value.int k z)
  | [] => .nil
  | z :: zs => .cons _ _ _ _ (.int k z) (ints_vrs k zs)
theorem ints_data (k : IntKind) : ∀ zs : List Int, dataL (intsV k zs) = true
  | [] => rfl
  | z :: zs => ints_data k zs
theorem glob_tab {E : Env} {A : Al} {s : S} {μ : Mu} {P : Program} {W : World} {laid : List (String × DataW Unit)} (hL : laidMet P laid W) {n : String} {k : IntKind} {zs : List Int} (hm : (n, Lib.tabData k zs) ∈ laid) {g t e m : Nat} (hg : P.globalNamed n = some g) (hty : (P.globals[g]?).map (·.type) = some t)
    (ht : P.underlying t = some (.array m e)) (he : P.underlying e = some (.int k)) (hce : P.cellsOf e = 1) (hct : P.cellsOf t = m) {c : List V} (hc : c = intsV k zs) (hpos : 0 < zs.length) (hA : A g) (hO : ¬ Owned s μ 0 g) :
    ∃ xs, VRs μ (St A s μ W) W c xs ∧ CellsAt W g 0 xs ∧ St A s μ W g ∧ dataL c = true := by
  obtain ⟨ps, hps, _⟩ := hL
  obtain ⟨g', t', cs, fuel, p, h1, h2, h3, h4⟩ := laid_mem hps hm
  obtain rfl := Option.some.inj (hg.symm.trans h1)
  obtain rfl := Option.some.inj (hty.symm.trans h2)
  have hcs := Lib.cells_of_tab ht he hce hct h4
  have hvar := h3
  unfold World.var? at hvar
  rw [hg] at hvar
  have hcell : ∀ i, W.cell? ⟨g, i, none⟩ = cs[i]? := by
    intro i
    cases hh : W.heap[g]? with
    | none => simp [hh] at hvar
    | some o =>
      cases o <;> simp [hh] at hvar
      subst hvar
      unfold World.cell?
      simp [hh]
  subst hc
  refine ⟨cs.toList, by rw [hcs]; exact ints_vrs k zs, ?_, ⟨hA, ?_, hO⟩, ints_data k zs⟩
  · intro i x hx
    rw [Nat.zero_add, hcell i, ← Array.getElem?_toList]; exact hx
  · have h0 : W.cell? ⟨g, 0, none⟩ = some (.int k (zs[0]'hpos)) := by
      rw [hcell 0, ← Array.getElem?_toList, hcs]; simp [hpos]
    unfold World.cell? at h0
    cases hh : W.heap[g]? with
    | none => simp [hh] at h0
    | some o => exact (Array.getElem?_eq_some_iff.1 hh).1
theorem calls_of {E : Env} {P : Program} {W : World} {f n : Nat} {xs : Array Value} {args : List V} {v : V} {s1 : S} (ok : EnvOk E P) (hov : OvOk E P) (R : Rel E (fun _ => True) s0 (fun _ => none) W) (ha : VRs (fun _ => none) (St (fun _ => True) s0 (fun _ => none) W) W args xs.toList)
    (hd : doBody E (recN E n) f args false none s0 = .ret v s1 false) : Calls P f xs W fun e W' => ∃ μ1 x, e = .returned x ∧ VR μ1 (St (fun _ => True) s1 μ1 W') W' v x ∧ RowKit.Below W.heap.size W W' := by
  have hb := body_ok (f := f) (args := args) (xs := xs) ok (rec_ok ok hov n) R ha (show DkOk (fun _ => none) (St (fun _ => True) s0 (fun _ => none) W) W false none .any from rfl)
  rw [hd] at hb
  obtain ⟨hen, hrd, μ1, W1, x, X, R1, hv, hsteps⟩ := hb
  intro cs
  obtain ⟨fr, q0, q1, q2, q3, q4, q5⟩ := hsteps cs trivial
  refine ⟨.returned x, W1, fr, ⟨μ1, x, rfl, hv, ?_⟩, ?_, q1, ?_⟩
  · exact ⟨X.os, X.tape, X.output, X.size, fun k hk => X.keep k hk (by rintro ⟨b, x, σ, _, _, _, h⟩; cases h)⟩
  · exact q0
  · exact ⟨q3, q4, q2, by rw [q1]; exact q5⟩
end Go.AM
end
section
namespace Go.AM
open Go
noncomputable def fastC (T : Nat → List Nat) (n : Nat) : List Nat → List Nat → Nat → Option (List Nat) := Nat.rec (motive := fun _ => List Nat → List Nat → Nat → Option (List Nat)) (fun _ _ _ => none)
  (fun _ ih todo seen mask => listC todo (some seen.reverse) fun f todo => boolC (Nat.testBit mask f) (ih (app (T f) todo) (f :: seen) (Nat.lor mask (2 ^ f))) (ih todo seen mask)) n
theorem fastC_ok {P : Program} {T : Nat → List Nat} (hT : ∀ f, (P.funcs[f]?).elim [] P.leadsTo = T f) : ∀ (n m : Nat) (todo seen : List Nat) (mask : Nat) (L : List Nat), (∀ f, Nat.testBit mask f = seen.contains f) → n ≤ m + 1 → fastC T n todo seen mask = some L → P.closureVia m todo seen = L := by
  intro n
  induction n with
  | zero => intro m todo seen mask L _ _ h; cases h
  | succ n ih =>
    intro m todo seen mask L hm hle h
    cases todo with
    | nil =>
      have h : some seen.reverse = some L := h
      injection h with h
      subst h
      cases m <;> rfl
    | cons f todo =>
      have h : boolC (Nat.testBit mask f) (fastC T n (app (T f) todo) (f :: seen) (Nat.lor mask (2 ^ f))) (fastC T n todo seen mask) = some L := h
      cases m with
      | zero =>
        have : n = 0 := by omega
        subst this
        rw [boolC_eq] at h
        split at h <;> cases h
      | succ m =>
        show (if seen.contains f then P.closureVia m todo seen else P.closureVia m ((P.funcs[f]?).elim [] P.leadsTo ++ todo) (f :: seen)) = L
        rw [boolC_eq, hm f] at h
        by_cases hc : seen.contains f = true
        · rw [if_pos hc] at h ⊢
          exact ih m todo seen mask L hm (by omega) h
        · rw [if_neg hc] at h ⊢
          rw [hT, ← app_eq]
          refine ih m _ _ _ L (fun g => ?_) (by omega) h
          show Nat.testBit (mask ||| 2 ^ f) g = (f :: seen).contains g
          rw [Nat.testBit_or, hm g, Nat.testBit_two_pow, List.contains_cons]
          by_cases e : g = f
          · subst e; simp
          · have e' : ¬ f = g := fun h => e h.symm
            simp [e, e']
end Go.AM
end
section
namespace Go.AM
open Go
noncomputable def allN (f : Nat → Bool) (n : Nat) : Nat → Bool := Nat.rec (motive := fun _ => Nat → Bool) (fun _ => true) (fun _ ih i => boolC (f i) false (ih (i + 1))) n
theorem allN_at {f : Nat → Bool} {n : Nat} : ∀ {i : Nat}, allN f n i = true → ∀ t, i ≤ t → t < i + n → f t = true := by
  induction n with
  | zero => intro i _ t h1 h2; omega
  | succ n ih =>
    intro i h t h1 h2
    have h : boolC (f i) false (allN f n (i + 1)) = true := h
    rw [boolC_eq] at h
    split at h
    · rename_i h0
      by_cases he : t = i
      · subst he; exact h0
      · exact ih h t (by omega) (by omega)
    · cases h
noncomputable def eqNL (a : List Nat) : List Nat → Bool := List.rec (motive := fun _ => List Nat → Bool) (fun b => listC b true fun _ _ => false) (fun x _ ih b => listC b false fun y b => boolC (Nat.beq x y) false (ih b)) a
theorem eqNL_ok : ∀ {a b : List Nat}, eqNL a b = true → a = b := by
  intro a
  induction a with
  | nil => intro b h; cases b with
    | nil => rfl
    | cons => cases h
  | cons x a ih => intro b h; cases b with
    | nil => cases h
    | cons y b =>
      have h : boolC (Nat.beq x y) false (eqNL a b) = true := h
      rw [boolC_eq] at h
      split at h
      · rename_i e
        rw [Nat.eq_of_beq_eq_true e, ih h]
      · cases h
noncomputable def sumN (T : Nat → List Nat) (n : Nat) : Nat → Nat := Nat.rec (motive := fun _ => Nat → Nat) (fun _ => 0) (fun _ ih i => Nat.add (Nat.succ (List.length (T i))) (ih (Nat.succ i))) n
theorem sum_is {h : Func → List Nat} {T : Nat → List Nat} : ∀ (l : List Func) (i : Nat), (∀ k, (l[k]?).elim [] h = T (i + k)) → (l.map fun g => (h g).length + 1).sum = sumN T l.length i := by
  intro l
  induction l with
  | nil => intro i _; rfl
  | cons g l ih =>
    intro i hk
    have h0 : h g = T i := hk 0
    have h1 := ih (i + 1) fun k => by
      have := hk (k + 1)
      rw [show i + (k + 1) = i + 1 + k by omega] at this
      exact this
    show (((h g).length + 1) :: l.map fun g => (h g).length + 1).sum = Nat.add (Nat.succ (List.length (T i))) (sumN T l.length (i + 1))
    rw [List.sum_cons, h1, h0]; rfl
theorem closure_gen {P : Program} {T : Nat → List Nat} {size n : Nat} {f : Nat} {L : List Nat} (hT : ∀ f, (P.funcs[f]?).elim [] P.leadsTo = T f) (hs : P.funcs.size = size) (hn : Nat.ble n (sumN T size 0) = true) (hL : fastC T n [f] [] 0 = some L) : P.closure f = L := by
  unfold Program.closure
  have e := sum_is (h := P.leadsTo) (T := T) P.funcs.toList 0 (fun k => by rw [Array.getElem?_toList, hT, Nat.zero_add])
  have hlen : P.funcs.toList.length = size := by rw [Array.length_toList, hs]
  rw [hlen] at e
  rw [e]
  have hn := Nat.le_of_ble_eq_true hn
  exact fastC_ok hT n _ [f] [] 0 L (fun g => by simp) (by omega) hL
theorem un_gen {P : Program} {f : Nat} {L : List Nat} (h : P.closure f = L) {g : Nat} (hm : L.contains g = true) (hg : ((P.funcs[g]?).any fun fn => match fn.body with | some c => c.unfollowed | none => entryCalls fn) = true) : P.unfollowed f = true := by
  unfold Program.unfollowed
  rw [h]
  exact List.any_eq_true.2 ⟨g, List.contains_iff_mem.1 hm, hg⟩
theorem place_gen {P : Program} {f : Nat} {L : List Nat} (h : P.closure f = L) {R : List String} (hR : L.filterMap (fun g => (P.funcs[g]?).bind fun fn => if fn.ours || fn.body.isNone || fn.name == "runtime.NumGoroutine" then some fn.name else none) = R) : P.inPlace f = R := by
  unfold Program.inPlace
  rw [h, hR]
theorem vars_gen {P : Program} {f : Nat} {L G : List Nat} {R : List String} (h : P.closure f = L) (hG : L.flatMap (fun g => ((P.funcs[g]?).bind (·.body)).elim [] Code.globalsNamed) = G) (hR : L.filterMap (fun g => (P.funcs[g]?).bind fun fn => if fn.body.isNone then entryReads.lookup fn.name else none) = R) : P.varsNamed f = (G.eraseDups.filterMap (fun g => (P.globals[g]?).map (·.name)) ++ R).eraseDups := by
  unfold Program.varsNamed
  rw [h, hG, hR]
theorem rec_gen {P : Program} {f : Nat} (h : P.unfollowed f = true) : P.recurses f = true := by
  unfold Program.recurses
  rw [h]; rfl
noncomputable def gDoor (fn : Func) : Bool := fn.body.isNone && opensWith (nameBytes "var's door: ") (nameBytes fn.name) && ["(look 8)", "(look 8, test files too)", "(list 7)", "(look 7)"].any (endsIn · (nameBytes fn.name).reverse)
noncomputable def gLay (fn : Func) : Bool := fn.body.isNone && (fn.name == "runtime.SetFinalizer" || fn.name == "runtime.AddCleanup" || fn.origin == "runtime.AddCleanup")
noncomputable def gRef (fn : Func) : Bool := fn.body.isNone && (opensWith (nameBytes "reflect.") (nameBytes fn.name) || opensWith (nameBytes "(reflect.") (nameBytes fn.name) || opensWith (nameBytes "(*reflect.") (nameBytes fn.name))
noncomputable def gNone (fn : Func) : Bool := boolC fn.goes (boolC (gLay fn) (boolC (gRef fn) (boolC (gDoor fn) true false) false) false) false
theorem gNone_at {fn : Func} (h : gNone fn = true) : fn.goes = false ∧ gLay fn = false ∧ gRef fn = false ∧ gDoor fn = false := by
  unfold gNone at h
  simp only [boolC_eq] at h
  split at h
  · cases h
  rename_i h1
  split at h
  · cases h
  rename_i h2
  split at h
  · cases h
  rename_i h3
  split at h
  · cases h
  rename_i h4
  exact ⟨Bool.eq_false_iff.2 h1, Bool.eq_false_iff.2 h2, Bool.eq_false_iff.2 h3, Bool.eq_false_iff.2 h4⟩
theorem mem_no {P : Program} (h : P.funcs.all gNone = true) {fn : Func} (hm : fn ∈ P.funcs.toList) : fn.goes = false ∧ gLay fn = false ∧ gRef fn = false ∧ gDoor fn = false :=
  gNone_at (Array.all_eq_true_iff_forall_mem.1 h fn (Array.mem_toList_iff.1 hm))
theorem any_no {P : Program} (h : P.funcs.all gNone = true) {q : Func → Bool} (hq : ∀ fn, (fn.goes = false ∧ gLay fn = false ∧ gRef fn = false ∧ gDoor fn = false) → q fn = false) : P.funcs.toList.any q = false := by
  cases e : P.funcs.toList.any q with
  | false => rfl
  | true =>
    obtain ⟨fn, hm, hf⟩ := List.any_eq_true.1 e
    rw [hq fn (mem_no h hm)] at hf
    cases hf
theorem lays_gen {P : Program} (h : P.funcs.all gNone = true) : P.laysLater = false := by
  unfold Program.laysLater
  rw [← Array.any_toList]
  exact any_no h fun fn k => k.2.1
theorem refl_gen {P : Program} (h : P.funcs.all gNone = true) : P.bearsReflect = false := by
  unfold Program.bearsReflect
  exact any_no h fun fn k => k.2.2.1
theorem door_gen {P : Program} (h : P.funcs.all gNone = true) : P.doorFits [] = true := by
  have e : (P.doorRows.any fun n => ["(look 8)", "(look 8, test files too)", "(list 7)", "(look 7)"].any (endsIn · n)) = false := by
    unfold Program.doorRows
    rw [List.any_map, List.any_filter]
    exact any_no h fun fn k => k.2.2.2
  unfold Program.doorFits
  simp only [e]
  simp
theorem may_gen {P : Program} {c : List Char} {rest : List (List Char)} (h : behindMainWord (wordsSigns P.initOrder.toList) = c :: rest) (hs : stripLifts liftWords (c :: rest) = ([], c :: rest)) (hc : (c == "cut".toList) = true) (ha : P.funcs.all gNone = true) : P.mayEnter = true := by
  unfold Program.mayEnter
  rw [h]
  simp only [hs, lays_gen ha, refl_gen ha, door_gen ha]
  simp at hc
  simp [hc]
theorem goes_gen {P : Program} (h : P.funcs.all gNone = true) (f : Nat) : P.goes f = false := by
  unfold Program.goes
  rw [show P.funcs.any Func.goes = false by rw [← Array.any_toList]; exact any_no h fun fn k => k.1, Bool.and_false, Bool.or_false]
  cases e : (P.closure f).any fun g => (P.funcs[g]?).any Func.goes with
  | false => rfl
  | true =>
    obtain ⟨g, _, hg⟩ := List.any_eq_true.1 e
    cases hf : P.funcs[g]? with
    | none => rw [hf] at hg; cases hg
    | some fn =>
      rw [hf] at hg
      have hm : fn ∈ P.funcs.toList := Array.mem_toList_iff.2 (Array.mem_of_getElem? hf)
      have hg : fn.goes = true := hg
      rw [(mem_no h hm).1] at hg
      cases hg
theorem looks_gen {P : Program} {g : Nat} (hg : g < P.funcs.size) (h : ((P.funcs[g]?).any fun fn => match fn.body with | some c => c.looks P | none => false) = true) : P.looks [] = true := by
  unfold Program.looks
  exact List.any_eq_true.2 ⟨g, List.mem_range.2 hg, h⟩
theorem goes_by_gen {P : Program} {func : String} (h : P.funcs.all gNone = true) : P.goesAt .entering func = false := by
  unfold Program.goesAt Program.goesFrom
  rw [Bool.or_false]
  cases P.funcNamed func with
  | none => rfl
  | some f => exact goes_gen h f
theorem filter_one {p : Nat → Bool} {k : Nat} : ∀ (n : Nat), (∀ i, i < n → p i = decide (i = k)) → (List.range n).filter p = if k < n then [k] else [] := by
  intro n
  induction n with
  | zero => intro _; rfl
  | succ n ih =>
    intro h
    rw [List.range_succ, List.filter_append, ih fun i hi => h i (by omega)]
    have hn := h n (by omega)
    by_cases he : n = k
    · subst he
      rw [decide_eq_true rfl] at hn
      rw [if_neg (by omega), if_pos (by omega)]
      simp [hn]
    · rw [decide_eq_false he] at hn
      by_cases hk : k < n
      · rw [if_pos hk, if_pos (by omega)]; simp [hn]
      · rw [if_neg hk, if_neg (by omega)]; simp [hn]
theorem named_gen {P : Program} {name : String} {size k : Nat} (hs : P.funcs.size = size) (hf : (List.range size).filter (fun i => (P.funcs[i]?).any (·.name == name)) = [k]) : P.funcNamed name = some k := by
  unfold Program.funcNamed
  rw [hs, hf]
noncomputable def noBody (fn : Func) : Option String := if fn.body.isNone then some fn.name else none
theorem worded_gen {P : Program} {N : List String} (h : P.funcs.toList.filterMap noBody = N) (w : String) : P.worded w = N.any (· == w) := by
  subst h
  unfold Program.worded
  rw [← Array.any_toList]
  induction P.funcs.toList with
  | nil => rfl
  | cons fn l ih =>
    rw [List.any_cons, List.filterMap_cons, ih]
    cases hb : fn.body with
    | none => simp [noBody, hb]
    | some c => simp [noBody, hb]
theorem door_bytes_gen {P : Program} {N : List String} (h : P.funcs.toList.filterMap noBody = N) : P.doorBytes = (N.map fun n => n.toUTF8.data.toList).filterMap (bytesBehind "var's door: ".toUTF8.data.toList) := by
  subst h
  unfold Program.doorBytes
  congr 1
  rw [List.map_filterMap]
  congr 1
  funext fn
  cases hb : fn.body with
  | none => simp [noBody, hb]
  | some c => simp [noBody, hb]
noncomputable def onlyAt (p : Func → Bool) (k : Nat) (l : List Func) : Nat → Bool := List.rec (motive := fun _ => Nat → Bool) (fun _ => true) (fun fn _ ih i => boolC (boolC (Nat.beq i k) (!p fn) (p fn)) false (ih (Nat.succ i))) l
theorem onlyAt_ok {p : Func → Bool} {k : Nat} : ∀ (l : List Func) (i : Nat), onlyAt p k l i = true → ∀ j, j < l.length → (l[j]?).any p = decide (i + j = k) := by
  intro l
  induction l with
  | nil => intro i _ j hj; exact absurd hj (Nat.not_lt_zero _)
  | cons fn l ih =>
    intro i h j hj
    have h : boolC (boolC (Nat.beq i k) (!p fn) (p fn)) false (onlyAt p k l (Nat.succ i)) = true := h
    cases hb : boolC (Nat.beq i k) (!p fn) (p fn) with
    | false => rw [hb] at h; cases h
    | true =>
      rw [hb] at h
      have h : onlyAt p k l (Nat.succ i) = true := h
      rw [boolC_eq] at hb
      cases j with
      | zero =>
        show p fn = decide (i + 0 = k)
        split at hb
        · rename_i e
          rw [hb, Nat.add_zero, decide_eq_true (Nat.eq_of_beq_eq_true e)]
        · rename_i e
          have hne : ¬ i + 0 = k := fun e' => e (by rw [← e', Nat.add_zero]; exact Nat.beq_refl i)
          rw [decide_eq_false hne]
          simpa using hb
      | succ j =>
        have := ih (Nat.succ i) h j (by simpa using hj)
        rw [show i + (j + 1) = Nat.succ i + j by omega]
        exact this
theorem named_at {P : Program} {name : String} {size k : Nat} (hs : P.funcs.size = size) (hk : k < size) (h : onlyAt (fun fn => fn.name == name) k P.funcs.toList 0 = true) : P.funcNamed name = some k := by
  refine named_gen hs ?_
  rw [filter_one (k := k) size fun i hi => ?_, if_pos hk]
  have := onlyAt_ok P.funcs.toList 0 h i (by rw [Array.length_toList, hs]; exact hi)
  rw [Array.getElem?_toList, Nat.zero_add] at this
  exact this
theorem tails_gen {P : Program} {D : List (List UInt8)} (h : P.doorBytes = D) (v tail : String) : P.wordedOn v tail = (D.filterMap (bytesBehind v.toUTF8.data.toList)).any fun r => bytesBehind tail.toUTF8.data.toList r == some [] := by
  unfold Program.wordedOn Program.tailsOn
  rw [h]
theorem later_gen {P : Program} {v : String} {k : LaidKind} (h : P.kindBase v = some k) (hk : (match k with | .data | .sentinel | .listed => true | _ => false) = true) : P.kindOfLater v = some k := by
  unfold Program.kindOfLater
  rw [h]
  cases k <;> first | rfl | cases hk
theorem laid_of_parts {P : Program} {laid : List (String × DataW Unit)} {w : World} (fuel M : Nat) (h : (DataW.laidRun P w fuel (laid.map (·.1))).map (·.1) = some laid)
    (hn : ((DataW.laidRun P w fuel (laid.map (·.1))).any fun x => nodupBits M x.2 0) = true)
    (hr : ((DataW.laidRun P w fuel (laid.map (·.1))).any fun x => laidRowsB P w x.2) = true) : laidMet P laid w := by
  cases hx : DataW.laidRun P w fuel (laid.map (·.1)) with
  | none => simp [hx] at h
  | some x =>
    obtain ⟨l', ps⟩ := x
    simp only [hx, Option.map_some, Option.some.injEq] at h
    simp only [hx, Option.any_some] at hn hr
    subst h
    exact laidMet_of_run fuel hx (decide_eq_true (nodupBits_sound hn).1) hr
theorem alone_gen {P : Program} {g : FuncId} {code : Code} (h1 : code.unfollowedBeside P = false) (h2 : (code.tempsApart 0).isSome = true) (h3 : code.regionsFit P [] = true) (h4 : code.storedByHandle P = []) : P.callsLaidAlone g code = true := by
  unfold Program.callsLaidAlone
  rw [h1, h2, h3, h4]; rfl
theorem fits_gen {P : Program} {l : List (String × DataW Unit)} (h : P.headLifts.contains "ownunsafe" = false) (hf : P.funcsFit l = true) : P.listedFits l = true := by
  unfold Program.listedFits
  rw [h, hf]; rfl
theorem joined_gen {P : Program} {f : FuncId} {fn : Func} {s : ChangeSpec} {c : OpenClaim}
    (k0 : (c.wf (OpenSpec.ofChange s)) = true)
    (k1 : (laidOutB P) = true)
    (k2 : (mapsRowed P) = true)
    (k3 : (fn.params.all (P.readableRec ·)) = true)
    (k4 : (namedTie P c.named s.vars) = true)
    (k5 : ((c.stops == [])) = true)
    (k6 : ((P.stops == [])) = true)
    (k7 : ((c.knobs == [])) = true)
    (k8 : ((P.stopKnobs == [])) = true)
    (k9 : ((c.inPlace == P.inPlace f)) = true)
    (k10 : ((c.unfollowed == P.unfollowed f)) = true)
    (k11 : ((c.recurses == P.recurses f)) = true)
    (k12 : ((c.named == P.varsNamed f)) = true)
    (k13 : ((c.maps == (fn.params.toList ++ s.plain.varTypes P).any (P.mapsRec ·))) = true)
    (k14 : ((c.ifaces == (fn.params.toList ++ s.plain.varTypes P).any (P.ifacesRec ·))) = true)
    (k15 : ((c.mapsOut == P.mapsAmong fn.resultTypes.toList)) = true)
    (k16 : ((c.loops == (fn.params.toList ++ s.plain.varTypes P).any (P.loopsFrom ·))) = true)
    (k17 : ((c.wideKeys == (fn.params.toList ++ s.plain.varTypes P ++ fn.resultTypes.toList).any (P.wideKeysFrom ·))) = true)
    (k18 : (s.vars.all (P.varReadable ·)) = true)
    (k19 : (fn.resultTypes.all (fun t => P.readableRec t && decide (t < P.types.size))) = true)
    (k20 : ((c.ifacesOut == fn.resultTypes.toList.any (P.ifacesRec ·))) = true)
    (k21 : ((c.loopsOut == fn.resultTypes.toList.any (P.loopsFrom ·))) = true)
    (k22 : ((c.plainKeys == P.plainKeys)) = true)
    (k23 : (c.shortTexts.isNone) = true)
    (k24 : (P.stopsHeard) = true)
    (k25 : (P.mayEnter) = true)
    (k26 : ((c.lifted == P.liftsFinal)) = true)
    (k27 : ((P.make == some c.make)) = true)
    (k28 : ((c.kinds == (if c.domain.isEmpty then [] else fn.params.toList.map fun t => match P.underlying t with | some (.int k) => some k | _ => none))) = true)
    (k29 : ((c.pinned == c.pinnedBy)) = true)
    (k30 : ((c.veiled == (fn.params.toList ++ s.plain.varTypes P ++ fn.resultTypes.toList).any (P.veiledRec ·))) = true)
    (k31 : (c.veiledFits P fn.params.toList (fn.params.toList ++ s.plain.varTypes P ++ fn.resultTypes.toList)) = true) : joinedFacts P f fn s c = true := by
  unfold joinedFacts
  simp only [Bool.and_eq_true]
  exact ⟨⟨⟨⟨⟨⟨⟨⟨⟨⟨⟨⟨⟨⟨⟨⟨⟨⟨⟨⟨⟨⟨⟨⟨⟨⟨⟨⟨⟨⟨⟨k0, k1⟩, k2⟩, k3⟩, k4⟩, k5⟩, k6⟩, k7⟩, k8⟩, k9⟩, k10⟩, k11⟩, k12⟩, k13⟩, k14⟩, k15⟩, k16⟩, k17⟩, k18⟩, k19⟩, k20⟩, k21⟩, k22⟩, k23⟩, k24⟩, k25⟩, k26⟩, k27⟩, k28⟩, k29⟩, k30⟩, k31⟩
noncomputable def walkN (q : Func → Nat → Bool) (l : List Func) : Nat → Bool := List.rec (motive := fun _ => Nat → Bool) (fun _ => true) (fun fn _ ih i => boolC (q fn i) false (ih (Nat.succ i))) l
theorem walkN_at {q : Func → Nat → Bool} : ∀ {l : List Func} {i : Nat}, walkN q l i = true → ∀ (j : Nat) (fn : Func), l[j]? = some fn → q fn (i + j) = true := by
  intro l
  induction l with
  | nil => intro i _ j fn hj; simp at hj
  | cons f l ih =>
    intro i h j fn hj
    have h : boolC (q f i) false (walkN q l (Nat.succ i)) = true := h
    rw [boolC_eq] at h
    split at h
    · rename_i h0
      cases j with
      | zero =>
        have hj : some f = some fn := hj
        injection hj with hj
        subst hj
        exact h0
      | succ j =>
        have := ih h j fn (by simpa using hj)
        rw [show i + (j + 1) = Nat.succ i + j by omega]
        exact this
    · cases h
noncomputable def tab {α : Type} (t : Tr α) (size : Nat) (d : α) (f : Nat) : α := boolC (Nat.blt f size) d (optC (t.get f) d fun x => x)
theorem tab_out {α : Type} {t : Tr α} {size : Nat} {d : α} {f : Nat} (h : size ≤ f) : tab t size d f = d := by
  unfold tab
  rw [boolC_eq, if_neg (by rw [Nat.blt_eq]; omega)]
theorem leads_gen {P : Program} {t : Tr (List Nat)} {size : Nat} (hs : P.funcs.size = size) (h : walkN (fun fn i => eqNL (P.leadsTo fn) (tab t size [] i)) P.funcs.toList 0 = true) (f : Nat) : (P.funcs[f]?).elim [] P.leadsTo = tab t size [] f := by
  cases hf : P.funcs[f]? with
  | none =>
    rw [tab_out (by rw [← hs]; exact Array.getElem?_eq_none_iff.1 hf)]; rfl
  | some fn =>
    have := walkN_at h f fn (by rw [Array.getElem?_toList, hf])
    rw [Nat.zero_add] at this
    exact eqNL_ok this
noncomputable def plOf (fn : Func) : Option String := if fn.ours || fn.body.isNone || fn.name == "runtime.NumGoroutine" then some fn.name else none
noncomputable def glOf (fn : Func) : List Nat := fn.body.elim [] Code.globalsNamed
noncomputable def rdOf (fn : Func) : Option String := if fn.body.isNone then entryReads.lookup fn.name else none
noncomputable def pgrOk (p : Tr (Option String)) (g : Tr (List Nat)) (r : Tr (Option String)) (size : Nat) (fn : Func) (i : Nat) : Bool :=
  boolC (decide (plOf fn = tab p size none i)) false (boolC (eqNL (glOf fn) (tab g size [] i)) false (decide (rdOf fn = tab r size none i)))
theorem pgr_at {P : Program} {p : Tr (Option String)} {g : Tr (List Nat)} {r : Tr (Option String)} {size : Nat} (h : walkN (pgrOk p g r size) P.funcs.toList 0 = true) {f : Nat} {fn : Func} (hf : P.funcs[f]? = some fn) :
    plOf fn = tab p size none f ∧ glOf fn = tab g size [] f ∧ rdOf fn = tab r size none f := by
  have := walkN_at h f fn (by rw [Array.getElem?_toList, hf])
  rw [Nat.zero_add] at this
  unfold pgrOk at this
  rw [boolC_eq, boolC_eq] at this
  split at this
  · rename_i h0
    split at this
    · rename_i h1
      exact ⟨of_decide_eq_true h0, eqNL_ok h1, of_decide_eq_true this⟩
    · cases this
  · cases this
theorem place_at {P : Program} {p : Tr (Option String)} {g : Tr (List Nat)} {r : Tr (Option String)} {size : Nat} (hs : P.funcs.size = size) (h : walkN (pgrOk p g r size) P.funcs.toList 0 = true) {f : Nat} {L : List Nat} (hc : P.closure f = L) {R : List String} (hR : L.filterMap (tab p size none) = R) : P.inPlace f = R := by
  refine place_gen hc ?_
  rw [← hR]
  congr 1
  funext k
  cases hf : P.funcs[k]? with
  | none => rw [tab_out (by rw [← hs]; exact Array.getElem?_eq_none_iff.1 hf)]; rfl
  | some fn => exact (pgr_at h hf).1
theorem vars_at {P : Program} {p : Tr (Option String)} {g : Tr (List Nat)} {r : Tr (Option String)} {size : Nat} (hs : P.funcs.size = size) (h : walkN (pgrOk p g r size) P.funcs.toList 0 = true) {f : Nat} {L G : List Nat} (hc : P.closure f = L) {R : List String} (hG : L.flatMap (tab g size []) = G) (hR : L.filterMap (tab r size none) = R) : P.varsNamed f = (G.eraseDups.filterMap (fun g => (P.globals[g]?).map (·.name)) ++ R).eraseDups := by
  refine vars_gen hc ?_ ?_
  · rw [← hG]
    congr 1
    funext k
    cases hf : P.funcs[k]? with
    | none => rw [tab_out (by rw [← hs]; exact Array.getElem?_eq_none_iff.1 hf)]; rfl
    | some fn => exact (pgr_at h hf).2.1
  · rw [← hR]
    congr 1
    funext k
    cases hf : P.funcs[k]? with
    | none => rw [tab_out (by rw [← hs]; exact Array.getElem?_eq_none_iff.1 hf)]; rfl
    | some fn => exact (pgr_at h hf).2.2
theorem allN_cat {f : Nat → Bool} {m : Nat} : ∀ {n i : Nat}, allN f n i = true → allN f m (i + n) = true → allN f (n + m) i = true := by
  intro n
  induction n with
  | zero => intro i _ h; rw [Nat.zero_add]; exact h
  | succ n ih =>
    intro i h h2
    have h : boolC (f i) false (allN f n (i + 1)) = true := h
    rw [show n + 1 + m = (n + m) + 1 by omega]
    show boolC (f i) false (allN f (n + m) (i + 1)) = true
    rw [boolC_eq] at h ⊢
    split at h
    · rename_i h0
      rw [if_pos h0]
      exact ih h (by rw [show i + 1 + n = i + (n + 1) by omega]; exact h2)
    · cases h
theorem allN_app {f : Nat → Bool} {n m size : Nat} (h1 : allN f n 0 = true) (h2 : allN f m n = true) (hs : size = n + m) : (List.range size).all f = true := by
  rw [List.all_eq_true]
  intro t ht
  rw [List.mem_range] at ht
  by_cases h : t < n
  · exact allN_at h1 t (Nat.zero_le t) (by omega)
  · exact allN_at h2 t (by omega) (by omega)
noncomputable def fMap (P : Program) (t : Nat) : Bool := match P.underlying t with | some (.map _ e) => decide (e < P.types.size) | _ => true
noncomputable def fKey (P : Program) (t : Nat) : Bool := match P.underlying t with
    | some (.map k _) => (match P.underlying k with | some (.array _ _) | some (.struct _) => false | _ => true)
    | _ => true
noncomputable def fType (P : Program) (t : Nat) : Bool := boolC (fMap P t) false (boolC (fKey P t) false (rowFine P t))
theorem fType_at {P : Program} {t : Nat} (h : fType P t = true) : fMap P t = true ∧ fKey P t = true ∧ rowFine P t = true := by
  unfold fType at h
  rw [boolC_eq, boolC_eq] at h
  split at h
  · rename_i h0
    split at h
    · rename_i h1; exact ⟨h0, h1, h⟩
    · cases h
  · cases h
theorem types_all {P : Program} (h : (List.range P.types.size).all (fType P) = true) {g : Nat → Bool} (hg : ∀ t, fType P t = true → g t = true) : (List.range P.types.size).all g = true := by
  rw [List.all_eq_true] at h ⊢
  exact fun t ht => hg t (h t ht)
theorem maps_rowed {P : Program} (h : (List.range P.types.size).all (fType P) = true) : mapsRowed P = true := types_all h fun t ht => (fType_at ht).1
theorem plain_keys {P : Program} (h : (List.range P.types.size).all (fType P) = true) : P.plainKeys = true := types_all h fun t ht => (fType_at ht).2.1
noncomputable def gStop (fn : Func) : Bool := (Stop.rowOf fn).isNone || !fn.norace
theorem stops_heard {P : Program} (h : P.funcs.toList.all gStop = true) : P.stopsHeard = true := by
  rw [Array.all_toList] at h
  exact h
theorem laid_out {P : Program} {size : Nat} (hs : P.types.size = size) (h : (List.range P.types.size).all (fType P) = true) (hg : (P.globals.toList.all fun g => decide (g.type < size)) = true) (hp : (P.funcs.toList.all fun f => f.params.toList.all fun t => decide (t < size)) = true) : laidOutB P = true := by
  subst hs
  unfold laidOutB
  rw [types_all h fun t ht => (fType_at ht).2.2]
  rw [Array.all_toList] at hg hp
  simp only [Array.all_toList] at hp
  rw [hg, hp]; rfl
theorem funcs_all' {P : Program} (h : P.funcs.toList.all gNone = true) : P.funcs.all gNone = true := by
  rw [Array.all_toList] at h
  exact h
end Go.AM
end
