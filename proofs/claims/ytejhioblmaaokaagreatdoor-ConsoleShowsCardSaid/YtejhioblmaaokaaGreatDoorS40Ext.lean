import Derived.Laws.Externs
import Derived.Lib.Bytealg
import Derived.Lib.MakeNoZero
import Derived.Test.YtejhioblmaaokaaGreatDoorS40Env
set_option linter.all false
/- The functions without a body. -/
namespace Go.AM.S40
open Go Go.Proofs
noncomputable section
theorem f453_at : Tryz.prog.funcs[453]? = some Tryz.f453 := by kernel_rfl
theorem f575_at : Tryz.prog.funcs[575]? = some Tryz.f575 := by kernel_rfl
theorem f250_at : Tryz.prog.funcs[250]? = some Tryz.f250 := by kernel_rfl
theorem x453 : Extern.find Tryz.f453 = some Extern.AbiNoEscape.same := by kernel_rfl
theorem n453 : Extern.findNext Tryz.f453 = none := by kernel_rfl
theorem x250 : Extern.find Tryz.f250 = some Extern.BytealgIndexByte.indexByte := by kernel_rfl
theorem n250 : Extern.findNext Tryz.f250 = none := by kernel_rfl
theorem n575 : Extern.findNext Tryz.f575 = none := by kernel_rfl
theorem x575 : Extern.find Tryz.f575 = some (Extern.BytealgMakeNoZero.makeNoZero Tryz.f575.params #[71]) := by kernel_rfl
theorem u71 : Tryz.prog.underlying 71 = some (.slice 5) := by kernel_rfl

section
variable {E : Env} {P : Program} {A : Al} {s s' : S} {μ μ' : Mu} {W W' : World}
theorem CallOut.ext {f : Nat} {fn : Func} {e : Array Value → Sem Value} {xs : Array Value} {v : V} (hf : P.funcs[f]? = some fn) (hname : (fn.name == "runtime.NumGoroutine") = false) (hb : fn.body.isNone = true) (hn : Extern.findNext fn = none) (he : Extern.find fn = some e)
    (h : OkV E A s μ W v s' ((e xs).run P W)) : CallOut E P A s μ W f xs (.ret v s' false) := by
  obtain ⟨μ1, W1, x, h1, h2, h3, h4⟩ := h
  refine ⟨μ1, W1, x, h2.toA, h3, h4, .inr ?_⟩
  rw [run_callFunc_extern hf hname hb hn he, h1]
  rfl
theorem args1 {xs : Array Value} {v : V} {Sx : Nat → Prop} (h : VRs μ Sx W [v] xs.toList) : ∃ x, xs = #[x] ∧ VR μ Sx W v x := by
  generalize hx : xs.toList = l at h
  cases h with
  | cons _ _ x l hv ht =>
    cases ht
    exact ⟨x, by cases xs; simpa using hx, hv⟩
theorem args2 {xs : Array Value} {v w : V} {Sx : Nat → Prop} (h : VRs μ Sx W [v, w] xs.toList) : ∃ x y, xs = #[x, y] ∧ VR μ Sx W v x ∧ VR μ Sx W w y := by
  generalize hx : xs.toList = l at h
  cases h with
  | cons _ _ x l hv ht =>
    cases ht with
    | cons _ _ y l hw ht =>
      cases ht
      exact ⟨x, y, by cases xs; simpa using hx, hv, hw⟩
end
def hNoEsc (args : List V) (s : S) : CR := listC args .fail fun p l => listC l (.ret p s false) fun _ _ => .fail
theorem noEsc_ok (E : Env) : SumOk E Tryz.prog 453 hNoEsc := by
  intro A args xs s μ W R ha
  cases args with
  | nil => trivial
  | cons p l => cases l with
    | cons q l => trivial
    | nil =>
      obtain ⟨x, rfl, hx⟩ := args1 ha
      exact CallOut.ext f453_at (by kernel_rfl) (by kernel_rfl) n453 x453 (.pure R hx rfl)
/-- The first place of a byte. -/
def idxB (l : List Nat) (c : Nat) : Nat → Int := List.rec (motive := fun _ => Nat → Int) (fun _ => -1) (fun b _ ih i => boolC (Nat.beq b c) (ih (i + 1)) (Int.ofNat i)) l
def hIdxN (l : List Nat) (c : Nat) (s : S) : CR := boolC (Nat.blt c 256) .fail (.ret (.int .i64 (idxB l c 0)) s false)
def hIdxC (l : List Nat) (v : V) (s : S) : CR := optC (toN v) .fail fun c => match v with | .int .u8 _ => hIdxN l c s | _ => .fail
def hIdxS (v w : V) (s : S) : CR := match v with | .str l => hIdxC l w s | _ => .fail
def hIdx (args : List V) (s : S) : CR := listC args .fail fun v l => listC l .fail fun w l => listC l (hIdxS v w s) fun _ _ => .fail
theorem idxB_eq (bs : List UInt8) (c : Nat) (hc : c < 256) : ∀ i, idxB (bs.map UInt8.toNat) c i = if Lib.indexByte bs c.toUInt8 = -1 then -1 else Lib.indexByte bs c.toUInt8 + i := by
  induction bs with
  | nil => intro i; rfl
  | cons b bs ih =>
    intro i
    show boolC (Nat.beq b.toNat c) (idxB (bs.map UInt8.toNat) c (i + 1)) (Int.ofNat i) = _
    have hbc : Nat.beq b.toNat c = (b == c.toUInt8) := by
      rw [natBeq_eq]
      have : (b.toNat = c) ↔ b = c.toUInt8 := by
        constructor
        · intro h; rw [← h]; simp
        · rintro rfl; simp; omega
      by_cases h : b = c.toUInt8
      · rw [decide_eq_true (this.2 h)]; simp [h]
      · rw [decide_eq_false (fun h' => h (this.1 h'))]; simp [h]
    rw [hbc]
    unfold Lib.indexByte
    cases hb : b == c.toUInt8 with
    | true =>
      simp only [if_true]
      show Int.ofNat i = _
      rw [if_neg (by decide)]
      show (i : Int) = 0 + i
      omega
    | false =>
      simp only [Bool.false_eq_true, if_false]
      show idxB (bs.map UInt8.toNat) c (i + 1) = _
      rw [ih (i + 1)]
      have hge := Lib.indexByte_ge bs c.toUInt8
      by_cases h : Lib.indexByte bs c.toUInt8 = -1
      · simp [h]
      · simp only [h, beq_iff_eq, if_false]
        rw [if_neg (by omega)]
        omega
theorem idx_ok (E : Env) : SumOk E Tryz.prog 250 hIdx := by
  intro A args xs s μ W R ha
  cases args with
  | nil => trivial
  | cons p l => cases l with
    | nil => trivial
    | cons q l => cases l with
      | cons r l => trivial
      | nil =>
        obtain ⟨x, y, rfl, hx, hy⟩ := args2 ha
        show CallOut E Tryz.prog A s μ W 250 #[x, y] (hIdxS p q s)
        unfold hIdxS
        split
        · rename_i l
          unfold hIdxC
          cases hq : toN q with
          | none => trivial
          | some c =>
            rw [optC_some]
            obtain ⟨k, rfl⟩ := toN_some hq
            split
            · rename_i h8
              cases h8
              unfold hIdxN
              rw [boolC_eq]
              split
              case isFalse => trivial
              rename_i hc
              have hc : c < 256 := blt_true hc
              have key : ∃ b, x = .string b ∧ l = nats b := by cases hx; exact ⟨_, rfl, rfl⟩
              obtain ⟨b, rfl, rfl⟩ := key
              cases hy
              refine CallOut.ext f250_at (by kernel_rfl) (by kernel_rfl) n250 x250 (.pure R (.int _ _) ?_)
              rw [Lib.run_indexByteString]
              congr 2
              rw [nats_eq, idxB_eq _ _ hc]
              have : ((c : Int).toNat).toUInt8 = c.toUInt8 := by simp
              rw [this]
              split
              · rename_i h; rw [h]
              · simp
            · trivial
        · trivial
/-- A row of bytes that nobody knows. -/
def hMnzN (n : Nat) (s : S) : CR := boolC (Nat.ble n 1000000) .fail (.ret (.sl s.next 0 n 1 none) (s.new (.cells true 6 [])) false)
def hMnzV (v : V) (s : S) : CR := match v with | .int .i64 (.ofNat n) => hMnzN n s | _ => .fail
def hMnz (args : List V) (s : S) : CR := listC args .fail fun v l => listC l (hMnzV v s) fun _ _ => .fail
theorem mnz_ok (E : Env) : SumOk E Tryz.prog 575 hMnz := by
  intro A args xs s μ W R ha
  cases args with
  | nil => trivial
  | cons p l => cases l with
    | cons q l => trivial
    | nil =>
      obtain ⟨x, rfl, hx⟩ := args1 ha
      show CallOut E Tryz.prog A s μ W 575 #[x] (hMnzV p s)
      unfold hMnzV
      split
      · rename_i n
        unfold hMnzN
        rw [boolC_eq]
        split
        case isFalse => trivial
        rename_i hn
        have hn := Nat.le_of_ble_eq_true hn
        cases hx
        obtain ⟨cs, h1, h2, h3⟩ := Lib.run_makeNoZero (P := Tryz.prog) W Tryz.f575.params 71 5 u71 n (by omega)
        have R2 := R.drew (W.drawn + 1 + 1)
        refine CallOut.ext f575_at (by kernel_rfl) (by kernel_rfl) n575 x575 (OkV.drew (n := W.drawn + 1 + 1) R fun R2 => ?_)
        refine newSlF R2 6 [] cs 5 (fun e h => ⟨Nat.succ.inj h, rfl⟩) (0, 0) (fun i _ h => by simp at h) [] .nil (fun i x h => by simp at h) (n := n) (cap := cs.size) h2 (fun m h => by cases h) (by omega) ?_
        exact h1
      · trivial
/-- These taken for granted. -/
def ovX (f : Nat) : Option (List V → S → CR) := boolC (Nat.beq f 453) (boolC (Nat.beq f 575) (boolC (Nat.beq f 250) none (some hIdx)) (some hMnz)) (some hNoEsc)
theorem ovX_ok (E : Env) : ∀ f k, ovX f = some k → SumOk E Tryz.prog f k := by
  intro f k h
  unfold ovX at h
  rw [boolC_eq] at h
  split at h
  · rename_i hf
    have hf := Nat.eq_of_beq_eq_true hf
    subst hf; cases h; exact noEsc_ok E
  · rw [boolC_eq] at h
    split at h
    · rename_i hf
      have hf := Nat.eq_of_beq_eq_true hf
      subst hf; cases h; exact mnz_ok E
    · rw [boolC_eq] at h
      split at h
      · rename_i hf
        have hf := Nat.eq_of_beq_eq_true hf
        subst hf; cases h; exact idx_ok E
      · cases h
def E1 : Env := E0.over ovX
theorem env1_ok : EnvOk E1 Tryz.prog := env_ok.over ovX
theorem ov1_ok : OvOk E1 Tryz.prog := OvOk.over (fun f h hh => by cases hh) (ovX_ok E0)
end
end Go.AM.S40
