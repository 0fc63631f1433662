import Derived.Laws.Externs
import Derived.Lib.Bytealg
import Derived.Lib.MakeNoZero
import Derived.KernelRfl
import Derived.Test.YtkkbeakephmkdaaGreatDoorE15Env
import Derived.Test.YtkkbeakephmkdaaGreatDoorAm2
import Derived.Test.YtkkbeakephmkdaaGreatDoorAm3
set_option linter.all false
section
namespace Go.AM.E15
open Go Go.Proofs
noncomputable section
theorem f491_at : Tryz.prog.funcs[491]? = some Tryz.f491 := by kernel_rfl
theorem f545_at : Tryz.prog.funcs[545]? = some Tryz.f545 := by kernel_rfl
theorem f202_at : Tryz.prog.funcs[202]? = some Tryz.f202 := by kernel_rfl
theorem x491 : Extern.find Tryz.f491 = some Extern.AbiNoEscape.same := by kernel_rfl
theorem n491 : Extern.findNext Tryz.f491 = none := by kernel_rfl
theorem x202 : Extern.find Tryz.f202 = some Extern.BytealgCompare.compare := by kernel_rfl
theorem n202 : Extern.findNext Tryz.f202 = none := by kernel_rfl
theorem n545 : Extern.findNext Tryz.f545 = none := by kernel_rfl
theorem x545 : Extern.find Tryz.f545 = some (Extern.BytealgMakeNoZero.makeNoZero Tryz.f545.params #[225]) := by kernel_rfl
theorem u225 : Tryz.prog.underlying 225 = some (.slice 5) := by kernel_rfl
section
variable {E : Env} {P : Program} {A : Al} {s s' : S} {μ μ' : Mu} {W W' : World}
theorem CallOut.ext {f : Nat} {fn : Func} {e : Array Value → Sem Value} {xs : Array Value} {v : V} (hf : P.funcs[f]? = some fn) (hname : (fn.name == "runtime.NumGoroutine") = false) (hb : fn.body.isNone = true) (hn : Extern.findNext fn = none) (he : Extern.find fn = some e)
    (h : OkV E A s μ W v s' ((e xs).run P W)) : CallOut E P A s μ W f xs (.ret v s' false) := by
  obtain ⟨μ1, W1, x, h1, h2, h3, h4⟩ := h
  refine ⟨μ1, W1, x, h2.toA, h3, h4, .inr ?_⟩
  rw [run_callFunc_extern hf hname hb hn he, h1]
  rfl
theorem args1 {xs : Array Value} {v : V} {Sx : Nat → Prop} (h : VRs μ Sx W [v] xs.toList) : ∃ x, xs = #[x] ∧ VR μ Sx W v x := by
  generalize hx : xs.toList = l at h
  cases h with
  | cons _ _ x l hv ht =>
    cases ht
    exact ⟨x, by cases xs; simpa using hx, hv⟩
theorem args2 {xs : Array Value} {v w : V} {Sx : Nat → Prop} (h : VRs μ Sx W [v, w] xs.toList) : ∃ x y, xs = #[x, y] ∧ VR μ Sx W v x ∧ VR μ Sx W w y := by
  generalize hx : xs.toList = l at h
  cases h with
  | cons _ _ x l hv ht =>
    cases ht with
    | cons _ _ y l hw ht =>
      cases ht
      exact ⟨x, y, by cases xs; simpa using hx, hv, hw⟩
end
def hNoEsc (args : List V) (s : S) : CR := listC args .fail fun p l => listC l (.ret p s false) fun _ _ => .fail
theorem noEsc_ok (E : Env) : SumOk E Tryz.prog 491 hNoEsc := by
  intro A args xs s μ W R ha
  cases args with
  | nil => trivial
  | cons p l => cases l with
    | cons q l => trivial
    | nil =>
      obtain ⟨x, rfl, hx⟩ := args1 ha
      exact CallOut.ext f491_at (by kernel_rfl) (by kernel_rfl) n491 x491 (.pure R hx rfl)
def lexB : List Nat → List Nat → Int := List.rec (motive := fun _ => List Nat → Int) (fun b => listC b 0 fun _ _ => -1)
  (fun x _ ih b => listC b 1 fun y r => boolC (Nat.beq x y) (boolC (Nat.blt x y) 1 (-1)) (ih r))
def hCmpS (v w : V) (s : S) : CR := match v with | .str l => (match w with | .str k => .ret (.int .i64 (lexB l k)) s false | _ => .fail) | _ => .fail
def hCmp (args : List V) (s : S) : CR := listC args .fail fun v l => listC l .fail fun w l => listC l (hCmpS v w s) fun _ _ => .fail
theorem lexB_eq : ∀ a b : List UInt8, lexB (a.map UInt8.toNat) (b.map UInt8.toNat) = Lib.compareBytes a b
  | [], [] => rfl
  | [], _ :: _ => rfl
  | _ :: _, [] => rfl
  | x :: a, y :: b => by
    show boolC (Nat.beq x.toNat y.toNat) (boolC (Nat.blt x.toNat y.toNat) 1 (-1)) (lexB (a.map UInt8.toNat) (b.map UInt8.toNat)) = _
    rw [lexB_eq a b]
    show _ = if x < y then -1 else if y < x then 1 else Lib.compareBytes a b
    have h1 : Nat.beq x.toNat y.toNat = decide (x = y) := by
      rw [natBeq_eq]
      by_cases h : x = y
      · subst h; simp
      · rw [decide_eq_false h, decide_eq_false fun h' => h (UInt8.toNat_inj.1 h')]
    have h2 : Nat.blt x.toNat y.toNat = decide (x < y) := by
      have hi : x < y ↔ x.toNat < y.toNat := UInt8.lt_iff_toNat_lt
      by_cases h : x.toNat < y.toNat
      · rw [decide_eq_true (hi.2 h)]; simpa [Nat.blt_eq] using h
      · rw [decide_eq_false fun h' => h (hi.1 h')]
        cases hb : Nat.blt x.toNat y.toNat with
        | false => rfl
        | true => exact absurd (by simpa [Nat.blt_eq] using hb) h
    rw [h1, h2]
    by_cases h : x = y
    · subst h
      rw [decide_eq_true rfl, if_neg (UInt8.lt_irrefl x), if_neg (UInt8.lt_irrefl x)]; rfl
    · rw [decide_eq_false h]
      by_cases h3 : x < y
      · rw [decide_eq_true h3, if_pos h3]; rfl
      · rw [decide_eq_false h3, if_neg h3]
        have h4 : y < x := by
          rw [UInt8.lt_iff_toNat_lt] at h3 ⊢
          have : x.toNat ≠ y.toNat := fun e => h (UInt8.toNat_inj.1 e)
          omega
        rw [if_pos h4]; rfl
theorem cmp_ok (E : Env) : SumOk E Tryz.prog 202 hCmp := by
  intro A args xs s μ W R ha
  cases args with
  | nil => trivial
  | cons p l => cases l with
    | nil => trivial
    | cons q l => cases l with
      | cons r l => trivial
      | nil =>
        obtain ⟨x, y, rfl, hx, hy⟩ := args2 ha
        show CallOut E Tryz.prog A s μ W 202 #[x, y] (hCmpS p q s)
        unfold hCmpS
        split
        · split
          · have k1 : ∀ {v : V} {x : Value} {l : List Nat} {Sx : Nat → Prop} {W : World}, VR μ Sx W v x → v = .str l → ∃ b, x = .string b ∧ l = nats b := by
              intro v x l Sx W h e
              subst e
              cases h; exact ⟨_, rfl, rfl⟩
            obtain ⟨b, rfl, rfl⟩ := k1 hx rfl
            obtain ⟨c, rfl, rfl⟩ := k1 hy rfl
            refine CallOut.ext f202_at (by kernel_rfl) (by kernel_rfl) n202 x202 (.pure R (.int _ _) ?_)
            rw [Lib.run_compareString, nats_eq, nats_eq, lexB_eq]
          · trivial
        · trivial
def hMnzN (n : Nat) (s : S) : CR := boolC (Nat.ble n 1000000) .fail (.ret (.sl s.next 0 n 1 none) (s.new (.cells true 6 [])) false)
def hMnzV (v : V) (s : S) : CR := match v with | .int .i64 (.ofNat n) => hMnzN n s | _ => .fail
def hMnz (args : List V) (s : S) : CR := listC args .fail fun v l => listC l (hMnzV v s) fun _ _ => .fail
theorem mnz_ok (E : Env) : SumOk E Tryz.prog 545 hMnz := by
  intro A args xs s μ W R ha
  cases args with
  | nil => trivial
  | cons p l => cases l with
    | cons q l => trivial
    | nil =>
      obtain ⟨x, rfl, hx⟩ := args1 ha
      show CallOut E Tryz.prog A s μ W 545 #[x] (hMnzV p s)
      unfold hMnzV
      split
      · rename_i n
        unfold hMnzN
        rw [boolC_eq]
        split
        case isFalse => trivial
        rename_i hn
        have hn := Nat.le_of_ble_eq_true hn
        cases hx
        obtain ⟨cs, h1, h2, h3⟩ := Lib.run_makeNoZero (P := Tryz.prog) W Tryz.f545.params 225 5 u225 n (by omega)
        have R2 := R.drew (W.drawn + 1 + 1)
        refine CallOut.ext f545_at (by kernel_rfl) (by kernel_rfl) n545 x545 (OkV.drew (n := W.drawn + 1 + 1) R fun R2 => ?_)
        refine newSlF R2 6 [] cs 5 (fun e h => ⟨Nat.succ.inj h, rfl⟩) (0, 0) (fun i _ h => by simp at h) [] .nil (fun i x h => by simp at h) (n := n) (cap := cs.size) h2 (fun m h => by cases h) (by omega) ?_
        exact h1
      · trivial
def ovX (f : Nat) : Option (List V → S → CR) := boolC (Nat.beq f 491) (boolC (Nat.beq f 545) (boolC (Nat.beq f 202) none (some hCmp)) (some hMnz)) (some hNoEsc)
theorem ovX_ok (E : Env) : ∀ f k, ovX f = some k → SumOk E Tryz.prog f k := by
  intro f k h
  unfold ovX at h
  rw [boolC_eq] at h
  split at h
  · rename_i hf
    have hf := Nat.eq_of_beq_eq_true hf
    subst hf; cases h; exact noEsc_ok E
  · rw [boolC_eq] at h
    split at h
    · rename_i hf
      have hf := Nat.eq_of_beq_eq_true hf
      subst hf; cases h; exact mnz_ok E
    · rw [boolC_eq] at h
      split at h
      · rename_i hf
        have hf := Nat.eq_of_beq_eq_true hf
        subst hf; cases h; exact cmp_ok E
      · cases h
def E1 : Env := E0.over ovX
theorem env1_ok : EnvOk E1 Tryz.prog := env_ok.over ovX
theorem ov1_ok : OvOk E1 Tryz.prog := OvOk.over (fun f h hh => by cases hh) (ovX_ok E0)
end
end Go.AM.E15
end
section
namespace Go.AM.E15
open Go Go.Proofs
noncomputable section
abbrev LL := List (List V × V)
abbrev i6 (x : Int) : V := .int .i64 x
def w0 : V := .lsl [i6 703205376, i6 229401496, i6 650600228, i6 1267] 4 false
def w1 : V := .tup [.agg [.bool false, w0], i6 0]
def w2 : V := .lsl [i6 267650600, i6 1] 2 false
def w3 : V := .lsl [i6 676506000, i6 12] 2 false
def w4 : V := .lsl [i6 676506002, i6 12] 2 false
def w5 : V := .lsl [i6 765060020, i6 126] 2 false
def w6 : V := .lsl [i6 765060022, i6 126] 2 false
def w7 : V := .lsl [i6 650600220, i6 1267] 2 false
def w8 : V := .lsl [i6 650600228, i6 1267] 2 false
def w9 : V := .lsl [i6 506002280, i6 12676] 2 false
def w10 : V := .lsl [i6 506002282, i6 12676] 2 false
def w11 : V := .lsl [i6 60022820, i6 126765] 2 false
def w12 : V := .lsl [i6 60022822, i6 126765] 2 false
def w13 : V := .lsl [i6 600228220, i6 1267650] 2 false
def w14 : V := .lsl [i6 600228229, i6 1267650] 2 false
def w15 : V := .lsl [i6 2282290, i6 12676506] 2 false
def w16 : V := .lsl [i6 2282294, i6 12676506] 2 false
def w17 : V := .lsl [i6 22822940, i6 126765060] 2 false
def w18 : V := .lsl [i6 228229400, i6 267650600, i6 1] 3 false
def w19 : V := .lsl [i6 228229401, i6 267650600, i6 1] 3 false
def w20 : V := .lsl [i6 282294010, i6 676506002, i6 12] 3 false
def w21 : V := .lsl [i6 282294014, i6 676506002, i6 12] 3 false
def w22 : V := .lsl [i6 822940140, i6 765060022, i6 126] 3 false
def w23 : V := .lsl [i6 822940149, i6 765060022, i6 126] 3 false
def w24 : V := .lsl [i6 229401490, i6 650600228, i6 1267] 3 false
def w25 : V := .lsl [i6 229401496, i6 650600228, i6 1267] 3 false
def w26 : V := .lsl [i6 294014960, i6 506002282, i6 12676] 3 false
def w27 : V := .lsl [i6 294014967, i6 506002282, i6 12676] 3 false
def w28 : V := .lsl [i6 940149670, i6 60022822, i6 126765] 3 false
def w29 : V := .lsl [i6 401496700, i6 600228229, i6 1267650] 3 false
def w30 : V := .lsl [i6 401496703, i6 600228229, i6 1267650] 3 false
def w31 : V := .lsl [i6 14967030, i6 2282294, i6 12676506] 3 false
def w32 : V := .lsl [i6 14967032, i6 2282294, i6 12676506] 3 false
def w33 : V := .lsl [i6 149670320, i6 22822940, i6 126765060] 3 false
def w34 : V := .lsl [i6 496703200, i6 228229401, i6 267650600, i6 1] 4 false
def w35 : V := .lsl [i6 496703205, i6 228229401, i6 267650600, i6 1] 4 false
def w36 : V := .lsl [i6 967032050, i6 282294014, i6 676506002, i6 12] 4 false
def w37 : V := .lsl [i6 967032053, i6 282294014, i6 676506002, i6 12] 4 false
def w38 : V := .lsl [i6 670320530, i6 822940149, i6 765060022, i6 126] 4 false
def w39 : V := .lsl [i6 670320537, i6 822940149, i6 765060022, i6 126] 4 false
def w40 : V := .lsl [i6 703205370, i6 229401496, i6 650600228, i6 1267] 4 false
def w41 : V := .lsl [i6 2, i6 0, .bool false, .lsl [i6 2] 1 false, .str [], .nils, .nils] 1 false
def w42 : V := .agg [i6 5, i6 0, .bool false, .nils, .str [], w41, .nils]
def w43 : V := .agg [i6 2, i6 0, .bool false, .lsl [i6 2] 1 false, .str [], .nils, .nils]
def w44 : V := .lsl [i6 1, i6 0, .nils, i6 2, i6 0, .bool false, .lsl [i6 1] 1 false, .str [], .nils, .nils, .nils, i6 1, i6 0, .nils, i6 2, i6 0, .bool false, .lsl [i6 100] 1 false, .str [], .nils, .nils, .nils] 2 false
def w45 : V := .agg [i6 46, i6 17, .nils, i6 0, i6 0, .bool false, .nils, .str [], .nils, .nils, .lsl [i6 25, i6 0, .nils, i6 0, i6 0, .bool false, .nils, .str [], .nils, .nils, .lsl [i6 46, i6 10, .nils, i6 0, i6 0, .bool false, .nils, .str [], .nils, .nils, w44] 1 false] 1 false]
def w46 : V := .agg [i6 2, i6 0, .bool false, w0, .str [], .nils, .nils]
def w47 : V := .lsl [i6 1, i6 0, .nils, i6 2, i6 0, .bool false, .nils, .str [], .nils, .nils, .nils, i6 1, i6 0, .nils, i6 2, i6 0, .bool false, .lsl [i6 1] 1 false, .str [], .nils, .nils, .nils] 2 false
def w48 : V := .agg [.nils, .nils, .lsl [.str [120], i6 46, i6 10, .nils, i6 0, i6 0, .bool false, .nils, .str [], .nils, .nils, w47] 1 false, .nils, .nils, i6 1, i6 0, .nils, i6 1, i6 1, .bool false, .nils, .str [], .nils, .nils, .nils, i6 1, i6 0, .nils, i6 1, i6 1, .bool false, .nils, .str [], .nils, .nils, .nils, .nils, .nils, .nils, .nils, .nils, .nils, .nils, .bool false]
def w49 : V := .agg [.nils, .nils, .bool false, .bool false, .nils]
def w50 : V := .agg [i6 4, i6 0, .bool false, .nils, .str [120], .nils, .nils]
def w51 : V := .agg [i6 1, i6 1, .bool false, .nils, .str [], .nils, .nils]
def w52 : V := .agg [i6 2, i6 0, .bool false, .nils, .str [], .nils, .nils]
def w53 : V := .agg [i6 2, i6 0, .bool false, .lsl [i6 1] 1 false, .str [], .nils, .nils]
def w54 : V := .agg [.bool false, .lsl [i6 1] 1 false]
def w55 : V := .agg [i6 2, i6 0, .bool false, .lsl [i6 100] 1 false, .str [], .nils, .nils]
def w56 : V := .agg [.bool false, .lsl [i6 100] 1 false]
def w57 : V := .agg [i6 3, i6 0, i6 0, i6 0, .bool false, .nils, .str [], .nils, .nils, .bool false, .nils, .bool false, .nils, .nils, .lsl [i6 2, i6 0, i6 0, i6 0, .bool false, .nils, .str [], .nils, .nils, .bool false, .lsl [i6 1] 1 false, .bool false, .lsl [i6 100] 1 false, .nils, .nils] 1 false]
def w58 : V := .agg [.bool false, .lsl [i6 99] 1 false]
def w59 : V := .agg [.bool true, .lsl [i6 1] 1 false]
def w60 : V := .agg [.bool false, .lsl [i6 2] 1 false]
def w61 : V := .agg [.bool false, .lsl [i6 4] 1 false]
def w62 : V := .agg [.bool false, .lsl [i6 16] 1 false]
def w63 : V := .agg [.bool false, .lsl [i6 256] 1 false]
def w64 : V := .agg [.bool false, .lsl [i6 65536] 1 false]
def w65 : V := .lsl [i6 294967296, i6 4] 2 false
def w66 : V := .lsl [i6 719476736, i6 68] 2 false
def w67 : V := .lsl [i6 709551616, i6 446744073, i6 18] 3 false
def w68 : V := .lsl [i6 1, i6 0, .nils, i6 2, i6 0, .bool false, .lsl [i6 1] 1 false, .str [], .nils, .nils, .nils, i6 1, i6 0, .nils, i6 2, i6 0, .bool false, .lsl [i6 50] 1 false, .str [], .nils, .nils, .nils] 2 false
def w69 : V := .lsl [i6 1, i6 0, .nils, i6 2, i6 0, .bool false, .lsl [i6 3] 1 false, .str [], .nils, .nils, .nils, i6 4, i6 0, .nils, i6 0, i6 0, .bool false, .nils, .str [], .nils, .nils, .nils] 2 false
def w70 : V := .lsl [i6 25, i6 0, .nils, i6 0, i6 0, .bool false, .nils, .str [], .nils, .nils, .lsl [i6 46, i6 10, .nils, i6 0, i6 0, .bool false, .nils, .str [], .nils, .nils, w68] 1 false, i6 20, i6 0, .nils, i6 0, i6 0, .bool false, .nils, .str [], .nils, .nils, w69] 2 false
def w71 : V := .agg [i6 17, i6 1, .nils, i6 0, i6 0, .bool false, .nils, .str [], .nils, .nils, w70]
def w72 : V := .agg [i6 2, i6 0, .bool false, .lsl [i6 50] 1 false, .str [], .nils, .nils]
def w73 : V := .agg [.bool false, .lsl [i6 50] 1 false]
def w74 : V := .agg [i6 2, i6 0, .bool false, .lsl [i6 3] 1 false, .str [], .nils, .nils]
def w75 : V := .agg [.bool false, .lsl [i6 3] 1 false]
def w76 : V := .agg [i6 3, i6 0, i6 0, i6 0, .bool false, .nils, .str [], .nils, .nils, .bool false, .nils, .bool false, .nils, .nils, .lsl [i6 2, i6 0, i6 0, i6 0, .bool false, .nils, .str [], .nils, .nils, .bool false, .lsl [i6 1] 1 false, .bool false, .lsl [i6 50] 1 false, .nils, .nils] 1 false]
def w77 : V := .agg [i6 5, i6 0, .bool false, .nils, .str [], .nils, .nils]
def w78 : V := .tup [w77, .bool true, i6 0]
def w79 : V := .agg [.bool false, .lsl [i6 49] 1 false]
def w80 : V := .lsl [i6 906842624, i6 1125899] 2 false
def w81 : V := .agg [.bool false, .lsl [i6 262144] 1 false]
def w82 : V := .lsl [i6 2, i6 0, .bool false, .lsl [i6 1] 1 false, .str [], .nils, .nils] 1 false
def w83 : V := .agg [i6 5, i6 0, .bool false, .nils, .str [], w82, .nils]
def w84 : V := .tup [w83, .bool true, i6 0]
def w85 : V := .tup [.agg [.bool false, .nils], i6 0]
def w86 : V := .tup [w42, .bool true, i6 0]
def w87 : V := .lsl [i6 2, i6 0, .bool false, .lsl [i6 3] 1 false, .str [], .nils, .nils] 1 false
def w88 : V := .agg [i6 5, i6 0, .bool false, .nils, .str [], w87, .nils]
def w89 : V := .lsl [i6 1, i6 0, .nils, i6 2, i6 0, .bool false, .lsl [i6 1] 1 false, .str [], .nils, .nils, .nils, i6 1, i6 0, .nils, i6 2, i6 0, .bool false, .lsl [i6 30] 1 false, .str [], .nils, .nils, .nils] 2 false
def w90 : V := .lsl [i6 46, i6 10, .nils, i6 0, i6 0, .bool false, .nils, .str [], .nils, .nils, w89] 1 false
def w91 : V := .lsl [i6 46, i6 17, .nils, i6 0, i6 0, .bool false, .nils, .str [], .nils, .nils, .lsl [i6 4, i6 0, .nils, i6 0, i6 0, .bool false, .nils, .str [], .nils, .nils, .nils] 1 false, i6 1, i6 0, .nils, i6 2, i6 0, .bool false, .lsl [i6 1] 1 false, .str [], .nils, .nils, .nils] 2 false
def w92 : V := .lsl [i6 19, i6 0, .nils, i6 0, i6 0, .bool false, .nils, .str [], .nils, .nils, w91, i6 20, i6 0, .nils, i6 0, i6 0, .bool false, .nils, .str [], .nils, .nils, .lsl [i6 1, i6 0, .nils, i6 2, i6 0, .bool false, .lsl [i6 2] 1 false, .str [], .nils, .nils, .nils, i6 4, i6 0, .nils, i6 0, i6 0, .bool false, .nils, .str [], .nils, .nils, .nils] 2 false] 2 false
def w93 : V := .agg [i6 18, i6 0, .nils, i6 0, i6 0, .bool false, .nils, .str [], .nils, .nils, .lsl [i6 25, i6 0, .nils, i6 0, i6 0, .bool false, .nils, .str [], .nils, .nils, w90, i6 11, i6 0, .nils, i6 0, i6 0, .bool false, .nils, .str [], .nils, .nils, w92] 2 false]
def w94 : V := .agg [i6 2, i6 0, .bool false, .lsl [i6 30] 1 false, .str [], .nils, .nils]
def w95 : V := .agg [.bool false, .lsl [i6 30] 1 false]
def w96 : V := .agg [i6 3, i6 0, i6 0, i6 0, .bool false, .nils, .str [], .nils, .nils, .bool false, .nils, .bool false, .nils, .nils, .lsl [i6 2, i6 0, i6 0, i6 0, .bool false, .nils, .str [], .nils, .nils, .bool false, .lsl [i6 1] 1 false, .bool false, .lsl [i6 30] 1 false, .nils, .nils] 1 false]
def w97 : V := .agg [.bool false, .lsl [i6 29] 1 false]
def w98 : V := .lsl [i6 73741824, i6 1] 2 false
def w99 : V := .agg [.bool false, .lsl [i6 64] 1 false]
def w100 : V := .agg [.bool false, .lsl [i6 16384] 1 false]
def w101 : V := .agg [i6 1, i6 0, i6 5, i6 0, .bool false, .nils, .str [], .nils, .nils, .bool false, .nils, .bool false, .nils, .nils, .nils]
def w102 : V := .agg [i6 1, i6 0, i6 5, i6 0, .bool false, .nils, .str [], w82, .nils, .bool false, .nils, .bool false, .nils, .nils, .nils]
def w103 : V := .agg [i6 1, i6 0, i6 5, i6 0, .bool false, .nils, .str [], w41, .nils, .bool false, .nils, .bool false, .nils, .nils, .nils]
def w104 : V := .agg [i6 25, i6 0, .nils, i6 0, i6 0, .bool false, .nils, .str [], .nils, .nils, w90]
def w105 : V := .agg [i6 0, i6 0, .bool false, .nils, .str [], .nils, .nils]
def w106 : V := .agg [.bool false, .lsl [i6 4000] 1 false]
def w107 : V := .agg [i6 17, i6 1, .nils, i6 0, i6 0, .bool false, .nils, .str [], .nils, .nils, .lsl [i6 47, i6 2, .nils, i6 0, i6 0, .bool false, .nils, .str [], .nils, .nils, .nils, i6 46, i6 8, .nils, i6 0, i6 0, .bool false, .nils, .str [], .nils, .nils, w69] 2 false]
def w108 : V := .agg [i6 13, i6 2, i6 0, i6 0, .bool false, .nils, .str [], .nils, .nils, .bool false, .nils, .bool false, .nils, .nils, .nils]
def w109 : V := .lsl [i6 1, i6 0, .nils, i6 2, i6 0, .bool false, .lsl [i6 1] 1 false, .str [], .nils, .nils, .nils, i6 1, i6 0, .nils, i6 2, i6 0, .bool false, .lsl [i6 10] 1 false, .str [], .nils, .nils, .nils] 2 false
def w110 : V := .lsl [i6 28, i6 0, .nils, i6 0, i6 0, .bool false, .nils, .str [], .nils, .nils, .lsl [i6 46, i6 10, .nils, i6 0, i6 0, .bool false, .nils, .str [], .nils, .nils, w109, i6 47, i6 2, .nils, i6 0, i6 0, .bool false, .nils, .str [], .nils, .nils, .nils] 2 false] 1 false
def w111 : V := .agg [i6 46, i6 17, .nils, i6 0, i6 0, .bool false, .nils, .str [], .nils, .nils, w110]
def w112 : V := .agg [i6 2, i6 0, .bool false, .lsl [i6 10] 1 false, .str [], .nils, .nils]
def w113 : V := .agg [.bool false, .lsl [i6 10] 1 false]
def w114 : V := .lsl [i6 2, i6 0, i6 0, i6 0, .bool false, .nils, .str [], .nils, .nils, .bool false, .lsl [i6 1] 1 false, .bool false, .lsl [i6 10] 1 false, .nils, .nils, i6 13, i6 2, i6 0, i6 0, .bool false, .nils, .str [], .nils, .nils, .bool false, .nils, .bool false, .nils, .nils, .nils] 2 false
def w115 : V := .agg [i6 10, i6 0, i6 0, i6 0, .bool false, .nils, .str [], .nils, .nils, .bool false, .nils, .bool false, .nils, .nils, w114]
def w116 : V := .agg [.bool false, .lsl [i6 9] 1 false]
def w117 : V := .agg [i6 2, i6 0, .bool false, .lsl [i6 4] 1 false, .str [], .nils, .nils]
def w118 : V := .agg [.bool false, .lsl [i6 5] 1 false]
def w119 : V := .agg [i6 2, i6 0, .bool false, .lsl [i6 5] 1 false, .str [], .nils, .nils]
def w120 : V := .agg [.bool false, .lsl [i6 6] 1 false]
def w121 : V := .agg [i6 2, i6 0, .bool false, .lsl [i6 6] 1 false, .str [], .nils, .nils]
def w122 : V := .agg [.bool false, .lsl [i6 7] 1 false]
def w123 : V := .agg [i6 2, i6 0, .bool false, .lsl [i6 7] 1 false, .str [], .nils, .nils]
def w124 : V := .agg [.bool false, .lsl [i6 8] 1 false]
def w125 : V := .agg [i6 2, i6 0, .bool false, .lsl [i6 8] 1 false, .str [], .nils, .nils]
def w126 : V := .agg [i6 2, i6 0, .bool false, .lsl [i6 9] 1 false, .str [], .nils, .nils]
def w127 : V := .agg [i6 2, i6 0, i6 0, i6 0, .bool false, .nils, .str [], .nils, .nils, .bool false, .lsl [i6 1] 1 false, .bool false, .lsl [i6 30] 1 false, .nils, .nils]
def tn1_35 : LL := [([.nils, .lsl [i6 1] 1 false], .lsl [i6 1] 1 false), ([.lsl [i6 10] 1 false, .lsl [i6 2] 1 false], .lsl [i6 12] 1 false), ([.lsl [i6 120] 1 false, .lsl [i6 6] 1 false], .lsl [i6 126] 1 false), ([.lsl [i6 1260] 1 false, .lsl [i6 7] 1 false], .lsl [i6 1267] 1 false), ([.lsl [i6 12670] 1 false, .lsl [i6 6] 1 false], .lsl [i6 12676] 1 false), ([.lsl [i6 126760] 1 false, .lsl [i6 5] 1 false], .lsl [i6 126765] 1 false), ([.lsl [i6 1267650] 1 false, .nils], .lsl [i6 1267650] 1 false), ([.lsl [i6 12676500] 1 false, .lsl [i6 6] 1 false], .lsl [i6 12676506] 1 false), ([.lsl [i6 126765060] 1 false, .nils], .lsl [i6 126765060] 1 false), ([w2, .nils], w2), ([w3, .lsl [i6 2] 1 false], w4), ([w5, .lsl [i6 2] 1 false], w6), ([w7, .lsl [i6 8] 1 false], w8), ([w9, .lsl [i6 2] 1 false], w10), ([w11, .lsl [i6 2] 1 false], w12), ([w13, .lsl [i6 9] 1 false], w14), ([w15, .lsl [i6 4] 1 false], w16), ([w17, .nils], w17), ([w18, .lsl [i6 1] 1 false], w19), ([w20, .lsl [i6 4] 1 false], w21), ([w22, .lsl [i6 9] 1 false], w23), ([w24, .lsl [i6 6] 1 false], w25), ([w26, .lsl [i6 7] 1 false], w27), ([w28, .nils], w28), ([w29, .lsl [i6 3] 1 false], w30), ([w31, .lsl [i6 2] 1 false], w32), ([w33, .nils], w33), ([w34, .lsl [i6 5] 1 false], w35), ([w36, .lsl [i6 3] 1 false], w37), ([w38, .lsl [i6 7] 1 false], w39), ([w40, .lsl [i6 6] 1 false], w0)]
def tn1_33 : LL := [([.lsl [i6 1] 1 false, .lsl [i6 10] 1 false], .lsl [i6 10] 1 false), ([.lsl [i6 12] 1 false, .lsl [i6 10] 1 false], .lsl [i6 120] 1 false), ([.lsl [i6 126] 1 false, .lsl [i6 10] 1 false], .lsl [i6 1260] 1 false), ([.lsl [i6 1267] 1 false, .lsl [i6 10] 1 false], .lsl [i6 12670] 1 false), ([.lsl [i6 12676] 1 false, .lsl [i6 10] 1 false], .lsl [i6 126760] 1 false), ([.lsl [i6 126765] 1 false, .lsl [i6 10] 1 false], .lsl [i6 1267650] 1 false), ([.lsl [i6 1267650] 1 false, .lsl [i6 10] 1 false], .lsl [i6 12676500] 1 false), ([.lsl [i6 12676506] 1 false, .lsl [i6 10] 1 false], .lsl [i6 126765060] 1 false), ([.lsl [i6 126765060] 1 false, .lsl [i6 10] 1 false], w2), ([w2, .lsl [i6 10] 1 false], w3), ([w4, .lsl [i6 10] 1 false], w5), ([w6, .lsl [i6 10] 1 false], w7), ([w8, .lsl [i6 10] 1 false], w9), ([w10, .lsl [i6 10] 1 false], w11), ([w12, .lsl [i6 10] 1 false], w13), ([w14, .lsl [i6 10] 1 false], w15), ([w16, .lsl [i6 10] 1 false], w17), ([w17, .lsl [i6 10] 1 false], w18), ([w19, .lsl [i6 10] 1 false], w20), ([w21, .lsl [i6 10] 1 false], w22), ([w23, .lsl [i6 10] 1 false], w24), ([w25, .lsl [i6 10] 1 false], w26), ([w27, .lsl [i6 10] 1 false], w28), ([w28, .lsl [i6 10] 1 false], w29), ([w30, .lsl [i6 10] 1 false], w31), ([w32, .lsl [i6 10] 1 false], w33), ([w33, .lsl [i6 10] 1 false], w34), ([w35, .lsl [i6 10] 1 false], w36), ([w37, .lsl [i6 10] 1 false], w38), ([w39, .lsl [i6 10] 1 false], w40)]
def tn1_97 : LL := [([w43], .bool true)]
def tn1_54 : LL := [([w42], .tup [i6 2, i6 2])]
def tn1_6 : LL := [([i6 1, i6 100], .agg [i6 46, i6 10, .nils, i6 0, i6 0, .bool false, .nils, .str [], .nils, .nils, w44]), ([i6 0, i6 1], .agg [i6 46, i6 10, .nils, i6 0, i6 0, .bool false, .nils, .str [], .nils, .nils, w47]), ([i6 1, i6 50], .agg [i6 46, i6 10, .nils, i6 0, i6 0, .bool false, .nils, .str [], .nils, .nils, w68]), ([i6 1, i6 30], .agg [i6 46, i6 10, .nils, i6 0, i6 0, .bool false, .nils, .str [], .nils, .nils, w89]), ([i6 1, i6 10], .agg [i6 46, i6 10, .nils, i6 0, i6 0, .bool false, .nils, .str [], .nils, .nils, w109])]
def tn1_285 : LL := [([w50, i6 8000, i6 50], .tup [i6 1, i6 1]), ([w51, i6 8000, i6 50], .tup [i6 1, i6 1]), ([w52, i6 8000, i6 50], .tup [i6 1, i6 1]), ([w53, i6 8000, i6 50], .tup [i6 1, i6 1]), ([w55, i6 8000, i6 50], .tup [i6 1, i6 1]), ([w72, i6 8000, i6 50], .tup [i6 1, i6 1]), ([w74, i6 8000, i6 50], .tup [i6 1, i6 1]), ([w77, i6 8000, i6 50], .tup [i6 1, i6 1]), ([w83, i6 8000, i6 50], .tup [i6 2, i6 2]), ([w42, i6 8000, i6 50], .tup [i6 2, i6 2]), ([w88, i6 8000, i6 50], .tup [i6 2, i6 2]), ([w94, i6 8000, i6 50], .tup [i6 1, i6 1]), ([w43, i6 8000, i6 50], .tup [i6 1, i6 1]), ([w112, i6 8000, i6 50], .tup [i6 1, i6 1]), ([w117, i6 8000, i6 50], .tup [i6 1, i6 1]), ([w119, i6 8000, i6 50], .tup [i6 1, i6 1]), ([w121, i6 8000, i6 50], .tup [i6 1, i6 1]), ([w123, i6 8000, i6 50], .tup [i6 1, i6 1]), ([w125, i6 8000, i6 50], .tup [i6 1, i6 1]), ([w126, i6 8000, i6 50], .tup [i6 1, i6 1])]
def tn1_341 : LL := [([.str [120]], .bool true)]
def tn1_275 : LL := [([w52], .bool true)]
def tn1_263 : LL := [([w54], .int .i64 0), ([w56], .int .i64 0), ([w58], .int .i64 0), ([w60], .int .i64 0), ([w73], .int .i64 0), ([w75], .int .i64 0), ([w79], .int .i64 0), ([w95], .int .i64 0), ([w97], .int .i64 0), ([w113], .int .i64 0), ([w116], .int .i64 0), ([w61], .int .i64 0), ([w118], .int .i64 0), ([w120], .int .i64 0), ([w122], .int .i64 0), ([w124], .int .i64 0)]
def tn1_229 : LL := [([.int .u64 1, .int .u64 0], .tup [.int .u64 0, .int .u64 0])]
def tn1_254 : LL := [([.lsl [i6 100] 1 false, .lsl [i6 1] 1 false], .int .i64 1), ([.lsl [i6 50] 1 false, .lsl [i6 1] 1 false], .int .i64 1), ([.lsl [i6 50] 1 false, .lsl [i6 50] 1 false], .int .i64 0), ([.lsl [i6 1] 1 false, .lsl [i6 1] 1 false], .int .i64 0), ([.lsl [i6 500000000] 1 false, .lsl [i6 1] 1 false], .int .i64 1), ([.lsl [i6 250000000] 1 false, .lsl [i6 1] 1 false], .int .i64 1), ([.lsl [i6 125000000] 1 false, .lsl [i6 1] 1 false], .int .i64 1), ([.lsl [i6 62500000] 1 false, .lsl [i6 1] 1 false], .int .i64 1), ([.lsl [i6 31250000] 1 false, .lsl [i6 1] 1 false], .int .i64 1), ([.lsl [i6 15625000] 1 false, .lsl [i6 1] 1 false], .int .i64 1), ([.lsl [i6 7812500] 1 false, .lsl [i6 1] 1 false], .int .i64 1), ([.lsl [i6 3906250] 1 false, .lsl [i6 1] 1 false], .int .i64 1), ([.lsl [i6 1953125] 1 false, .lsl [i6 1] 1 false], .int .i64 1), ([.lsl [i6 976562] 1 false, .lsl [i6 1] 1 false], .int .i64 1), ([.lsl [i6 488281] 1 false, .lsl [i6 1] 1 false], .int .i64 1), ([.lsl [i6 244140] 1 false, .lsl [i6 1] 1 false], .int .i64 1), ([.lsl [i6 122070] 1 false, .lsl [i6 1] 1 false], .int .i64 1), ([.lsl [i6 61035] 1 false, .lsl [i6 1] 1 false], .int .i64 1), ([.lsl [i6 30517] 1 false, .lsl [i6 1] 1 false], .int .i64 1), ([.lsl [i6 15258] 1 false, .lsl [i6 1] 1 false], .int .i64 1), ([.lsl [i6 7629] 1 false, .lsl [i6 1] 1 false], .int .i64 1), ([.lsl [i6 3814] 1 false, .lsl [i6 1] 1 false], .int .i64 1), ([.lsl [i6 1907] 1 false, .lsl [i6 1] 1 false], .int .i64 1), ([.lsl [i6 953] 1 false, .lsl [i6 1] 1 false], .int .i64 1), ([.lsl [i6 476] 1 false, .lsl [i6 1] 1 false], .int .i64 1), ([.lsl [i6 238] 1 false, .lsl [i6 1] 1 false], .int .i64 1), ([.lsl [i6 119] 1 false, .lsl [i6 1] 1 false], .int .i64 1), ([.lsl [i6 59] 1 false, .lsl [i6 1] 1 false], .int .i64 1), ([.lsl [i6 29] 1 false, .lsl [i6 1] 1 false], .int .i64 1), ([.lsl [i6 14] 1 false, .lsl [i6 1] 1 false], .int .i64 1), ([.lsl [i6 7] 1 false, .lsl [i6 1] 1 false], .int .i64 1), ([.lsl [i6 3] 1 false, .lsl [i6 1] 1 false], .int .i64 1), ([.lsl [i6 2] 1 false, .lsl [i6 1] 1 false], .int .i64 1), ([.lsl [i6 1] 1 false, .lsl [i6 50] 1 false], .int .i64 (-1)), ([.lsl [i6 1] 1 false, .lsl [i6 2] 1 false], .int .i64 (-1)), ([.lsl [i6 50] 1 false, .lsl [i6 2] 1 false], .int .i64 1), ([.lsl [i6 50] 1 false, .lsl [i6 49] 1 false], .int .i64 1), ([.lsl [i6 2] 1 false, .lsl [i6 50] 1 false], .int .i64 (-1)), ([.lsl [i6 30] 1 false, .lsl [i6 1] 1 false], .int .i64 1), ([.lsl [i6 30] 1 false, .lsl [i6 30] 1 false], .int .i64 0), ([.lsl [i6 1] 1 false, .lsl [i6 30] 1 false], .int .i64 (-1)), ([.lsl [i6 10] 1 false, .lsl [i6 1] 1 false], .int .i64 1), ([.lsl [i6 4000] 1 false, .lsl [i6 10] 1 false], .int .i64 1)]
def tn1_189 : LL := [([i6 1], w54), ([i6 2], w60), ([i6 50], w73), ([i6 49], w79), ([i6 30], w95), ([i6 4000], w106), ([i6 3], w75), ([i6 4], w61), ([i6 5], w118), ([i6 6], w120), ([i6 7], w122), ([i6 8], w124), ([i6 9], w116), ([i6 10], w113)]
def tn1_371 : LL := [([w58, w54], w56), ([w79, w54], w73), ([.agg [.bool false, .nils], w54], w54), ([.agg [.bool false, .nils], .agg [.bool false, .nils]], .agg [.bool false, .nils]), ([w54, .agg [.bool false, .nils]], w54), ([.agg [.bool false, .nils], w73], w73), ([w54, w54], w60), ([.agg [.bool false, .nils], w79], w79), ([w60, w54], w75), ([.agg [.bool false, .nils], w60], w60), ([w54, w60], w75), ([w97, w54], w95), ([.agg [.bool false, .nils], w95], w95), ([w116, w54], w113), ([w54, w75], w61), ([w54, w61], w118), ([w54, w118], w120), ([w54, w120], w122), ([w54, w122], w124), ([w54, w124], w116), ([w54, w116], w113)]
def tn1_492 : LL := [([i6 100, i6 10], .str [49, 48, 48])]
def tn1_406 : LL := [([.str [49, 48, 48], i6 10, i6 64], .tup [.int .u64 100, .nili]), ([.str [53, 48], i6 10, i6 64], .tup [.int .u64 50, .nili]), ([.str [48], i6 10, i6 64], .tup [.int .u64 0, .nili]), ([.str [49], i6 10, i6 64], .tup [.int .u64 1, .nili]), ([.str [51, 48], i6 10, i6 64], .tup [.int .u64 30, .nili]), ([.str [49, 48], i6 10, i6 64], .tup [.int .u64 10, .nili])]
def tn1_376 : LL := [([.lsl [i6 2] 1 false, .lsl [i6 2] 1 false], .lsl [i6 4] 1 false), ([.lsl [i6 4] 1 false, .lsl [i6 4] 1 false], .lsl [i6 16] 1 false), ([.lsl [i6 1] 1 false, .lsl [i6 16] 1 false], .lsl [i6 16] 1 false), ([.lsl [i6 16] 1 false, .lsl [i6 16] 1 false], .lsl [i6 256] 1 false), ([.lsl [i6 256] 1 false, .lsl [i6 256] 1 false], .lsl [i6 65536] 1 false), ([.lsl [i6 65536] 1 false, .lsl [i6 65536] 1 false], w65), ([.lsl [i6 16] 1 false, w65], w66), ([w65, w65], w67), ([w66, w67], w0), ([.lsl [i6 1] 1 false, .lsl [i6 4] 1 false], .lsl [i6 4] 1 false), ([.lsl [i6 4] 1 false, .lsl [i6 65536] 1 false], .lsl [i6 262144] 1 false), ([.lsl [i6 262144] 1 false, w65], w80), ([.lsl [i6 1] 1 false, .lsl [i6 500000000] 1 false], .lsl [i6 500000000] 1 false), ([.lsl [i6 1] 1 false, .lsl [i6 250000000] 1 false], .lsl [i6 250000000] 1 false), ([.lsl [i6 1] 1 false, .lsl [i6 125000000] 1 false], .lsl [i6 125000000] 1 false), ([.lsl [i6 1] 1 false, .lsl [i6 62500000] 1 false], .lsl [i6 62500000] 1 false), ([.lsl [i6 1] 1 false, .lsl [i6 31250000] 1 false], .lsl [i6 31250000] 1 false), ([.lsl [i6 1] 1 false, .lsl [i6 15625000] 1 false], .lsl [i6 15625000] 1 false), ([.lsl [i6 1] 1 false, .lsl [i6 7812500] 1 false], .lsl [i6 7812500] 1 false), ([.lsl [i6 1] 1 false, .lsl [i6 3906250] 1 false], .lsl [i6 3906250] 1 false), ([.lsl [i6 1] 1 false, .lsl [i6 1953125] 1 false], .lsl [i6 1953125] 1 false), ([.lsl [i6 1] 1 false, .lsl [i6 976562] 1 false], .lsl [i6 976562] 1 false), ([.lsl [i6 1] 1 false, .lsl [i6 488281] 1 false], .lsl [i6 488281] 1 false), ([.lsl [i6 1] 1 false, .lsl [i6 244140] 1 false], .lsl [i6 244140] 1 false), ([.lsl [i6 1] 1 false, .lsl [i6 122070] 1 false], .lsl [i6 122070] 1 false), ([.lsl [i6 1] 1 false, .lsl [i6 61035] 1 false], .lsl [i6 61035] 1 false), ([.lsl [i6 1] 1 false, .lsl [i6 30517] 1 false], .lsl [i6 30517] 1 false), ([.lsl [i6 1] 1 false, .lsl [i6 15258] 1 false], .lsl [i6 15258] 1 false), ([.lsl [i6 1] 1 false, .lsl [i6 7629] 1 false], .lsl [i6 7629] 1 false), ([.lsl [i6 1] 1 false, .lsl [i6 3814] 1 false], .lsl [i6 3814] 1 false), ([.lsl [i6 1] 1 false, .lsl [i6 1907] 1 false], .lsl [i6 1907] 1 false), ([.lsl [i6 1] 1 false, .lsl [i6 953] 1 false], .lsl [i6 953] 1 false), ([.lsl [i6 1] 1 false, .lsl [i6 476] 1 false], .lsl [i6 476] 1 false), ([.lsl [i6 1] 1 false, .lsl [i6 238] 1 false], .lsl [i6 238] 1 false), ([.lsl [i6 1] 1 false, .lsl [i6 119] 1 false], .lsl [i6 119] 1 false), ([.lsl [i6 1] 1 false, .lsl [i6 59] 1 false], .lsl [i6 59] 1 false), ([.lsl [i6 1] 1 false, .lsl [i6 29] 1 false], .lsl [i6 29] 1 false), ([.lsl [i6 1] 1 false, .lsl [i6 14] 1 false], .lsl [i6 14] 1 false), ([.lsl [i6 1] 1 false, .lsl [i6 7] 1 false], .lsl [i6 7] 1 false), ([.lsl [i6 1] 1 false, .lsl [i6 3] 1 false], .lsl [i6 3] 1 false), ([.lsl [i6 1] 1 false, .lsl [i6 1] 1 false], .lsl [i6 1] 1 false), ([.lsl [i6 1] 1 false, .lsl [i6 2] 1 false], .lsl [i6 2] 1 false), ([.lsl [i6 1] 1 false, .lsl [i6 50] 1 false], .lsl [i6 50] 1 false), ([.lsl [i6 1] 1 false, .lsl [i6 49] 1 false], .lsl [i6 49] 1 false), ([.lsl [i6 4] 1 false, .lsl [i6 16] 1 false], .lsl [i6 64] 1 false), ([.lsl [i6 64] 1 false, .lsl [i6 256] 1 false], .lsl [i6 16384] 1 false), ([.lsl [i6 16384] 1 false, .lsl [i6 65536] 1 false], w98), ([.lsl [i6 1] 1 false, .lsl [i6 30] 1 false], .lsl [i6 30] 1 false)]
def tn1_94 : LL := [([w0, w0], .int .i64 0)]
def tn1_331 : LL := [([w73], .str [53, 48]), ([.agg [.bool false, .nils]], .str [48]), ([w54], .str [49]), ([w95], .str [51, 48]), ([w113], .str [49, 48])]
def tn1_157 : LL := [([w73, .agg [.bool false, .nils]], .int .i64 1), ([.agg [.bool false, .nils], w54], .int .i64 (-1)), ([w54, .agg [.bool false, w80]], .int .i64 (-1)), ([.agg [.bool false, .nils], w73], .int .i64 (-1)), ([w60, .agg [.bool false, w80]], .int .i64 (-1)), ([w75, .agg [.bool false, w80]], .int .i64 (-1)), ([w95, .agg [.bool false, .nils]], .int .i64 1), ([w54, .agg [.bool false, w98]], .int .i64 (-1)), ([.agg [.bool false, .nils], w95], .int .i64 (-1)), ([w60, .agg [.bool false, w98]], .int .i64 (-1)), ([w106, .agg [.bool false, w98]], .int .i64 (-1))]
def tn1_403 : LL := [([.lsl [i6 1] 1 false, .lsl [i6 1] 1 false], .lsl [] 0 false), ([.lsl [i6 50] 1 false, .lsl [i6 50] 1 false], .lsl [] 0 false), ([.lsl [i6 30] 1 false, .lsl [i6 30] 1 false], .lsl [] 0 false)]
def tn1_256 : LL := [([.lsl [.bool false, .nils, .bool false, .nils] 2 false], .int .i64 0)]
def tn1_361 : LL := [([w54, w75], .int .i64 (-1)), ([w60, w75], .int .i64 (-1)), ([w75, w75], .int .i64 0), ([w54, w54], .int .i64 0), ([w54, w60], .int .i64 (-1)), ([w60, w60], .int .i64 0)]
def tn1_50 : LL := [([w51, w51], .int .i64 0), ([w43, w43], .int .i64 0), ([w112, w112], .int .i64 0), ([w105, w105], .int .i64 0)]
def tn1_310 : LL := [([w52, w53], .int .i64 (-1))]
def tn1_184 : LL := [([w108], .int .i64 0)]
def tn1_49 : LL := [([w54, w54], .int .i64 0), ([w95, w95], .int .i64 0)]
def tabs1 : Tabs := (6, tn1_6) :: (33, tn1_33) :: (35, tn1_35) :: (49, tn1_49) :: (50, tn1_50) :: (54, tn1_54) :: (94, tn1_94) :: (97, tn1_97) :: (157, tn1_157) :: (184, tn1_184) :: (189, tn1_189) :: (229, tn1_229) :: (254, tn1_254) :: (256, tn1_256) :: (263, tn1_263) :: (275, tn1_275) :: (285, tn1_285) :: (310, tn1_310) :: (331, tn1_331) :: (341, tn1_341) :: (361, tn1_361) :: (371, tn1_371) :: (376, tn1_376) :: (403, tn1_403) :: (406, tn1_406) :: (492, tn1_492) :: []
def F1 : Env := layer E1 E1 3000 tabs1
def tn2_15 : LL := [([.str [49, 50, 54, 55, 54, 53, 48, 54, 48, 48, 50, 50, 56, 50, 50, 57, 52, 48, 49, 52, 57, 54, 55, 48, 51, 50, 48, 53, 51, 55, 54]], w1)]
def tn2_72 : LL := [([w43], .bool true)]
def tn2_38 : LL := [([w42], .tup [w42, i6 0])]
def tn2_26 : LL := [([], w48)]
def tn2_273 : LL := [([w50], .bool true), ([w51], .bool true), ([w52], .bool true), ([w53], .bool true), ([w55], .bool true), ([w72], .bool true), ([w74], .bool true), ([w77], .bool true), ([w83], .bool true), ([w42], .bool true), ([w88], .bool true), ([w94], .bool true), ([w43], .bool true), ([w112], .bool true), ([w117], .bool true), ([w119], .bool true), ([w121], .bool true), ([w123], .bool true), ([w125], .bool true), ([w126], .bool true)]
def tn2_275 : LL := [([w50], .bool true), ([w53], .bool true), ([w55], .bool true), ([w72], .bool true), ([w74], .bool true), ([w43], .bool true), ([w94], .bool true), ([w112], .bool true), ([w117], .bool true), ([w119], .bool true), ([w121], .bool true), ([w123], .bool true), ([w125], .bool true), ([w126], .bool true)]
def tb2_275 : LL := app tn2_275 tn1_275
def tn2_75 : LL := [([w48], .lsl [] 0 false)]
def tn2_184 : LL := [([w57], .int .i64 0), ([w76], .int .i64 0), ([w96], .int .i64 0), ([w115], .int .i64 0)]
def tb2_184 : LL := app tn2_184 tn1_184
def tn2_157 : LL := [([w56, w54], .int .i64 1), ([w73, w54], .int .i64 1), ([w73, w73], .int .i64 0), ([w54, w54], .int .i64 0), ([w60, w54], .int .i64 1), ([w54, w73], .int .i64 (-1)), ([w54, w60], .int .i64 (-1)), ([w73, w60], .int .i64 1), ([w75, w54], .int .i64 1), ([w60, w73], .int .i64 (-1)), ([w95, w54], .int .i64 1), ([w95, w95], .int .i64 0), ([w54, w95], .int .i64 (-1)), ([w113, w54], .int .i64 1), ([w106, w113], .int .i64 1)]
def tb2_157 : LL := app tn2_157 tn1_157
def tn2_256 : LL := [([.lsl [.bool false, .lsl [i6 100] 1 false, .bool false, .lsl [i6 1] 1 false] 2 false], .int .i64 0), ([.lsl [.bool false, .lsl [i6 99] 1 false, .bool false, .lsl [i6 1] 1 false] 2 false], .int .i64 0), ([.lsl [.bool false, .lsl [i6 2] 1 false, .bool false, .lsl [i6 100] 1 false] 2 false], .int .i64 0), ([.lsl [.bool false, .lsl [i6 50] 1 false, .bool false, .lsl [i6 1] 1 false] 2 false], .int .i64 0), ([.lsl [.bool false, .lsl [i6 49] 1 false, .bool false, .lsl [i6 1] 1 false] 2 false], .int .i64 0), ([.lsl [.bool false, .lsl [i6 2] 1 false, .bool false, .lsl [i6 50] 1 false] 2 false], .int .i64 0), ([.lsl [.bool false, .nils, .bool false, .lsl [i6 1] 1 false] 2 false], .int .i64 0), ([.lsl [.bool false, .lsl [i6 1] 1 false, .bool false, .lsl [i6 1] 1 false] 2 false], .int .i64 0), ([.lsl [.bool false, .lsl [i6 1] 1 false, .bool false, .lsl [i6 50] 1 false] 2 false], .int .i64 0), ([.lsl [.bool false, .lsl [i6 1] 1 false, .bool false, .nils] 2 false], .int .i64 0), ([.lsl [.bool false, .nils, .bool false, .lsl [i6 50] 1 false] 2 false], .int .i64 0), ([.lsl [.bool false, .lsl [i6 50] 1 false, .bool false, .lsl [i6 50] 1 false] 2 false], .int .i64 0), ([.lsl [.bool false, .lsl [i6 2] 1 false, .bool false, .lsl [i6 1] 1 false] 2 false], .int .i64 0), ([.lsl [.bool false, .lsl [i6 1] 1 false, .bool false, .lsl [i6 49] 1 false] 2 false], .int .i64 0), ([.lsl [.bool false, .nils, .bool false, .lsl [i6 49] 1 false] 2 false], .int .i64 0), ([.lsl [.bool false, .lsl [i6 50] 1 false, .bool false, .lsl [i6 49] 1 false] 2 false], .int .i64 0), ([.lsl [.bool false, .lsl [i6 3] 1 false, .bool false, .lsl [i6 1] 1 false] 2 false], .int .i64 0), ([.lsl [.bool false, .nils, .bool false, .lsl [i6 2] 1 false] 2 false], .int .i64 0), ([.lsl [.bool false, .lsl [i6 1] 1 false, .bool false, .lsl [i6 2] 1 false] 2 false], .int .i64 0), ([.lsl [.bool false, .lsl [i6 30] 1 false, .bool false, .lsl [i6 1] 1 false] 2 false], .int .i64 0), ([.lsl [.bool false, .lsl [i6 29] 1 false, .bool false, .lsl [i6 1] 1 false] 2 false], .int .i64 0), ([.lsl [.bool false, .lsl [i6 2] 1 false, .bool false, .lsl [i6 30] 1 false] 2 false], .int .i64 0), ([.lsl [.bool false, .lsl [i6 1] 1 false, .bool false, .lsl [i6 30] 1 false] 2 false], .int .i64 0), ([.lsl [.bool false, .nils, .bool false, .lsl [i6 30] 1 false] 2 false], .int .i64 0), ([.lsl [.bool false, .lsl [i6 30] 1 false, .bool false, .lsl [i6 30] 1 false] 2 false], .int .i64 0), ([.lsl [.bool false, .lsl [i6 10] 1 false, .bool false, .lsl [i6 1] 1 false] 2 false], .int .i64 0), ([.lsl [.bool false, .lsl [i6 9] 1 false, .bool false, .lsl [i6 1] 1 false] 2 false], .int .i64 0), ([.lsl [.bool false, .lsl [i6 1] 1 false, .bool false, .lsl [i6 3] 1 false] 2 false], .int .i64 0), ([.lsl [.bool false, .lsl [i6 1] 1 false, .bool false, .lsl [i6 4] 1 false] 2 false], .int .i64 0), ([.lsl [.bool false, .lsl [i6 1] 1 false, .bool false, .lsl [i6 5] 1 false] 2 false], .int .i64 0), ([.lsl [.bool false, .lsl [i6 1] 1 false, .bool false, .lsl [i6 6] 1 false] 2 false], .int .i64 0), ([.lsl [.bool false, .lsl [i6 1] 1 false, .bool false, .lsl [i6 7] 1 false] 2 false], .int .i64 0), ([.lsl [.bool false, .lsl [i6 1] 1 false, .bool false, .lsl [i6 8] 1 false] 2 false], .int .i64 0), ([.lsl [.bool false, .lsl [i6 1] 1 false, .bool false, .lsl [i6 9] 1 false] 2 false], .int .i64 0)]
def tb2_256 : LL := app tn2_256 tn1_256
def tn2_371 : LL := [([w56, w59], w58), ([w73, w59], w79), ([w54, w59], .agg [.bool false, .nils]), ([w73, .agg [.bool true, .lsl [i6 50] 1 false]], .agg [.bool false, .nils]), ([w60, w59], w54), ([w73, .agg [.bool true, .lsl [i6 49] 1 false]], w54), ([w75, w59], w60), ([w95, w59], w97), ([w95, .agg [.bool true, .lsl [i6 30] 1 false]], .agg [.bool false, .nils]), ([w113, w59], w116)]
def tb2_371 : LL := app tn2_371 tn1_371
def tn2_412 : LL := [([i6 100], .str [49, 48, 48])]
def tn2_377 : LL := [([.str [49, 48, 48], i6 10, i6 64], .tup [i6 100, .nili]), ([.str [53, 48], i6 10, i6 64], .tup [i6 50, .nili]), ([.str [48], i6 10, i6 64], .tup [i6 0, .nili]), ([.str [49], i6 10, i6 64], .tup [i6 1, .nili]), ([.str [51, 48], i6 10, i6 64], .tup [i6 30, .nili]), ([.str [49, 48], i6 10, i6 64], .tup [i6 10, .nili])]
def tn2_329 : LL := [([w60, w60], w61), ([w61, w61], w62), ([w54, w62], w62), ([w62, w62], w63), ([w63, w63], w64), ([w64, w64], .agg [.bool false, w65]), ([w62, .agg [.bool false, w65]], .agg [.bool false, w66]), ([.agg [.bool false, w65], .agg [.bool false, w65]], .agg [.bool false, w67]), ([.agg [.bool false, w66], .agg [.bool false, w67]], .agg [.bool false, w0]), ([w54, w61], w61), ([w61, w64], w81), ([w81, .agg [.bool false, w65]], .agg [.bool false, w80]), ([w54, w73], w73), ([w54, w79], w79), ([w61, w62], w99), ([w99, w63], w100), ([w100, w64], .agg [.bool false, w98]), ([w54, w95], w95)]
def tn2_68 : LL := [([.agg [.bool false, w0], .agg [.bool false, w0]], .int .i64 0)]
def tn2_188 : LL := [([w73, .agg [.bool false, .nils]], .bool false), ([.agg [.bool false, .nils], w54], .bool true), ([w54, .agg [.bool false, w80]], .bool true), ([.agg [.bool false, .nils], w73], .bool true), ([w60, .agg [.bool false, w80]], .bool true), ([w75, .agg [.bool false, w80]], .bool true), ([w95, .agg [.bool false, .nils]], .bool false), ([w54, .agg [.bool false, w98]], .bool true), ([.agg [.bool false, .nils], w95], .bool true), ([w60, .agg [.bool false, w98]], .bool true), ([w106, .agg [.bool false, w98]], .bool true)]
def tn2_621 : LL := [([i6 50, i6 0, .int .i64 (-1)], .agg [.bool false, .nils]), ([i6 30, i6 0, .int .i64 (-1)], .agg [.bool false, .nils])]
def tn2_404 : LL := [([.lsl [i6 1] 1 false, .lsl [i6 1] 1 false], .tup [.lsl [i6 1] 1 false, .lsl [] 0 false])]
def tn2_255 : LL := [([.int .u8 43, .agg [.bool false, .nils], .agg [.bool false, .nils]], w85)]
def tn2_310 : LL := [([w53, w74], .int .i64 (-1)), ([w43, w74], .int .i64 (-1)), ([w74, w74], .int .i64 0), ([w53, w53], .int .i64 0), ([w53, w43], .int .i64 (-1)), ([w43, w43], .int .i64 0)]
def tb2_310 : LL := app tn2_310 tn1_310
def tn2_29 : LL := [([w51, w51], .bool true), ([w112, w112], .bool true)]
def tn2_243 : LL := [([w52, w53], .bool false)]
def tn2_70 : LL := [([w41, w41], .int .i64 0)]
def tn2_83 : LL := [([w108], w108)]
def tn2_27 : LL := [([w127, w127], .bool true)]
def tabs2 : Tabs := (15, tn2_15) :: (26, tn2_26) :: (27, tn2_27) :: (29, tn2_29) :: (38, tn2_38) :: (68, tn2_68) :: (70, tn2_70) :: (72, tn2_72) :: (75, tn2_75) :: (83, tn2_83) :: (157, tb2_157) :: (184, tb2_184) :: (188, tn2_188) :: (243, tn2_243) :: (255, tn2_255) :: (256, tb2_256) :: (273, tn2_273) :: (275, tb2_275) :: (310, tb2_310) :: (329, tn2_329) :: (371, tb2_371) :: (377, tn2_377) :: (404, tn2_404) :: (412, tn2_412) :: (621, tn2_621) :: tabs1
def F2 : Env := layer E1 F1 3000 tabs2
def tn3_53 : LL := [([w43], .bool true)]
def tn3_183 : LL := [([w50], .bool true), ([w51], .bool true), ([w52], .bool true), ([w53], .bool true), ([w55], .bool true), ([w72], .bool true), ([w74], .bool true), ([w77], .bool true), ([w83], .bool true), ([w42], .bool true), ([w88], .bool true), ([w94], .bool true), ([w43], .bool true), ([w112], .bool true), ([w117], .bool true), ([w119], .bool true), ([w121], .bool true), ([w123], .bool true), ([w125], .bool true), ([w126], .bool true)]
def tn3_83 : LL := [([w57], w57), ([w76], w76), ([w96], w96), ([w115], w115)]
def tb3_83 : LL := app tn3_83 tn2_83
def tn3_188 : LL := [([w56, w54], .bool false), ([w73, w54], .bool false), ([w73, w73], .bool false), ([w54, w54], .bool false), ([w60, w54], .bool false), ([w54, w73], .bool true), ([w54, w60], .bool true), ([w73, w60], .bool false), ([w75, w54], .bool false), ([w60, w73], .bool true), ([w95, w54], .bool false), ([w95, w95], .bool false), ([w54, w95], .bool true), ([w113, w54], .bool false), ([w106, w113], .bool false)]
def tb3_188 : LL := app tn3_188 tn2_188
def tn3_372 : LL := [([w56, w54], w58), ([w73, w54], w79), ([w54, w54], .agg [.bool false, .nils]), ([w73, w73], .agg [.bool false, .nils]), ([w60, w54], w54), ([w73, w79], w54), ([w75, w54], w60), ([w95, w54], w97), ([w95, w95], .agg [.bool false, .nils]), ([w113, w54], w116)]
def tn3_255 : LL := [([.int .u8 43, w58, w54], .tup [w56, i6 0]), ([.int .u8 43, w79, w54], .tup [w73, i6 0]), ([.int .u8 43, .agg [.bool false, .nils], w54], .tup [w54, i6 0]), ([.int .u8 42, w54, w73], .tup [w73, i6 0]), ([.int .u8 43, w54, .agg [.bool false, .nils]], .tup [w54, i6 0]), ([.int .u8 43, .agg [.bool false, .nils], w73], .tup [w73, i6 0]), ([.int .u8 43, w54, w54], .tup [w60, i6 0]), ([.int .u8 42, w54, w79], .tup [w79, i6 0]), ([.int .u8 43, .agg [.bool false, .nils], w79], .tup [w79, i6 0]), ([.int .u8 43, w60, w54], .tup [w75, i6 0]), ([.int .u8 43, .agg [.bool false, .nils], w60], .tup [w60, i6 0]), ([.int .u8 43, w54, w60], .tup [w75, i6 0]), ([.int .u8 43, w97, w54], .tup [w95, i6 0]), ([.int .u8 42, w54, w95], .tup [w95, i6 0]), ([.int .u8 43, .agg [.bool false, .nils], w95], .tup [w95, i6 0]), ([.int .u8 43, w116, w54], .tup [w113, i6 0]), ([.int .u8 43, w54, w75], .tup [w61, i6 0]), ([.int .u8 43, w54, w61], .tup [w118, i6 0]), ([.int .u8 43, w54, w118], .tup [w120, i6 0]), ([.int .u8 43, w54, w120], .tup [w122, i6 0]), ([.int .u8 43, w54, w122], .tup [w124, i6 0]), ([.int .u8 43, w54, w124], .tup [w116, i6 0]), ([.int .u8 43, w54, w116], .tup [w113, i6 0])]
def tb3_255 : LL := app tn3_255 tn2_255
def tn3_380 : LL := [([i6 100], .str [49, 48, 48])]
def tn3_330 : LL := [([.str [49, 48, 48], i6 10, i6 64], .tup [i6 100, .nili]), ([.str [53, 48], i6 10, i6 64], .tup [i6 50, .nili]), ([.str [48], i6 10, i6 64], .tup [i6 0, .nili]), ([.str [49], i6 10, i6 64], .tup [i6 1, .nili]), ([.str [51, 48], i6 10, i6 64], .tup [i6 30, .nili]), ([.str [49, 48], i6 10, i6 64], .tup [i6 10, .nili])]
def tn3_260 : LL := [([w60, i6 100], .agg [.bool false, w0]), ([w60, i6 50], .agg [.bool false, w80]), ([w60, i6 30], .agg [.bool false, w98])]
def tn3_50 : LL := [([w46, w46], .int .i64 0), ([w42, w42], .int .i64 0)]
def tb3_50 : LL := app tn3_50 tn1_50
def tn3_374 : LL := [([w54, w54], .tup [w54, .agg [.bool false, .nils]])]
def tn3_158 : LL := [([.agg [.bool false, .nils], .agg [.bool false, .nils]], w85)]
def tn3_271 : LL := [([w82, w74], .tup [i6 1, .bool false]), ([w41, w74], .tup [i6 1, .bool false]), ([w87, w74], .tup [i6 0, .bool true]), ([w82, w43], .tup [i6 1, .bool false]), ([w41, w43], .tup [i6 0, .bool true])]
def tn3_243 : LL := [([w53, w53], .bool true)]
def tb3_243 : LL := app tn3_243 tn2_243
def tn3_27 : LL := [([w96, w96], .bool true)]
def tb3_27 : LL := app tn3_27 tn2_27
def tabs3 : Tabs := (27, tb3_27) :: (50, tb3_50) :: (53, tn3_53) :: (83, tb3_83) :: (158, tn3_158) :: (183, tn3_183) :: (188, tb3_188) :: (243, tb3_243) :: (255, tb3_255) :: (260, tn3_260) :: (271, tn3_271) :: (330, tn3_330) :: (372, tn3_372) :: (374, tn3_374) :: (380, tn3_380) :: tabs2
def F3 : Env := layer E1 F2 3000 tabs3
def tn4_37 : LL := [([w41], .bool true)]
def tn4_80 : LL := [([w50], .int .i64 0), ([w51], .int .i64 0), ([w52], .int .i64 0), ([w53], .int .i64 0), ([w55], .int .i64 0), ([w72], .int .i64 0), ([w74], .int .i64 0), ([w77], .int .i64 0), ([w83], .int .i64 0), ([w42], .int .i64 0), ([w88], .int .i64 0), ([w94], .int .i64 0), ([w43], .int .i64 0), ([w112], .int .i64 0), ([w117], .int .i64 0), ([w119], .int .i64 0), ([w121], .int .i64 0), ([w123], .int .i64 0), ([w125], .int .i64 0), ([w126], .int .i64 0)]
def tn4_255 : LL := [([.int .u8 45, w56, w54], .tup [w58, i6 0]), ([.int .u8 45, w73, w54], .tup [w79, i6 0]), ([.int .u8 45, w54, w54], w85), ([.int .u8 45, w73, w73], w85), ([.int .u8 45, w60, w54], .tup [w54, i6 0]), ([.int .u8 45, w73, w79], .tup [w54, i6 0]), ([.int .u8 45, w75, w54], .tup [w60, i6 0]), ([.int .u8 45, w95, w54], .tup [w97, i6 0]), ([.int .u8 45, w95, w95], w85), ([.int .u8 45, w113, w54], .tup [w116, i6 0])]
def tb4_255 : LL := app tn4_255 tb3_255
def tn4_158 : LL := [([w58, w54], .tup [w56, i6 0]), ([w79, w54], .tup [w73, i6 0]), ([.agg [.bool false, .nils], w54], .tup [w54, i6 0]), ([w54, .agg [.bool false, .nils]], .tup [w54, i6 0]), ([.agg [.bool false, .nils], w73], .tup [w73, i6 0]), ([w54, w54], .tup [w60, i6 0]), ([.agg [.bool false, .nils], w79], .tup [w79, i6 0]), ([w60, w54], .tup [w75, i6 0]), ([.agg [.bool false, .nils], w60], .tup [w60, i6 0]), ([w54, w60], .tup [w75, i6 0]), ([w97, w54], .tup [w95, i6 0]), ([.agg [.bool false, .nils], w95], .tup [w95, i6 0]), ([w116, w54], .tup [w113, i6 0]), ([w54, w75], .tup [w61, i6 0]), ([w54, w61], .tup [w118, i6 0]), ([w54, w118], .tup [w120, i6 0]), ([w54, w120], .tup [w122, i6 0]), ([w54, w122], .tup [w124, i6 0]), ([w54, w124], .tup [w116, i6 0]), ([w54, w116], .tup [w113, i6 0])]
def tb4_158 : LL := app tn4_158 tn3_158
def tn4_331 : LL := [([w56], .str [49, 48, 48])]
def tb4_331 : LL := app tn4_331 tn1_331
def tn4_29 : LL := [([w46, w46], .bool true), ([w42, w42], .bool true)]
def tb4_29 : LL := app tn4_29 tn2_29
def tn4_261 : LL := [([w73], .tup [i6 50, i6 0]), ([.agg [.bool false, .nils]], .tup [i6 0, i6 0]), ([w54], .tup [i6 1, i6 0]), ([w95], .tup [i6 30, i6 0]), ([w113], .tup [i6 10, i6 0])]
def tn4_318 : LL := [([w77, w74], .bool false), ([w83, w74], .bool false), ([w42, w74], .bool false), ([w88, w74], .bool true), ([w83, w43], .bool false), ([w42, w43], .bool true)]
def tn4_373 : LL := [([w54, w54], w54)]
def tn4_160 : LL := [([w54, w73], .tup [w73, i6 0]), ([w54, w79], .tup [w79, i6 0]), ([w54, w95], .tup [w95, i6 0])]
def tn4_359 : LL := [([.agg [.bool false, .nils], .agg [.bool false, .nils]], .agg [.bool false, .nils])]
def tabs4 : Tabs := (29, tb4_29) :: (37, tn4_37) :: (80, tn4_80) :: (158, tb4_158) :: (160, tn4_160) :: (255, tb4_255) :: (261, tn4_261) :: (318, tn4_318) :: (331, tb4_331) :: (359, tn4_359) :: (373, tn4_373) :: tabs3
def F4 : Env := layer E1 F3 3000 tabs4
def tn5_16 : LL := [([w41], .tup [w42, i6 0])]
def tn5_208 : LL := [([.str [120]], .bool true)]
def tn5_78 : LL := [([w48, w45, i6 0], .bool true), ([w48, w71, i6 0], .bool true), ([w48, w93, i6 0], .bool true), ([w48, w104, i6 0], .bool true), ([w48, w107, i6 0], .bool true), ([w48, w111, i6 0], .bool true)]
def tn5_159 : LL := [([w56, w54], .tup [w58, i6 0]), ([w73, w54], .tup [w79, i6 0]), ([w54, w54], w85), ([w73, w73], w85), ([w60, w54], .tup [w54, i6 0]), ([w73, w79], .tup [w54, i6 0]), ([w75, w54], .tup [w60, i6 0]), ([w95, w54], .tup [w97, i6 0]), ([w95, w95], w85), ([w113, w54], .tup [w116, i6 0])]
def tn5_359 : LL := [([w58, w54], w56), ([w79, w54], w73), ([.agg [.bool false, .nils], w54], w54), ([w54, .agg [.bool false, .nils]], w54), ([.agg [.bool false, .nils], w73], w73), ([w54, w54], w60), ([.agg [.bool false, .nils], w79], w79), ([w60, w54], w75), ([.agg [.bool false, .nils], w60], w60), ([w54, w60], w75), ([w97, w54], w95), ([.agg [.bool false, .nils], w95], w95), ([w116, w54], w113), ([w54, w75], w61), ([w54, w61], w118), ([w54, w118], w120), ([w54, w120], w122), ([w54, w122], w124), ([w54, w124], w116), ([w54, w116], w113)]
def tb5_359 : LL := app tn5_359 tn4_359
def tn5_261 : LL := [([w56], .tup [i6 100, i6 0])]
def tb5_261 : LL := app tn5_261 tn4_261
def tn5_163 : LL := [([w60, w73], .tup [.agg [.bool false, w80], i6 0]), ([w60, w95], .tup [.agg [.bool false, w98], i6 0])]
def tn5_191 : LL := [([w73], .int .i64 50), ([.agg [.bool false, .nils]], .int .i64 0), ([w54], .int .i64 1), ([w95], .int .i64 30), ([w113], .int .i64 10)]
def tn5_193 : LL := [([w77], .tup [w77, i6 0]), ([w83], .tup [w83, i6 0]), ([w42], .tup [w42, i6 0]), ([w88], .tup [w88, i6 0])]
def tn5_357 : LL := [([w77], .int .i64 0), ([w83], .int .i64 0), ([w42], .int .i64 0)]
def tn5_255 : LL := [([.int .u8 47, w54, w54], .tup [w54, i6 0])]
def tb5_255 : LL := app tn5_255 tb4_255
def tn5_625 : LL := [([w54, w73], w73), ([w54, w79], w79), ([w54, w95], w95)]
def tn5_184 : LL := [([w101], .int .i64 0), ([w102], .int .i64 0), ([w103], .int .i64 0)]
def tb5_184 : LL := app tn5_184 tb2_184
def tabs5 : Tabs := (16, tn5_16) :: (78, tn5_78) :: (159, tn5_159) :: (163, tn5_163) :: (184, tb5_184) :: (191, tn5_191) :: (193, tn5_193) :: (208, tn5_208) :: (255, tb5_255) :: (261, tb5_261) :: (357, tn5_357) :: (359, tb5_359) :: (625, tn5_625) :: tabs4
def F5 : Env := layer E1 F4 3000 tabs5
def tn6_101 : LL := [([.lsl [.str [120]] 1 false], .bool true)]
def tn6_606 : LL := [([w56, w54], w58), ([w73, w54], w79), ([w54, w54], .agg [.bool false, .nils]), ([w73, w73], .agg [.bool false, .nils]), ([w60, w54], w54), ([w73, w79], w54), ([w75, w54], w60), ([w95, w54], w97), ([w95, w95], .agg [.bool false, .nils]), ([w113, w54], w116)]
def tn6_163 : LL := [([w60, w56], w1)]
def tb6_163 : LL := app tn6_163 tn5_163
def tn6_161 : LL := [([w54, w54], .tup [w54, i6 0])]
def tn6_621 : LL := [([i6 50, i6 0, i6 0], w54), ([i6 30, i6 0, i6 0], w54)]
def tb6_621 : LL := app tn6_621 tn2_621
def tn6_322 : LL := [([w101], w85), ([w102], .tup [w54, i6 0]), ([w103], .tup [w54, i6 0])]
def tabs6 : Tabs := (101, tn6_101) :: (161, tn6_161) :: (163, tb6_163) :: (322, tn6_322) :: (606, tn6_606) :: (621, tb6_621) :: tabs5
def F6 : Env := layer E1 F5 3000 tabs6
def tn7_56 : LL := [([w48], .int .i64 0)]
def tn7_322 : LL := [([w57], w1), ([w115], .tup [w113, i6 0])]
def tb7_322 : LL := app tn7_322 tn6_322
def tn7_308 : LL := [([w76], w78), ([w96], w78)]
def tn7_626 : LL := [([w54, w54], w54)]
def tn7_89 : LL := [([w96], .tup [w105, i6 2])]
def tabs7 : Tabs := (56, tn7_56) :: (89, tn7_89) :: (308, tn7_308) :: (322, tb7_322) :: (626, tn7_626) :: tabs6
def F7 : Env := layer E1 F6 3000 tabs7
def tn8_58 : LL := [([w48, w45, i6 0], .int .i64 0), ([w48, w71, i6 0], .int .i64 0), ([w48, w93, i6 0], .int .i64 0), ([w48, w104, i6 0], .int .i64 0), ([w48, w107, i6 0], .int .i64 0), ([w48, w111, i6 0], .int .i64 0)]
def tn8_624 : LL := [([w54, i6 50, i6 1], w73), ([w54, i6 49, i6 1], w79), ([w54, i6 30, i6 1], w95)]
def tabs8 : Tabs := (58, tn8_58) :: (624, tn8_624) :: tabs7
def F8 : Env := layer E1 F7 3000 tabs8
def tn9_43 : LL := [([w48, w45, w49], .int .i64 0), ([w48, w71, w49], .int .i64 0), ([w48, w93, w49], .int .i64 0), ([w48, w104, w49], .int .i64 0), ([w48, w107, w49], .int .i64 0), ([w48, w111, w49], .int .i64 0)]
def tn9_309 : LL := [([w76, w77], w84), ([w96, w77], w84)]
def tn9_621 : LL := [([i6 50, i6 1, i6 1], w73), ([i6 49, i6 1, i6 1], w79), ([i6 30, i6 1, i6 1], w95)]
def tb9_621 : LL := app tn9_621 tb6_621
def tabs9 : Tabs := (43, tn9_43) :: (309, tn9_309) :: (621, tb9_621) :: tabs8
def F9 : Env := layer E1 F8 3000 tabs9
def tn10_51 : LL := [([w48, w45, w49], .tup [w46, i6 0, i6 0]), ([w48, w104, w49], .tup [w105, i6 6, i6 0]), ([w48, w107, w49], .tup [w105, i6 7, i6 0]), ([w48, w111, w49], .tup [w112, i6 0, i6 0])]
def tn10_309 : LL := [([w76, w83], w86), ([w76, w42], .tup [w88, .bool true, i6 0]), ([w96, w83], w86)]
def tb10_309 : LL := app tn10_309 tn9_309
def tn10_25 : LL := [([w48, w104, w49], .tup [w96, i6 0, i6 0])]
def tabs10 : Tabs := (25, tn10_25) :: (51, tn10_51) :: (309, tb10_309) :: tabs9
def F10 : Env := layer E1 F9 3000 tabs10
def tn11_28 : LL := [([w45], .tup [w46, i6 0]), ([w104], .tup [w105, i6 6]), ([w107], .tup [w105, i6 7]), ([w111], .tup [w112, i6 0])]
def tn11_51 : LL := [([w48, w71, w49], .tup [w51, i6 0, i6 0]), ([w48, w93, w49], .tup [w42, i6 0, i6 0])]
def tb11_51 : LL := app tn11_51 tn10_51
def tabs11 : Tabs := (28, tn11_28) :: (51, tb11_51) :: tabs10
def F11 : Env := layer E1 F10 3000 tabs11
def tn12_8 : LL := [([w45, w46], .bool true), ([w111, w112], .bool true)]
def tn12_28 : LL := [([w71], .tup [w51, i6 0]), ([w93], .tup [w42, i6 0])]
def tb12_28 : LL := app tn12_28 tn11_28
def tn12_22 : LL := [([w104, i6 6], .bool true), ([w107, i6 7], .bool true)]
def tabs12 : Tabs := (8, tn12_8) :: (22, tn12_22) :: (28, tb12_28) :: tabs11
def F12 : Env := layer E1 F11 3000 tabs12
def tn13_8 : LL := [([w71, w51], .bool true), ([w93, w42], .bool true)]
def tb13_8 : LL := app tn13_8 tn12_8
def tabs13 : Tabs := (8, tb13_8) :: tabs12
def F13 : Env := layer E1 F12 3000 tabs13
def tn14_4 : LL := [([], .bool true)]
end
end Go.AM.E15
end
section
namespace Go.AM.E15
open Go
noncomputable section
def limbsF (f : Nat) : Nat → List Nat := Nat.rec (motive := fun _ => Nat → List Nat) (fun _ => []) (fun _ ih n => natC n [] fun _ => (n % 1000000000) :: ih (n / 1000000000)) f
def limbs (n : Nat) : List Nat := limbsF n n
def intI (n : Nat) : V := .int .i64 (Int.ofNat n)
def cellsL (l : List Nat) : List V := mapL intI l
def digN (n : Nat) : V := natC n .nils fun _ => .lsl (cellsL (limbs n)) (len (limbs n)) false
def dig (x : Int) : V := digN x.natAbs
def neg (x : Int) : Bool := Int.rec (motive := fun _ => Bool) (fun _ => false) (fun _ => true) x
def intV (x : Int) : V := .agg [.bool (neg x), dig x]
def okV0 : V := .int .i64 0
def valV (x : Int) : V := .agg [.int .i64 2, .int .i64 0, .bool (neg x), dig x, .str [], .nils, .nils]
def ipow (x y : Int) : Int := x ^ y.toNat
def memL (l : List Nat) (f : Nat) : Bool := List.rec (motive := fun _ => Bool) false (fun g _ ih => boolC (Nat.beq f g) ih true) l
def conL : List Nat := [10, 11, 12, 40, 68, 80, 153, 157, 158, 159, 160, 163, 188, 261, 263, 265, 33, 36, 94, 221, 260, 328, 329, 376, 384, 486]
def modeL (f : Nat) : Mode := boolC (Nat.beq f 8) (boolC (memL conL f) .N .E) .R
def EL : Env := { layer E1 E1 0 [(56, tn7_56), (4, [([], .bool true)])] with mode := modeL }
def exR (x r : CR) : Prop := match r with
  | .ret v _ rd => ∃ s', x = .ret v s' rd
  | _ => True
theorem exR_refl (x : CR) : exR x x := by
  cases x with
  | ret v s rd => exact ⟨s, rfl⟩
  | _ => trivial
theorem inl_ex {E : Env} {cs : List Con} {ds : List V} {es : List EQ} (hd : ∀ d ∈ ds, oneV d = true) (he : ∀ q ∈ es, q.Holds) {n0 : Nat} (hc : ∀ n, n0 ≤ n → ∀ c ∈ cs, ∀ s, okS c.2.2.1 s → (recN E n).call c.1 c.2.1 s = .ret c.2.2.2 s false) (D f : Nat) (args : List V) (s : S) (z : ZJ) :
    bodyJ E cs ds es (loN E cs ds es D) f args false none s z fun r _ => exR (doBody E (recN E (n0 + 1 + D)) f args false none s) r :=
  bodyJ_ok (underN hd he hc D) hd he fun r _ q => by rw [← q]; exact exR_refl _
theorem inl_run {E : Env} {cs : List Con} {ds : List V} {es : List EQ} (hd : ∀ d ∈ ds, oneV d = true) (he : ∀ q ∈ es, q.Holds) {n0 : Nat} (hc : ∀ n, n0 ≤ n → ∀ c ∈ cs, ∀ s, okS c.2.2.1 s → (recN E n).call c.1 c.2.1 s = .ret c.2.2.2 s false) (D f : Nat) (args : List V) (z : ZJ) :
    bodyJ E cs ds es (loN E cs ds es D) f args false none s0 z fun r _ => runE E (n0 + 1 + D) f args = outE r :=
  bodyJ_ok (underN hd he hc D) hd he fun r _ q => by rw [← q]; rfl
theorem fa_nil {α : Type} {P : α → Prop} : ∀ q ∈ ([] : List α), P q := fun q h => by cases h
theorem fa_cons {α : Type} {P : α → Prop} {x : α} {l : List α} (h : P x) (t : ∀ q ∈ l, P q) : ∀ q ∈ x :: l, P q := by
  intro q hq
  rcases List.mem_cons.1 hq with rfl | hq
  · exact h
  · exact t q hq
theorem bleF {a b : Int} (h : b < a) : V.bool (leI a b) = .bool false := by rw [leI_eq, decide_eq_false (by omega)]
theorem bnleT {a b : Int} (h : b < a) : V.bool (!leI a b) = .bool true := by rw [leI_eq, decide_eq_false (by omega)]; rfl
theorem bnleF {a b : Int} (h : a ≤ b) : V.bool (!leI a b) = .bool false := by rw [leI_eq, decide_eq_true h]; rfl
theorem beqF {a b : Int} (h : a ≠ b) : V.bool (eqI a b) = .bool false := by rw [eqI_eq, decide_eq_false h]
theorem bneT {a b : Int} (h : a ≠ b) : V.bool (!eqI a b) = .bool true := by rw [eqI_eq, decide_eq_false h]; rfl
theorem bneF {a b : Int} (h : a = b) : V.bool (!eqI a b) = .bool false := by rw [eqI_eq, decide_eq_true h]; rfl
theorem wi64 {a b : Int} (h : a = b) (h1 : -9223372036854775808 ≤ b) (h2 : b ≤ 9223372036854775807) : V.int .i64 (wrap .i64 a) = .int .i64 b := by
  subst h
  unfold wrap
  rw [leI_eq, leI_eq, decide_eq_true (show lo .i64 ≤ a from h1), decide_eq_true (show a ≤ hi .i64 from h2)]; rfl
theorem wu64 {a b : Int} (h : a = b) (h1 : 0 ≤ b) (h2 : b ≤ 18446744073709551615) : V.int .u64 (wrap .u64 a) = .int .u64 b := by
  subst h
  unfold wrap
  rw [leI_eq, leI_eq, decide_eq_true (show lo .u64 ≤ a from h1), decide_eq_true (show a ≤ hi .u64 from h2)]; rfl
theorem tmod_b {a : Int} (h1 : -1000000000 < a) (h2 : a < 1000000000) : Int.tmod a 1000000000 = a := by
  rcases Int.le_total 0 a with h | h
  · exact Int.tmod_eq_of_lt h h2
  · obtain ⟨b, rfl⟩ : ∃ b, a = -b := ⟨-a, by omega⟩
    rw [Int.neg_tmod, Int.tmod_eq_of_lt (a := b) (by omega) (by omega)]
theorem tdiv_b {a : Int} (h1 : -1000000000 < a) (h2 : a < 1000000000) : Int.tdiv a 1000000000 = 0 := by
  rcases Int.le_total 0 a with h | h
  · exact Int.tdiv_eq_zero_of_lt h h2
  · obtain ⟨b, rfl⟩ : ∃ b, a = -b := ⟨-a, by omega⟩
    rw [Int.neg_tdiv, Int.tdiv_eq_zero_of_lt (a := b) (by omega) (by omega)]; rfl
theorem vmod {k : IntKind} {a b : Int} (h : a = b) (h1 : -1000000000 < b) (h2 : b < 1000000000) : V.int k (Int.tmod a 1000000000) = .int k b := by
  subst h; rw [tmod_b h1 h2]
def pV (x : Int) : V := .agg [.bool false, .lsl [.int .i64 x] 1 false]
def nV (x : Int) : V := .agg [.bool true, .lsl [.int .i64 x] 1 false]
def zV : V := .agg [.bool false, .nils]
theorem limbs_one {n : Nat} (h : 0 < n) (h' : n < 1000000000) : limbs n = [n] := by
  cases n with
  | zero => omega
  | succ n =>
    show ((n + 1) % 1000000000) :: limbsF n ((n + 1) / 1000000000) = _
    rw [Nat.mod_eq_of_lt h', Nat.div_eq_of_lt h']
    cases n <;> rfl
theorem digN_one {n : Nat} (h : 0 < n) (h' : n < 1000000000) : digN n = .lsl [.int .i64 n] 1 false := by
  cases n with
  | zero => omega
  | succ n =>
    show V.lsl (cellsL (limbs (n + 1))) (len (limbs (n + 1))) false = _
    rw [limbs_one h h']; rfl
theorem intV_pos {x : Int} (h : 0 < x) (h' : x < 1000000000) : intV x = pV x := by
  obtain ⟨n, rfl⟩ := Int.eq_ofNat_of_zero_le (Int.le_of_lt h)
  show V.agg [.bool false, digN n] = _
  rw [digN_one (by omega) (by omega)] <;> rfl
theorem intV_neg {x : Int} (h : 0 < x) (h' : x < 1000000000) : intV (-x) = nV x := by
  obtain ⟨n, rfl⟩ := Int.eq_ofNat_of_zero_le (Int.le_of_lt h)
  cases n with
  | zero => omega
  | succ n =>
    show V.agg [.bool true, digN (n + 1)] = _
    rw [digN_one (by omega) (by omega)] <;> rfl
theorem valV_pos {x : Int} (h : 0 < x) (h' : x < 1000000000) : valV x = .agg [.int .i64 2, .int .i64 0, .bool false, .lsl [.int .i64 x] 1 false, .str [], .nils, .nils] := by
  obtain ⟨n, rfl⟩ := Int.eq_ofNat_of_zero_le (Int.le_of_lt h)
  show V.agg [.int .i64 2, .int .i64 0, .bool false, digN n, .str [], .nils, .nils] = _
  rw [digN_one (by omega) (by omega)] <;> rfl
theorem valV_neg {x : Int} (h : 0 < x) (h' : x < 1000000000) : valV (-x) = .agg [.int .i64 2, .int .i64 0, .bool true, .lsl [.int .i64 x] 1 false, .str [], .nils, .nils] := by
  obtain ⟨n, rfl⟩ := Int.eq_ofNat_of_zero_le (Int.le_of_lt h)
  cases n with
  | zero => omega
  | succ n =>
    show V.agg [.int .i64 2, .int .i64 0, .bool true, digN (n + 1), .str [], .nils, .nils] = _
    rw [digN_one (by omega) (by omega)] <;> rfl
theorem digN_cases (n : Nat) : digN n = .nils ∨ ∃ c k, digN n = .lsl c (k + 1) false := by
  cases n with
  | zero => exact .inl rfl
  | succ n => exact .inr ⟨_, _, rfl⟩
theorem oneV_dig (x : Int) : oneV (dig x) = true := by
  unfold dig
  rcases digN_cases x.natAbs with h | ⟨c, k, h⟩ <;> rw [h] <;> rfl
theorem rsv_int (h : Tr B) (keep : Nat → Bool) (x : Int) : rsvN h keep deep false (intV x) = some (intV x) := by
  unfold intV dig
  rcases digN_cases x.natAbs with e | ⟨c, k, e⟩ <;> rw [e] <;> rfl
theorem rsv_val (h : Tr B) (keep : Nat → Bool) (x : Int) : rsvN h keep deep false (valV x) = some (valV x) := by
  unfold valV dig
  rcases digN_cases x.natAbs with e | ⟨c, k, e⟩ <;> rw [e] <;> rfl
theorem reach_int (h : Tr B) (x : Int) : reachN h deep (intV x) = [] := by
  unfold intV dig
  rcases digN_cases x.natAbs with e | ⟨c, k, e⟩ <;> rw [e] <;> rfl
theorem reach_val (h : Tr B) (x : Int) : reachN h deep (valV x) = [] := by
  unfold valV dig
  rcases digN_cases x.natAbs with e | ⟨c, k, e⟩ <;> rw [e] <;> rfl
def Plain (a : V) : Prop := ∀ h, rsvN h noBlk deep false a = some a ∧ reachN h deep a = []
theorem plain_int (x : Int) : Plain (intV x) := fun h => ⟨rsv_int h _ x, reach_int h x⟩
theorem plain_val (x : Int) : Plain (valV x) := fun h => ⟨rsv_val h _ x, reach_val h x⟩
theorem plain_i64 (x : Int) : Plain (.int .i64 x) := fun h => ⟨rfl, rfl⟩
theorem call_of {E : Env} {n f : Nat} {al : List V} {v : V} (hm : E.mode f = .E) (ho : E.ov f = none) (hp : ∀ a ∈ al, Plain a) (h : runE E n f al = some v) (s : S) : (recN E (n + 1)).call f al s = .ret v s false := by
  show doCall E (recN E n) f al s = _
  unfold doCall
  rw [ho]
  show callM E (recN E n) f al s (E.mode f) = _
  rw [hm]
  show callE E (recN E n) f al s = _
  unfold callE
  have h1 : rsvL (rsvN s.heap noBlk deep false) al = some al := by
    clear h
    induction al with
    | nil => rfl
    | cons a al ih =>
      show consO (rsvN s.heap noBlk deep false a) (rsvL (rsvN s.heap noBlk deep false) al) = _
      rw [(hp a (List.mem_cons_self ..) s.heap).1, ih fun a ha => hp a (List.mem_cons_of_mem _ ha)]; rfl
  have h2 : reachL (reachN s.heap deep) al = [] := by
    clear h h1
    induction al with
    | nil => rfl
    | cons a al ih =>
      show app (reachN s.heap deep a) (reachL (reachN s.heap deep) al) = _
      rw [(hp a (List.mem_cons_self ..) s.heap).2, ih fun a ha => hp a (List.mem_cons_of_mem _ ha)]; rfl
  rw [h1]
  show frozenE s.heap al s (backR noBlk s (doBody E (recN E n) f al false none s0)) = _
  have h : outE (doBody E (recN E n) f al false none s0) = some v := h
  cases hd : doBody E (recN E n) f al false none s0 with
  | fail => rw [hd] at h; cases h
  | pan w s1 rd => rw [hd] at h; cases h
  | ret w s1 rd =>
    rw [hd] at h
    have h : rsvN s1.heap noBlk deep false w = some v := h
    have : backR noBlk s (.ret w s1 rd) = .ret v s false := by
      show retV (rsvN s1.heap noBlk deep false w) s = _
      rw [h]; rfl
    rw [this]
    show boolC (hasLit v) (.ret v s false) (optC (s.freeze (reachL (reachN s.heap deep) al)) .fail (withS (.ret v s false))) = _
    rw [h2]
    cases hasLit v <;> rfl
def cj (n j : Nat) : Nat × TJ := (n, .con j)
def vj (n j : Nat) : Nat × TJ := (n, .val j)
def oj (n i j : Nat) : Nat × TJ := (n, .opq [(i, j)])
def oj2 (n i j k l : Nat) : Nat × TJ := (n, .opq [(i, j), (k, l)])
def fj (n i j : Nat) : Nat × TJ := (n, .fix [(i, j)])
def er (v : V) : EQ := .eq v v
def wv (x : Int) : V := .agg [.int .i64 1, .int .i64 0, .nils, .int .i64 2, .int .i64 0, .bool (neg x), dig x, .str [], .nils, .nils, .nils]
def cI (f : Nat) (x : Int) : Con := (f, [.int .i64 x], none, intV x)
def cV (x : Int) : Con := (80, [valV x], none, okV0)
def cN (x : Int) : Con := (263, [intV x], none, okV0)
def cL (x y : Int) (b : Bool) : Con := (188, [intV x, intV y], none, .bool b)
def cT (f : Nat) (x y z : Int) : Con := (f, [intV x, intV y], none, .tup [intV z, okV0])
def cS (x : Int) (n : Int) : Con := (153, [intV x], none, .int .i64 n)
end
end Go.AM.E15
end
section
namespace Go.AM.E15
open Go
noncomputable section
def sl (c : Code) : Code := match c with | .seq a _ => a | c => c
def sr (c : Code) : Code := match c with | .seq _ b => b | c => c
def unB (c : Code) : Code := match c with | .block _ b => b | c => c
def unL (c : Code) : Code := match c with | .loop b => b | c => c
def bodyOf (f : Func) : Code := match f.body with | some c => c | none => .skip
def restT (tl : Nat → V) (k : Nat) : Nat → List V := Nat.rec (motive := fun _ => Nat → List V) (fun _ => []) (fun _ ih i => tl i :: ih (i + 1)) k
theorem rest_form : ∀ (T : List V) (i : Nat), ∃ tl, T = restT tl (len T) i
  | [], i => ⟨fun _ => .nils, rfl⟩
  | x :: T, i => by
    obtain ⟨tl, h⟩ := rest_form T (i + 1)
    refine ⟨fun j => if j = i then x else tl j, ?_⟩
    show x :: T = (if i = i then x else tl i) :: restT (fun j => if j = i then x else tl j) (len T) (i + 1)
    rw [if_pos rfl]
    congr 1
    have : ∀ k q, i < q → restT (fun j => if j = i then x else tl j) k q = restT tl k q := by
      intro k
      induction k with
      | zero => intro q _; rfl
      | succ k ih =>
        intro q hq
        show (if q = i then x else tl q) :: _ = tl q :: _
        have := ih (q + 1) (by omega)
        rw [if_neg (by omega)]; exact congrArg (tl q :: ·) this
    rw [this _ _ (Nat.lt_succ_self i)]; exact h
theorem T_form : ∀ (n : Nat) (T l : List V) (k : Nat), len T = n + k → takeB n T = l → ∃ tl, T = app l (restT tl k n)
  | n, T, l, k, h1, h2 => by
    have key : ∀ (n : Nat) (T l : List V) (i : Nat), len T = n + k → takeB n T = l → ∃ tl, T = app l (restT tl k i) := by
      intro n
      induction n with
      | zero =>
        intro T l i h1 h2
        have h2 : [] = l := h2
        subst h2
        obtain ⟨tl, h⟩ := rest_form T i
        rw [show len T = k by omega] at h
        exact ⟨tl, h⟩
      | succ n ih =>
        intro T l i h1 h2
        cases T with
        | nil => exact absurd h1 (by show ¬ 0 = _; omega)
        | cons x T =>
          have h2 : x :: takeB n T = l := h2
          subst h2
          have h1 : Nat.succ (len T) = n + 1 + k := h1
          obtain ⟨tl, h⟩ := ih T (takeB n T) i (by omega) rfl
          exact ⟨tl, congrArg (x :: ·) h⟩
    exact key n T l n h1 h2
def nrm (n : Nat) (x r : R) : Prop := match r with
  | .norm T m s => ∃ T', len T' = len T ∧ takeB n T' = takeB n T ∧ x = .norm T' m s
  | .exit i T m s => ∃ T', len T' = len T ∧ takeB n T' = takeB n T ∧ x = .exit i T' m s
  | .ret T m s => ∃ T', len T' = len T ∧ takeB n T' = takeB n T ∧ x = .ret T' m s
  | _ => True
theorem nrm_refl (n : Nat) (x : R) : nrm n x x := by
  cases x with
  | norm T m s => exact ⟨T, rfl, rfl, rfl⟩
  | exit i T m s => exact ⟨T, rfl, rfl, rfl⟩
  | ret T m s => exact ⟨T, rfl, rfl, rfl⟩
  | _ => trivial
theorem code_ex {E : Env} {cs : List Con} {ds : List V} {es : List EQ} (hd : ∀ d ∈ ds, oneV d = true) (he : ∀ q ∈ es, q.Holds) {n0 : Nat} (hc : ∀ n, n0 ≤ n → ∀ c ∈ cs, ∀ s, okS c.2.2.1 s → (recN E n).call c.1 c.2.1 s = .ret c.2.2.2 s false) (D n : Nat) (c : Code) (T : List V) (m : M) (s : S) (z : ZJ) :
    xJ E cs ds es (loN E cs ds es D) c T m s z fun r _ => nrm n (exec c E (recN E (n0 + 1 + D)) T m s) r :=
  xJ_ok (underN hd he hc D) hd he c T m s z _ fun r _ q => by rw [← q]; exact nrm_refl n _
def pIdx (t : Nat) (x : V) (i : Nat) (v : V) (s : S) : Prop := (bind (EL.ti t) fun ti => ret1 (idxAddrK EL ti.kind x i) s) = some (v, s)
def pLoad (t : Nat) (a v : V) (s : S) : Prop := (bind (EL.ti t) fun ti => ret1 (load s ti a) s) = some (v, s)
def pStore (t : Nat) (a : V) (c : List V) (s s1 : S) : Prop := (bind (EL.ti t) fun ti => storeV s ti.size c a) = some (undef, s1)
def pApp (t u : Nat) (x y v : V) (s s1 : S) : Prop := bAppend EL s t u x y = some (v, s1)
def pSlice (t : Nat) (x : V) (hi : Nat) (v : V) (s : S) : Prop := (bind (EL.ti t) fun ti => ret1 (sliceK EL s ti.kind x none (some hi) none) s) = some (v, s)
def pMake (t l c : Nat) (v : V) (s s1 : S) : Prop := (bind (elemTi EL t) fun te => makeSl te l c s) = some (v, s1)
theorem ti3 : EL.ti 3 = some ⟨1, 8, false, .int .i64, [.int .i64 0]⟩ := by kernel_rfl
theorem ti24 : EL.ti 24 = some ⟨1, 24, false, .slice 3, [.nils]⟩ := by kernel_rfl
theorem ti250 : EL.ti 250 = some ⟨1, 24, false, .slice 3, [.nils]⟩ := by kernel_rfl
end
end Go.AM.E15
end
section
namespace Go.AM.E15
open Go
noncomputable section
abbrev BB : Nat := 1000000000
def val : List Nat → Nat
  | [] => 0
  | d :: l => d + BB * val l
def Prp (l : List Nat) : Prop := ∀ d ∈ l, d < BB
theorem val_app : ∀ (l r : List Nat), val (l ++ r) = val l + BB ^ l.length * val r
  | [], r => by simp [val]
  | d :: l, r => by
    show d + BB * val (l ++ r) = d + BB * val l + BB ^ (l.length + 1) * val r
    rw [val_app l r, Nat.pow_succ, Nat.mul_add, ← Nat.mul_assoc, Nat.mul_comm BB (BB ^ l.length), Nat.add_assoc]
theorem val_set {l : List Nat} {k z v : Nat} (h : l[k]? = some z) : val (l.set k v) + z * BB ^ k = val l + v * BB ^ k := by
  induction l generalizing k with
  | nil => cases h
  | cons d l ih =>
    cases k with
    | zero =>
      simp only [List.getElem?_cons_zero, Option.some.injEq] at h
      subst h
      simp only [List.set_cons_zero, val, Nat.pow_zero, Nat.mul_one]; omega
    | succ k =>
      simp only [List.getElem?_cons_succ] at h
      have := ih h
      simp only [List.set_cons_succ, val, Nat.pow_succ]
      have e1 : z * (BB ^ k * BB) = BB * (z * BB ^ k) := by rw [← Nat.mul_assoc, Nat.mul_comm]
      have e2 : v * (BB ^ k * BB) = BB * (v * BB ^ k) := by rw [← Nat.mul_assoc, Nat.mul_comm]
      rw [e1, e2]
      have : BB * (val (l.set k v) + z * BB ^ k) = BB * (val l + v * BB ^ k) := by rw [this]
      rw [Nat.mul_add, Nat.mul_add] at this
      omega
theorem val_drop {l : List Nat} {i x : Nat} (h : l[i]? = some x) : val (l.drop i) = x + BB * val (l.drop (i + 1)) := by
  have hi : i < l.length := by
    rcases Nat.lt_or_ge i l.length with h1 | h1
    · exact h1
    · rw [List.getElem?_eq_none h1] at h; cases h
  rw [List.drop_eq_getElem_cons hi]
  rw [List.getElem?_eq_getElem hi] at h
  injection h with h
  rw [h]; rfl
theorem Prp.set {l : List Nat} (h : Prp l) {k v : Nat} (hv : v < BB) : Prp (l.set k v) := by
  intro d hd
  rcases List.mem_or_eq_of_mem_set hd with h1 | h1
  · exact h d h1
  · rw [h1]; exact hv
theorem Prp.app {l r : List Nat} (h : Prp l) (h' : Prp r) : Prp (l ++ r) := by
  intro d hd
  rcases List.mem_append.1 hd with h1 | h1
  · exact h d h1
  · exact h' d h1
theorem limbsF_stable : ∀ (f g n : Nat), n ≤ f → n ≤ g → limbsF f n = limbsF g n
  | 0, g, n, h1, h2 => by
    have : n = 0 := by omega
    subst this
    cases g <;> rfl
  | f + 1, 0, n, h1, h2 => by
    have : n = 0 := by omega
    subst this; rfl
  | f + 1, g + 1, 0, _, _ => rfl
  | f + 1, g + 1, n + 1, h1, h2 => by
    show ((n + 1) % 1000000000) :: limbsF f ((n + 1) / 1000000000) = ((n + 1) % 1000000000) :: limbsF g ((n + 1) / 1000000000)
    rw [limbsF_stable f g _ (by omega) (by omega)]
theorem limbs_succ {n : Nat} (h : 0 < n) : limbs n = (n % BB) :: limbs (n / BB) := by
  cases n with
  | zero => omega
  | succ n =>
    show ((n + 1) % 1000000000) :: limbsF n ((n + 1) / 1000000000) = _
    rw [limbsF_stable n ((n + 1) / 1000000000) _ (by omega) (by omega)]; rfl
def Can (l : List Nat) : Prop := Prp l ∧ l.getLast? ≠ some 0
theorem can_eq : ∀ {l : List Nat}, Can l → l = limbs (val l)
  | [], _ => rfl
  | d :: l, h => by
    have hp : Prp l := fun e he => h.1 e (List.mem_cons_of_mem _ he)
    have hd : d < BB := h.1 d (List.mem_cons_self ..)
    cases l with
    | nil =>
      have : d ≠ 0 := fun hz => h.2 (by rw [hz]; rfl)
      have hv : val [d] = d := by simp [val]
      rw [hv, limbs_one (by omega) hd]
    | cons e l =>
      have hc : Can (e :: l) := ⟨hp, fun hz => h.2 (by rw [List.getLast?_cons_cons]; exact hz)⟩
      have ih := can_eq hc
      have hpos : 0 < val (e :: l) := by
        rcases Nat.eq_zero_or_pos (val (e :: l)) with h0 | h0
        · rw [h0] at ih; cases ih
        · exact h0
      have hv : val (d :: e :: l) = d + BB * val (e :: l) := rfl
      have h1 : 0 < d + BB * val (e :: l) := by have := Nat.mul_pos (show 0 < BB by decide) hpos; omega
      rw [hv, limbs_succ h1, Nat.add_mul_mod_self_left, Nat.mod_eq_of_lt hd, Nat.add_mul_div_left _ _ (by decide), Nat.div_eq_of_lt hd, Nat.zero_add, ← ih]
theorem val_limbs (n : Nat) : val (limbs n) = n := by
  induction n using Nat.strongRecOn with
  | ind n ih =>
    rcases Nat.eq_zero_or_pos n with h | h
    · subst h; rfl
    · rw [limbs_succ h]
      show n % BB + BB * val (limbs (n / BB)) = n
      rw [ih (n / BB) (Nat.div_lt_self h (by decide))]
      exact Nat.mod_add_div n BB
theorem prp_limbs (n : Nat) : Prp (limbs n) := by
  induction n using Nat.strongRecOn with
  | ind n ih =>
    rcases Nat.eq_zero_or_pos n with h | h
    · subst h; intro d hd; cases hd
    · rw [limbs_succ h]
      intro d hd
      rcases List.mem_cons.1 hd with h1 | h1
      · rw [h1]; exact Nat.mod_lt _ (by decide)
      · exact ih (n / BB) (Nat.div_lt_self h (by decide)) d h1
theorem limbs_ne {n : Nat} (h : 0 < n) : limbs n ≠ [] := by rw [limbs_succ h]; exact List.cons_ne_nil _ _
theorem limbs_len : ∀ (k n : Nat), n < BB ^ k → (limbs n).length ≤ k
  | k, n, h => by
    induction k generalizing n with
    | zero =>
      have : n = 0 := by simpa using h
      subst this; exact Nat.le_refl 0
    | succ k ih =>
      rcases Nat.eq_zero_or_pos n with h0 | h0
      · subst h0; exact Nat.zero_le _
      · rw [limbs_succ h0]
        refine Nat.succ_le_succ (ih _ ?_)
        rw [Nat.pow_succ] at h
        exact Nat.div_lt_of_lt_mul (by rw [Nat.mul_comm]; exact h)
theorem cellsL_eq (l : List Nat) : cellsL l = l.map intI := mapL_eq _ _
theorem digN_lsl {n : Nat} (h : 0 < n) : digN n = .lsl (cellsL (limbs n)) (len (limbs n)) false := by
  cases n with
  | zero => omega
  | succ n => rfl
section
variable {s : S} {D L : List Nat} {b t k z v i x n : Nat} {o : Bool}
theorem load_cells {c : List V} {d : V} (h : c[k]? = some d) : bind (takeN 1 (c.drop k)) (wrapCells false) = some d := by
  have hi : k < c.length := by
    rcases Nat.lt_or_ge k c.length with h1 | h1
    · exact h1
    · rw [List.getElem?_eq_none h1] at h; cases h
  rw [List.getElem?_eq_getElem hi] at h
  injection h with h
  rw [List.drop_eq_getElem_cons hi, h]; rfl
theorem nth_cells (h : D[k]? = some z) : (cellsL D)[k]? = some (intI z) := by
  rw [cellsL_eq, List.getElem?_map, h]; rfl
theorem idxK_eq (E : Env) (e : Nat) (x : V) (i : Nat) : idxAddrK E (.slice e) x i = bind (E.ti e) fun te => idxSl te.size x i := rfl
theorem bind_some' {α β : Type} (a : α) (f : α → Option β) : bind (some a) f = f a := rfl
theorem pLoad_lit (h : L[i]? = some x) : pLoad 3 (.lptr (dropN (i * 1) (cellsL L))) (intI x) s := by
  unfold pLoad
  rw [ti3]
  show ret1 (bind (some (dropN (i * 1) (cellsL L))) fun c => bind (takeN 1 c) (wrapCells false)) s = _
  show ret1 (bind (takeN 1 (dropN (i * 1) (cellsL L))) (wrapCells false)) s = _
  rw [Nat.mul_one, dropN_eq, load_cells (nth_cells h)]; rfl
theorem pIdx_lit24 {c : List V} {cl : Bool} (h : i < n) : pIdx 24 (.lsl c n cl) i (.lptr (dropN (i * 1) c)) s := by
  unfold pIdx
  rw [ti24, bind_some', idxK_eq, ti3, bind_some']
  show ret1 (boolC (Nat.blt i n) none (some (.lptr (dropN (i * 1) c)))) s = _
  rw [show Nat.blt i n = true by rw [Nat.blt_eq]; exact h]; rfl
theorem pIdx_lit {c : List V} {cl : Bool} (h : i < n) : pIdx 250 (.lsl c n cl) i (.lptr (dropN (i * 1) c)) s := by
  unfold pIdx
  rw [ti250, bind_some', idxK_eq, ti3, bind_some']
  show ret1 (boolC (Nat.blt i n) none (some (.lptr (dropN (i * 1) c)))) s = _
  rw [show Nat.blt i n = true by rw [Nat.blt_eq]; exact h]; rfl
theorem pIdx_sl {q : Option Nat} (h : k < n) : pIdx 250 (.sl b 0 n 1 q) k (.ptr b (0 + k * 1)) s := by
  unfold pIdx
  rw [ti250, bind_some', idxK_eq, ti3, bind_some']
  show ret1 (boolC (Nat.blt k n) none (some (.ptr b (0 + k * 1)))) s = _
  rw [show Nat.blt k n = true by rw [Nat.blt_eq]; exact h]; rfl
theorem pIdx_sl24 {q : Option Nat} (h : k < n) : pIdx 24 (.sl b 0 n 1 q) k (.ptr b (0 + k * 1)) s := by
  unfold pIdx
  rw [ti24, bind_some', idxK_eq, ti3, bind_some']
  show ret1 (boolC (Nat.blt k n) none (some (.ptr b (0 + k * 1)))) s = _
  rw [show Nat.blt k n = true by rw [Nat.blt_eq]; exact h]; rfl
theorem pLoad_mem (hb : s.heap.get b = some (.cells o t (cellsL D))) (h : D[k]? = some z) : pLoad 3 (.ptr b (0 + k * 1)) (intI z) s := by
  unfold pLoad
  rw [ti3]
  show ret1 (bind (bind (blkCells (s.heap.get b)) fun c => some (dropN (0 + k * 1) c)) fun c => bind (takeN 1 c) (wrapCells false)) s = _
  rw [hb]
  show ret1 (bind (takeN 1 (dropN (0 + k * 1) (cellsL D))) (wrapCells false)) s = _
  rw [Nat.zero_add, Nat.mul_one, dropN_eq, load_cells (nth_cells h)]; rfl
theorem pLoad_one {w : V} (hb : s.heap.get b = some (.cells o t [w])) : pLoad 250 (.ptr b 0) w s := by
  unfold pLoad
  rw [ti250]
  show ret1 (bind (bind (blkCells (s.heap.get b)) fun c => some (dropN 0 c)) fun c => bind (takeN 1 c) (wrapCells false)) s = _
  rw [hb]; rfl
theorem pStore_mem (hl : s.lo = 0) (hb : s.heap.get b = some (.cells true t (cellsL D))) (h : k < D.length) : pStore 3 (.ptr b (0 + k * 1)) [.int .i64 (Int.ofNat v)] s (s.put b (.cells true t (cellsL (D.set k v)))) := by
  unfold pStore
  rw [ti3]
  show bind (boolC (Nat.blt b s.lo) (storeBlk s b (0 + k * 1) [.int .i64 (Int.ofNat v)] (s.heap.get b)) none) (fun s => some (undef, s)) = _
  rw [hl, show Nat.blt b 0 = false by cases h : Nat.blt b 0 with | false => rfl | true => rw [Nat.blt_eq] at h; omega, hb]
  show bind (bind (putN (cellsL D) (0 + k * 1) [.int .i64 (Int.ofNat v)]) fun c' => some (s.put b (.cells true t c'))) (fun s => some (undef, s)) = _
  have : putN (cellsL D) (0 + k * 1) [.int .i64 (Int.ofNat v)] = some (cellsL (D.set k v)) := by
    rw [Nat.zero_add, Nat.mul_one, putN_eq_some (by simp)]
    refine ⟨by rw [cellsL_eq, List.length_map]; exact h, ?_⟩
    rw [cellsL_eq, cellsL_eq, List.map_set]
    unfold over
    rw [List.set_eq_take_append_cons_drop, if_pos (by rw [List.length_map]; exact h)]
    simp [intI]
  rw [this]; rfl
theorem pStore_one {w w' : V} (hl : s.lo = 0) (hb : s.heap.get b = some (.cells true t [w])) (h1 : oneV w' = true) : pStore 250 (.ptr b 0) [w'] s (s.put b (.cells true t [w'])) := by
  unfold pStore
  rw [ti250]
  show boolC (oneL [w']) none (bind (boolC (Nat.blt b s.lo) (storeBlk s b 0 [w'] (s.heap.get b)) none) (fun s => some (undef, s))) = _
  rw [hl, show Nat.blt b 0 = false by cases h : Nat.blt b 0 with | false => rfl | true => rw [Nat.blt_eq] at h; omega, hb]
  show boolC (boolC (oneV w') false true) none _ = _
  rw [h1]; rfl
end
end
end Go.AM.E15
end
section
namespace Go.AM.E15
open Go
noncomputable section
def andAll (P : Nat → Prop) (n lo : Nat) : Prop := Nat.rec (motive := fun _ => Prop) True (fun k ih => P (lo + k) ∧ ih) n
theorem andAll_ok {P : Nat → Prop} (h : ∀ i, P i) : ∀ n lo, andAll P n lo
  | 0, _ => trivial
  | n + 1, lo => ⟨h _, andAll_ok h n lo⟩
theorem andAll_at {P : Nat → Prop} : ∀ {n lo i : Nat}, andAll P n lo → lo ≤ i → i < lo + n → P i
  | 0, lo, i, _, h1, h2 => by omega
  | n + 1, lo, i, h, h1, h2 => by
    obtain ⟨h3, h4⟩ := h
    by_cases hi : i = lo + n
    · rw [hi]; exact h3
    · exact andAll_at (n := n) h4 h1 (by omega)
def runB (n0 f : Nat) (A : Nat → List V) (i : Nat) : Prop := bodyJ EL [] [] [] (loN EL [] [] [] 200) f (A i) false none s0 [] fun r _ => runE EL (n0 + 1 + 200) f (A i) = outE r
def runG (n0 f : Nat) (A : Nat → List V) (R : Nat → V) (i : Nat) : Prop := runE EL (n0 + 1 + 200) f (A i) = some (R i)
theorem runB_ok (n0 f : Nat) (A : Nat → List V) (i : Nat) : runB n0 f A i := inl_run (E := EL) (cs := []) (ds := []) (es := []) fa_nil fa_nil (n0 := n0) (fun _ _ c hc => by cases hc) 200 f (A i) []
def tiA (i : Nat) : List V := [intV (Int.ofNat i)]
def tiR (i : Nat) : V := .tup [.int .i64 (Int.ofNat i), okV0]
def poA (b : Int) (i : Nat) : List V := [intV b, intV (Int.ofNat i)]
def poR (b : Int) (i : Nat) : V := .tup [intV (ipow b (Int.ofNat i)), okV0]
end
end Go.AM.E15
end
