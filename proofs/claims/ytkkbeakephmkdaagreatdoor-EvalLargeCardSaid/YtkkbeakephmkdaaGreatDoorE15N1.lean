import Derived.Test.YtkkbeakephmkdaaGreatDoorE15Ext
set_option linter.all false
section
set_option maxRecDepth 100000
namespace Go.AM.E15
open Go Go.Proofs
noncomputable section
noncomputable def szAK : Code := (unL (unB (sr (sl (sr (sr (bodyOf Tryz.f94)))))))
noncomputable def szAC (L : List Nat) (i x : Nat) (u2 u3 : V) (s : S) : List Con := []
noncomputable def szAE (L : List Nat) (i x : Nat) (u2 u3 : V) (s : S) : List EQ := [.eq (.bool (leI 0 (Int.ofNat (i+1)))) (.bool true), .eq (.bool (!eqI (Int.ofNat x) (Int.ofNat x))) (.bool false), .eq (.int .i64 (wrap .i64 (((Int.ofNat (i+1))) - (1)))) (.int .i64 (Int.ofNat i)), .pr (pIdx 24 (.lsl (cellsL L) (len L) false) (i+1) (.lptr (dropN ((i+1) * 1) (cellsL L))) s), .pr (pLoad 3 (.lptr (dropN ((i+1) * 1) (cellsL L))) (intI x) s)]
noncomputable def szAZ (L : List Nat) (i x : Nat) (u2 u3 : V) (s : S) : ZJ := [vj 1 0, (2, .pre 3 (.lptr (dropN ((i+1) * 1) (cellsL L))) s), (0, .pre 4 (intI x) s), (2, .pre 3 (.lptr (dropN ((i+1) * 1) (cellsL L))) s), (0, .pre 4 (intI x) s), vj 0 1, vj 1 2]
theorem szA (L : List Nat) (i x : Nat) (u2 u3 : V) (s : S) (tl : Nat → V) (m : M) (he : ∀ q ∈ szAE L i x u2 u3 s, q.Holds) {n0 : Nat} (hc : ∀ n', n0 ≤ n' → ∀ cc ∈ szAC L i x u2 u3 s, ∀ ss, okS cc.2.2.1 ss → (recN EL n').call cc.1 cc.2.1 ss = .ret cc.2.2.2 ss false) : ∃ T', len T' = 41 ∧ takeB 6 T' = [(.lsl (cellsL L) (len L) false), (.lsl (cellsL L) (len L) false), u2, u3, .int .i64 0, .int .i64 (Int.ofNat i)] ∧ exec szAK EL (recN EL (n0 + 1 + 20)) (app [(.lsl (cellsL L) (len L) false), (.lsl (cellsL L) (len L) false), u2, u3, .int .i64 0, .int .i64 (Int.ofNat (i+1))] (restT tl 35 6)) m s = .norm T' m s := by
  refine hypJ_ok (cs := szAC L i x u2 u3 s) (ds := []) he (szAZ L i x u2 u3 s) (by rfl) (cast ?_ (code_ex (E := EL) (cs := szAC L i x u2 u3 s) (ds := []) (es := szAE L i x u2 u3 s) fa_nil he (n0 := n0) hc 20 6 szAK (app [(.lsl (cellsL L) (len L) false), (.lsl (cellsL L) (len L) false), u2, u3, .int .i64 0, .int .i64 (Int.ofNat (i+1))] (restT tl 35 6)) m s (szAZ L i x u2 u3 s)))
  kernel_rfl
noncomputable def szBK : Code := (unL (unB (sr (sl (sr (sr (bodyOf Tryz.f94)))))))
noncomputable def szBC (L : List Nat) (i x : Nat) (u2 u3 : V) (s : S) : List Con := []
noncomputable def szBE (L : List Nat) (i x : Nat) (u2 u3 : V) (s : S) : List EQ := [.eq (.bool (leI (Int.ofNat 0) (Int.ofNat 0))) (.bool true), .eq (.bool (!eqI (Int.ofNat x) (Int.ofNat x))) (.bool false), .eq (.int .i64 (wrap .i64 (((Int.ofNat 0)) - (1)))) (.int .i64 ((-1))), .pr (pIdx 24 (.lsl (cellsL L) (len L) false) (0) (.lptr (dropN ((0) * 1) (cellsL L))) s), .pr (pLoad 3 (.lptr (dropN ((0) * 1) (cellsL L))) (intI x) s)]
noncomputable def szBZ (L : List Nat) (i x : Nat) (u2 u3 : V) (s : S) : ZJ := [vj 1 0, (2, .pre 3 (.lptr (dropN ((0) * 1) (cellsL L))) s), (0, .pre 4 (intI x) s), (2, .pre 3 (.lptr (dropN ((0) * 1) (cellsL L))) s), (0, .pre 4 (intI x) s), vj 0 1, vj 1 2]
theorem szB (L : List Nat) (i x : Nat) (u2 u3 : V) (s : S) (tl : Nat → V) (m : M) (he : ∀ q ∈ szBE L i x u2 u3 s, q.Holds) {n0 : Nat} (hc : ∀ n', n0 ≤ n' → ∀ cc ∈ szBC L i x u2 u3 s, ∀ ss, okS cc.2.2.1 ss → (recN EL n').call cc.1 cc.2.1 ss = .ret cc.2.2.2 ss false) : ∃ T', len T' = 41 ∧ takeB 6 T' = [(.lsl (cellsL L) (len L) false), (.lsl (cellsL L) (len L) false), u2, u3, .int .i64 0, .int .i64 (-1)] ∧ exec szBK EL (recN EL (n0 + 1 + 20)) (app [(.lsl (cellsL L) (len L) false), (.lsl (cellsL L) (len L) false), u2, u3, .int .i64 0, .int .i64 (Int.ofNat 0)] (restT tl 35 6)) m s = .norm T' m s := by
  refine hypJ_ok (cs := szBC L i x u2 u3 s) (ds := []) he (szBZ L i x u2 u3 s) (by rfl) (cast ?_ (code_ex (E := EL) (cs := szBC L i x u2 u3 s) (ds := []) (es := szBE L i x u2 u3 s) fa_nil he (n0 := n0) hc 20 6 szBK (app [(.lsl (cellsL L) (len L) false), (.lsl (cellsL L) (len L) false), u2, u3, .int .i64 0, .int .i64 (Int.ofNat 0)] (restT tl 35 6)) m s (szBZ L i x u2 u3 s)))
  kernel_rfl
noncomputable def szCK : Code := (unL (unB (sr (sl (sr (sr (bodyOf Tryz.f94)))))))
noncomputable def szCC (L : List Nat) (i x : Nat) (u2 u3 : V) (s : S) : List Con := []
noncomputable def szCE (L : List Nat) (i x : Nat) (u2 u3 : V) (s : S) : List EQ := []
noncomputable def szCZ (L : List Nat) (i x : Nat) (u2 u3 : V) (s : S) : ZJ := []
theorem szC (L : List Nat) (i x : Nat) (u2 u3 : V) (s : S) (tl : Nat → V) (m : M) (he : ∀ q ∈ szCE L i x u2 u3 s, q.Holds) {n0 : Nat} (hc : ∀ n', n0 ≤ n' → ∀ cc ∈ szCC L i x u2 u3 s, ∀ ss, okS cc.2.2.1 ss → (recN EL n').call cc.1 cc.2.1 ss = .ret cc.2.2.2 ss false) : ∃ T', len T' = 41 ∧ takeB 6 T' = [(.lsl (cellsL L) (len L) false), (.lsl (cellsL L) (len L) false), u2, u3, .int .i64 0, .int .i64 (-1)] ∧ exec szCK EL (recN EL (n0 + 1 + 20)) (app [(.lsl (cellsL L) (len L) false), (.lsl (cellsL L) (len L) false), u2, u3, .int .i64 0, .int .i64 (-1)] (restT tl 35 6)) m s = .exit 0 T' m s := by
  refine hypJ_ok (cs := szCC L i x u2 u3 s) (ds := []) he (szCZ L i x u2 u3 s) (by rfl) (cast ?_ (code_ex (E := EL) (cs := szCC L i x u2 u3 s) (ds := []) (es := szCE L i x u2 u3 s) fa_nil he (n0 := n0) hc 20 6 szCK (app [(.lsl (cellsL L) (len L) false), (.lsl (cellsL L) (len L) false), u2, u3, .int .i64 0, .int .i64 (-1)] (restT tl 35 6)) m s (szCZ L i x u2 u3 s)))
  kernel_rfl
noncomputable def trBK : Code := (unL (unB (sl (sr (bodyOf Tryz.f384)))))
noncomputable def trBC (L L' : List Nat) (x : Nat) (u1 u2 : V) (s : S) : List Con := []
noncomputable def trBE (L L' : List Nat) (x : Nat) (u1 u2 : V) (s : S) : List EQ := [.eq (.bool (!leI (Int.ofNat (len L)) 0)) (.bool true), .eq (.int .i64 (wrap .i64 (((Int.ofNat (len L))) - (1)))) (.int .i64 (Int.ofNat (len L - 1))), .eq (.bool (eqI (Int.ofNat x) 0)) (.bool false), .pr (pIdx 250 (.lsl (cellsL L) (len L) false) (len L - 1) (.lptr (dropN ((len L - 1) * 1) (cellsL L))) s), .pr (pLoad 3 (.lptr (dropN ((len L - 1) * 1) (cellsL L))) (intI x) s)]
noncomputable def trBZ (L L' : List Nat) (x : Nat) (u1 u2 : V) (s : S) : ZJ := [vj 2 0, vj 4 1, (0, .pre 3 (.lptr (dropN ((len L - 1) * 1) (cellsL L))) s), (0, .pre 4 (intI x) s), vj 0 2]
theorem trB (L L' : List Nat) (x : Nat) (u1 u2 : V) (s : S) (tl : Nat → V) (m : M) (he : ∀ q ∈ trBE L L' x u1 u2 s, q.Holds) {n0 : Nat} (hc : ∀ n', n0 ≤ n' → ∀ cc ∈ trBC L L' x u1 u2 s, ∀ ss, okS cc.2.2.1 ss → (recN EL n').call cc.1 cc.2.1 ss = .ret cc.2.2.2 ss false) : ∃ T', len T' = 21 ∧ takeB 3 T' = [(.lsl (cellsL L) (len L) false), u1, u2] ∧ exec trBK EL (recN EL (n0 + 1 + 20)) (app [(.lsl (cellsL L) (len L) false), u1, u2] (restT tl 18 3)) m s = .exit 0 T' m s := by
  refine hypJ_ok (cs := trBC L L' x u1 u2 s) (ds := []) he (trBZ L L' x u1 u2 s) (by rfl) (cast ?_ (code_ex (E := EL) (cs := trBC L L' x u1 u2 s) (ds := []) (es := trBE L L' x u1 u2 s) fa_nil he (n0 := n0) hc 20 3 trBK (app [(.lsl (cellsL L) (len L) false), u1, u2] (restT tl 18 3)) m s (trBZ L L' x u1 u2 s)))
  kernel_rfl
noncomputable def trAK : Code := (unL (unB (sl (sr (bodyOf Tryz.f384)))))
noncomputable def trAC (L L' : List Nat) (x : Nat) (u1 u2 : V) (s : S) : List Con := []
noncomputable def trAE (L L' : List Nat) (x : Nat) (u1 u2 : V) (s : S) : List EQ := [.eq (.bool (!leI (Int.ofNat (len L)) 0)) (.bool true), .eq (.int .i64 (wrap .i64 (((Int.ofNat (len L))) - (1)))) (.int .i64 (Int.ofNat (len L - 1))), .pr (pIdx 250 (.lsl (cellsL L) (len L) false) (len L - 1) (.lptr (dropN ((len L - 1) * 1) (cellsL L))) s), .pr (pLoad 3 (.lptr (dropN ((len L - 1) * 1) (cellsL L))) (intI 0) s), .pr (pSlice 250 (.lsl (cellsL L) (len L) false) (len L - 1) (.lsl (cellsL L') (len L') false) s)]
noncomputable def trAZ (L L' : List Nat) (x : Nat) (u1 u2 : V) (s : S) : ZJ := [vj 2 0, vj 4 1, (0, .pre 2 (.lptr (dropN ((len L - 1) * 1) (cellsL L))) s), (0, .pre 3 (intI 0) s), vj 5 1, (0, .pre 4 ((.lsl (cellsL L') (len L') false)) s)]
theorem trA (L L' : List Nat) (x : Nat) (u1 u2 : V) (s : S) (tl : Nat → V) (m : M) (he : ∀ q ∈ trAE L L' x u1 u2 s, q.Holds) {n0 : Nat} (hc : ∀ n', n0 ≤ n' → ∀ cc ∈ trAC L L' x u1 u2 s, ∀ ss, okS cc.2.2.1 ss → (recN EL n').call cc.1 cc.2.1 ss = .ret cc.2.2.2 ss false) : ∃ T', len T' = 21 ∧ takeB 3 T' = [(.lsl (cellsL L') (len L') false), u1, u2] ∧ exec trAK EL (recN EL (n0 + 1 + 20)) (app [(.lsl (cellsL L) (len L) false), u1, u2] (restT tl 18 3)) m s = .norm T' m s := by
  refine hypJ_ok (cs := trAC L L' x u1 u2 s) (ds := []) he (trAZ L L' x u1 u2 s) (by rfl) (cast ?_ (code_ex (E := EL) (cs := trAC L L' x u1 u2 s) (ds := []) (es := trAE L L' x u1 u2 s) fa_nil he (n0 := n0) hc 20 3 trAK (app [(.lsl (cellsL L) (len L) false), u1, u2] (restT tl 18 3)) m s (trAZ L L' x u1 u2 s)))
  kernel_rfl
noncomputable def shBK : Code := (unL (unB (sl (sr (sr (bodyOf Tryz.f36))))))
noncomputable def shBC (L : List Nat) (j x : Nat) (u1 u2 u4 : V) (s : S) : List Con := []
noncomputable def shBE (L : List Nat) (j x : Nat) (u1 u2 u4 : V) (s : S) : List EQ := [.eq (.bool (!leI (Int.ofNat (j+1)) 0)) (.bool true), .eq (.int .i64 (wrap .i64 (((Int.ofNat (j+1))) - (1)))) (.int .i64 (Int.ofNat j)), .eq (.bool (eqI (Int.ofNat x) 0)) (.bool false), .pr (pIdx 24 (.lsl (cellsL L) (len L) false) (j) (.lptr (dropN ((j) * 1) (cellsL L))) s), .pr (pLoad 3 (.lptr (dropN ((j) * 1) (cellsL L))) (intI x) s)]
noncomputable def shBZ (L : List Nat) (j x : Nat) (u1 u2 u4 : V) (s : S) : ZJ := [vj 1 0, vj 3 1, (0, .pre 3 (.lptr (dropN ((j) * 1) (cellsL L))) s), (0, .pre 4 (intI x) s), vj 0 2]
theorem shB (L : List Nat) (j x : Nat) (u1 u2 u4 : V) (s : S) (tl : Nat → V) (m : M) (he : ∀ q ∈ shBE L j x u1 u2 u4 s, q.Holds) {n0 : Nat} (hc : ∀ n', n0 ≤ n' → ∀ cc ∈ shBC L j x u1 u2 u4 s, ∀ ss, okS cc.2.2.1 ss → (recN EL n').call cc.1 cc.2.1 ss = .ret cc.2.2.2 ss false) : ∃ T', len T' = 25 ∧ takeB 5 T' = [(.lsl (cellsL L) (len L) false), u1, u2, .int .i64 (Int.ofNat (j+1)), u4] ∧ exec shBK EL (recN EL (n0 + 1 + 20)) (app [(.lsl (cellsL L) (len L) false), u1, u2, .int .i64 (Int.ofNat (j+1)), u4] (restT tl 20 5)) m s = .exit 0 T' m s := by
  refine hypJ_ok (cs := shBC L j x u1 u2 u4 s) (ds := []) he (shBZ L j x u1 u2 u4 s) (by rfl) (cast ?_ (code_ex (E := EL) (cs := shBC L j x u1 u2 u4 s) (ds := []) (es := shBE L j x u1 u2 u4 s) fa_nil he (n0 := n0) hc 20 5 shBK (app [(.lsl (cellsL L) (len L) false), u1, u2, .int .i64 (Int.ofNat (j+1)), u4] (restT tl 20 5)) m s (shBZ L j x u1 u2 u4 s)))
  kernel_rfl
noncomputable def shAK : Code := (unL (unB (sl (sr (sr (bodyOf Tryz.f36))))))
noncomputable def shAC (L : List Nat) (j x : Nat) (u1 u2 u4 : V) (s : S) : List Con := []
noncomputable def shAE (L : List Nat) (j x : Nat) (u1 u2 u4 : V) (s : S) : List EQ := [.eq (.bool (!leI (Int.ofNat (j+1)) 0)) (.bool true), .eq (.int .i64 (wrap .i64 (((Int.ofNat (j+1))) - (1)))) (.int .i64 (Int.ofNat j)), .pr (pIdx 24 (.lsl (cellsL L) (len L) false) (j) (.lptr (dropN ((j) * 1) (cellsL L))) s), .pr (pLoad 3 (.lptr (dropN ((j) * 1) (cellsL L))) (intI 0) s)]
noncomputable def shAZ (L : List Nat) (j x : Nat) (u1 u2 u4 : V) (s : S) : ZJ := [vj 1 0, vj 3 1, (0, .pre 2 (.lptr (dropN ((j) * 1) (cellsL L))) s), (0, .pre 3 (intI 0) s), vj 3 1]
theorem shA (L : List Nat) (j x : Nat) (u1 u2 u4 : V) (s : S) (tl : Nat → V) (m : M) (he : ∀ q ∈ shAE L j x u1 u2 u4 s, q.Holds) {n0 : Nat} (hc : ∀ n', n0 ≤ n' → ∀ cc ∈ shAC L j x u1 u2 u4 s, ∀ ss, okS cc.2.2.1 ss → (recN EL n').call cc.1 cc.2.1 ss = .ret cc.2.2.2 ss false) : ∃ T', len T' = 25 ∧ takeB 5 T' = [(.lsl (cellsL L) (len L) false), u1, u2, .int .i64 (Int.ofNat j), u4] ∧ exec shAK EL (recN EL (n0 + 1 + 20)) (app [(.lsl (cellsL L) (len L) false), u1, u2, .int .i64 (Int.ofNat (j+1)), u4] (restT tl 20 5)) m s = .norm T' m s := by
  refine hypJ_ok (cs := shAC L j x u1 u2 u4 s) (ds := []) he (shAZ L j x u1 u2 u4 s) (by rfl) (cast ?_ (code_ex (E := EL) (cs := shAC L j x u1 u2 u4 s) (ds := []) (es := shAE L j x u1 u2 u4 s) fa_nil he (n0 := n0) hc 20 5 shAK (app [(.lsl (cellsL L) (len L) false), u1, u2, .int .i64 (Int.ofNat (j+1)), u4] (restT tl 20 5)) m s (shAZ L j x u1 u2 u4 s)))
  kernel_rfl
noncomputable def atTK : Code := (bodyOf Tryz.f486)
noncomputable def atTC (L : List Nat) (i x : Nat) (u2 u3 u4 : V) (s : S) : List Con := []
noncomputable def atTE (L : List Nat) (i x : Nat) (u2 u3 u4 : V) (s : S) : List EQ := [.eq (.bool (!leI (Int.ofNat (len L)) (Int.ofNat i))) (.bool true), .pr (pIdx 250 (.lsl (cellsL L) (len L) false) (i) (.lptr (dropN ((i) * 1) (cellsL L))) s), .pr (pLoad 3 (.lptr (dropN ((i) * 1) (cellsL L))) (intI x) s)]
noncomputable def atTZ (L : List Nat) (i x : Nat) (u2 u3 u4 : V) (s : S) : ZJ := [vj 4 0, (2, .pre 1 (.lptr (dropN ((i) * 1) (cellsL L))) s), (0, .pre 2 (intI x) s)]
theorem atT (L : List Nat) (i x : Nat) (u2 u3 u4 : V) (s : S) (tl : Nat → V) (m : M) (he : ∀ q ∈ atTE L i x u2 u3 u4 s, q.Holds) {n0 : Nat} (hc : ∀ n', n0 ≤ n' → ∀ cc ∈ atTC L i x u2 u3 u4 s, ∀ ss, okS cc.2.2.1 ss → (recN EL n').call cc.1 cc.2.1 ss = .ret cc.2.2.2 ss false) : ∃ T', len T' = 13 ∧ takeB 5 T' = [(.lsl (cellsL L) (len L) false), .int .i64 (Int.ofNat i), u2, u3, intI x] ∧ exec atTK EL (recN EL (n0 + 1 + 20)) (app [(.lsl (cellsL L) (len L) false), .int .i64 (Int.ofNat i), u2, u3, u4] (restT tl 8 5)) m s = .ret T' m s := by
  refine hypJ_ok (cs := atTC L i x u2 u3 u4 s) (ds := []) he (atTZ L i x u2 u3 u4 s) (by rfl) (cast ?_ (code_ex (E := EL) (cs := atTC L i x u2 u3 u4 s) (ds := []) (es := atTE L i x u2 u3 u4 s) fa_nil he (n0 := n0) hc 20 5 atTK (app [(.lsl (cellsL L) (len L) false), .int .i64 (Int.ofNat i), u2, u3, u4] (restT tl 8 5)) m s (atTZ L i x u2 u3 u4 s)))
  kernel_rfl
noncomputable def atFK : Code := (bodyOf Tryz.f486)
noncomputable def atFC (L : List Nat) (i x : Nat) (u2 u3 u4 : V) (s : S) : List Con := []
noncomputable def atFE (L : List Nat) (i x : Nat) (u2 u3 u4 : V) (s : S) : List EQ := [.eq (.bool (!leI (Int.ofNat (len L)) (Int.ofNat i))) (.bool false)]
noncomputable def atFZ (L : List Nat) (i x : Nat) (u2 u3 u4 : V) (s : S) : ZJ := [vj 4 0]
theorem atF (L : List Nat) (i x : Nat) (u2 u3 u4 : V) (s : S) (tl : Nat → V) (m : M) (he : ∀ q ∈ atFE L i x u2 u3 u4 s, q.Holds) {n0 : Nat} (hc : ∀ n', n0 ≤ n' → ∀ cc ∈ atFC L i x u2 u3 u4 s, ∀ ss, okS cc.2.2.1 ss → (recN EL n').call cc.1 cc.2.1 ss = .ret cc.2.2.2 ss false) : ∃ T', len T' = 13 ∧ takeB 5 T' = [(.lsl (cellsL L) (len L) false), .int .i64 (Int.ofNat i), u2, u3, .int .i64 0] ∧ exec atFK EL (recN EL (n0 + 1 + 20)) (app [(.lsl (cellsL L) (len L) false), .int .i64 (Int.ofNat i), u2, u3, u4] (restT tl 8 5)) m s = .ret T' m s := by
  refine hypJ_ok (cs := atFC L i x u2 u3 u4 s) (ds := []) he (atFZ L i x u2 u3 u4 s) (by rfl) (cast ?_ (code_ex (E := EL) (cs := atFC L i x u2 u3 u4 s) (ds := []) (es := atFE L i x u2 u3 u4 s) fa_nil he (n0 := n0) hc 20 5 atFK (app [(.lsl (cellsL L) (len L) false), .int .i64 (Int.ofNat i), u2, u3, u4] (restT tl 8 5)) m s (atFZ L i x u2 u3 u4 s)))
  kernel_rfl
noncomputable def trPK : Code := (sr (sr (bodyOf Tryz.f384)))
noncomputable def trPC (L L' : List Nat) (x : Nat) (u1 u2 : V) (s : S) : List Con := []
noncomputable def trPE (L L' : List Nat) (x : Nat) (u1 u2 : V) (s : S) : List EQ := []
noncomputable def trPZ (L L' : List Nat) (x : Nat) (u1 u2 : V) (s : S) : ZJ := []
theorem trP (L L' : List Nat) (x : Nat) (u1 u2 : V) (s : S) (tl : Nat → V) (m : M) (he : ∀ q ∈ trPE L L' x u1 u2 s, q.Holds) {n0 : Nat} (hc : ∀ n', n0 ≤ n' → ∀ cc ∈ trPC L L' x u1 u2 s, ∀ ss, okS cc.2.2.1 ss → (recN EL n').call cc.1 cc.2.1 ss = .ret cc.2.2.2 ss false) : ∃ T', len T' = 21 ∧ takeB 3 T' = [(.lsl (cellsL L) (len L) false), u1, (.lsl (cellsL L) (len L) false)] ∧ exec trPK EL (recN EL (n0 + 1 + 20)) (app [(.lsl (cellsL L) (len L) false), u1, u2] (restT tl 18 3)) m s = .ret T' m s := by
  refine hypJ_ok (cs := trPC L L' x u1 u2 s) (ds := []) he (trPZ L L' x u1 u2 s) (by rfl) (cast ?_ (code_ex (E := EL) (cs := trPC L L' x u1 u2 s) (ds := []) (es := trPE L L' x u1 u2 s) fa_nil he (n0 := n0) hc 20 3 trPK (app [(.lsl (cellsL L) (len L) false), u1, u2] (restT tl 18 3)) m s (trPZ L L' x u1 u2 s)))
  kernel_rfl
end
end Go.AM.E15
end
section
set_option maxRecDepth 100000
namespace Go.AM.E15
open Go Go.Proofs
noncomputable section
noncomputable def adLNK : Code := (unL (unB (sr (sr (bodyOf Tryz.f405)))))
noncomputable def adLNC (L : List Nat) (y f c i x z b b2 dl : Nat) (u4 u5 u6 u7 u10 : V) (s s1 s2 s3 : S) : List Con := [(486, [(.lsl (cellsL L) (len L) false), .int .i64 (Int.ofNat i)], none, intI x)]
noncomputable def adLNE (L : List Nat) (y f c i x z b b2 dl : Nat) (u4 u5 u6 u7 u10 : V) (s s1 s2 s3 : S) : List EQ := [.eq (.bool (!leI (Int.ofNat (len L)) (Int.ofNat i))) (.bool true), .eq (.int .i64 (wrap .i64 (((Int.ofNat f)) + ((Int.ofNat i))))) (.int .i64 (Int.ofNat (f + i))), .eq (.bool (leI (Int.ofNat dl) (Int.ofNat (f + i)))) (.bool false), .eq (.int .i64 (wrap .i64 (((Int.ofNat x)) * ((Int.ofNat y))))) (.int .i64 (Int.ofNat (x * y))), .eq (.int .i64 (wrap .i64 (((Int.ofNat z)) + ((Int.ofNat (x * y)))))) (.int .i64 (Int.ofNat (z + (x * y)))), .eq (.int .i64 (wrap .i64 (((Int.ofNat (z + (x * y)))) + ((Int.ofNat c))))) (.int .i64 (Int.ofNat ((z + (x * y)) + c))), .eq (.int .i64 (Int.tmod ((Int.ofNat ((z + (x * y)) + c))) (1000000000))) (.int .i64 (Int.ofNat (((z + (x * y)) + c) % 1000000000))), .eq (.int .i64 (wrap .i64 (Int.tdiv ((Int.ofNat ((z + (x * y)) + c))) (1000000000)))) (.int .i64 (Int.ofNat (((z + (x * y)) + c) / 1000000000))), .eq (.int .i64 (wrap .i64 (((Int.ofNat i)) + (1)))) (.int .i64 (Int.ofNat (i + 1))), .pr (pLoad 250 (.ptr 0 0) (.sl b 0 dl 1 none) s), .pr (pIdx 250 (.sl b 0 dl 1 none) (f + i) (.ptr b (0 + (f + i) * 1)) s), .pr (pLoad 3 (.ptr b (0 + (f + i) * 1)) (intI z) s), .pr (pStore 3 (.ptr b (0 + (f + i) * 1)) [.int .i64 (Int.ofNat (((z + (x * y)) + c) % 1000000000))] s s1)]
noncomputable def adLNZ (L : List Nat) (y f c i x z b b2 dl : Nat) (u4 u5 u6 u7 u10 : V) (s s1 s2 s3 : S) : ZJ := [vj 3 0, (5, .pre 9 ((.sl b 0 dl 1 none)) s), vj 3 1, vj 0 2, (3, .pre 9 ((.sl b 0 dl 1 none)) s), vj 2 1, (0, .pre 10 ((.ptr b (0 + (f + i) * 1))) s), (0, .pre 11 (intI z) s), cj 4 0, vj 1 3, vj 0 4, vj 0 5, (4, .pre 9 ((.sl b 0 dl 1 none)) s), vj 2 1, vj 1 6, (0, .pre 10 ((.ptr b (0 + (f + i) * 1))) s), (0, .pre 12 (undef) s1), vj 1 7, vj 2 8]
theorem adLN (L : List Nat) (y f c i x z b b2 dl : Nat) (u4 u5 u6 u7 u10 : V) (s s1 s2 s3 : S) (tl : Nat → V) (m : M) (he : ∀ q ∈ adLNE L y f c i x z b b2 dl u4 u5 u6 u7 u10 s s1 s2 s3, q.Holds) {n0 : Nat} (hc : ∀ n', n0 ≤ n' → ∀ cc ∈ adLNC L y f c i x z b b2 dl u4 u5 u6 u7 u10 s s1 s2 s3, ∀ ss, okS cc.2.2.1 ss → (recN EL n').call cc.1 cc.2.1 ss = .ret cc.2.2.2 ss false) : ∃ T', len T' = 68 ∧ takeB 11 T' = [.ptr 0 0, (.lsl (cellsL L) (len L) false), .int .i64 (Int.ofNat y), .int .i64 (Int.ofNat f), u4, u5, u6, u7, .int .i64 (Int.ofNat (((z + (x * y)) + c) / 1000000000)), .int .i64 (Int.ofNat (i + 1)), .int .i64 (Int.ofNat ((z + (x * y)) + c))] ∧ exec adLNK EL (recN EL (n0 + 1 + 20)) (app [.ptr 0 0, (.lsl (cellsL L) (len L) false), .int .i64 (Int.ofNat y), .int .i64 (Int.ofNat f), u4, u5, u6, u7, .int .i64 (Int.ofNat c), .int .i64 (Int.ofNat i), u10] (restT tl 57 11)) m s = .norm T' m s1 := by
  refine hypJ_ok (cs := adLNC L y f c i x z b b2 dl u4 u5 u6 u7 u10 s s1 s2 s3) (ds := []) he (adLNZ L y f c i x z b b2 dl u4 u5 u6 u7 u10 s s1 s2 s3) (by rfl) (cast ?_ (code_ex (E := EL) (cs := adLNC L y f c i x z b b2 dl u4 u5 u6 u7 u10 s s1 s2 s3) (ds := []) (es := adLNE L y f c i x z b b2 dl u4 u5 u6 u7 u10 s s1 s2 s3) fa_nil he (n0 := n0) hc 20 11 adLNK (app [.ptr 0 0, (.lsl (cellsL L) (len L) false), .int .i64 (Int.ofNat y), .int .i64 (Int.ofNat f), u4, u5, u6, u7, .int .i64 (Int.ofNat c), .int .i64 (Int.ofNat i), u10] (restT tl 57 11)) m s (adLNZ L y f c i x z b b2 dl u4 u5 u6 u7 u10 s s1 s2 s3)))
  kernel_rfl
noncomputable def adCNK : Code := (unL (unB (sr (sr (bodyOf Tryz.f405)))))
noncomputable def adCNC (L : List Nat) (y f c i x z b b2 dl : Nat) (u4 u5 u6 u7 u10 : V) (s s1 s2 s3 : S) : List Con := [(486, [(.lsl (cellsL L) (len L) false), .int .i64 (Int.ofNat i)], none, intI x)]
noncomputable def adCNE (L : List Nat) (y f c i x z b b2 dl : Nat) (u4 u5 u6 u7 u10 : V) (s s1 s2 s3 : S) : List EQ := [.eq (.bool (!leI (Int.ofNat (len L)) (Int.ofNat i))) (.bool false), .eq (.bool (!leI (Int.ofNat c) 0)) (.bool true), .eq (.int .i64 (wrap .i64 (((Int.ofNat f)) + ((Int.ofNat i))))) (.int .i64 (Int.ofNat (f + i))), .eq (.bool (leI (Int.ofNat dl) (Int.ofNat (f + i)))) (.bool false), .eq (.int .i64 (wrap .i64 (((Int.ofNat x)) * ((Int.ofNat y))))) (.int .i64 (Int.ofNat (x * y))), .eq (.int .i64 (wrap .i64 (((Int.ofNat z)) + ((Int.ofNat (x * y)))))) (.int .i64 (Int.ofNat (z + (x * y)))), .eq (.int .i64 (wrap .i64 (((Int.ofNat (z + (x * y)))) + ((Int.ofNat c))))) (.int .i64 (Int.ofNat ((z + (x * y)) + c))), .eq (.int .i64 (Int.tmod ((Int.ofNat ((z + (x * y)) + c))) (1000000000))) (.int .i64 (Int.ofNat (((z + (x * y)) + c) % 1000000000))), .eq (.int .i64 (wrap .i64 (Int.tdiv ((Int.ofNat ((z + (x * y)) + c))) (1000000000)))) (.int .i64 (Int.ofNat (((z + (x * y)) + c) / 1000000000))), .eq (.int .i64 (wrap .i64 (((Int.ofNat i)) + (1)))) (.int .i64 (Int.ofNat (i + 1))), .pr (pLoad 250 (.ptr 0 0) (.sl b 0 dl 1 none) s), .pr (pIdx 250 (.sl b 0 dl 1 none) (f + i) (.ptr b (0 + (f + i) * 1)) s), .pr (pLoad 3 (.ptr b (0 + (f + i) * 1)) (intI z) s), .pr (pStore 3 (.ptr b (0 + (f + i) * 1)) [.int .i64 (Int.ofNat (((z + (x * y)) + c) % 1000000000))] s s1)]
noncomputable def adCNZ (L : List Nat) (y f c i x z b b2 dl : Nat) (u4 u5 u6 u7 u10 : V) (s s1 s2 s3 : S) : ZJ := [vj 3 0, vj 2 1, (4, .pre 10 ((.sl b 0 dl 1 none)) s), vj 3 2, vj 0 3, (3, .pre 10 ((.sl b 0 dl 1 none)) s), vj 2 2, (0, .pre 11 ((.ptr b (0 + (f + i) * 1))) s), (0, .pre 12 (intI z) s), cj 4 0, vj 1 4, vj 0 5, vj 0 6, (4, .pre 10 ((.sl b 0 dl 1 none)) s), vj 2 2, vj 1 7, (0, .pre 11 ((.ptr b (0 + (f + i) * 1))) s), (0, .pre 13 (undef) s1), vj 1 8, vj 2 9]
theorem adCN (L : List Nat) (y f c i x z b b2 dl : Nat) (u4 u5 u6 u7 u10 : V) (s s1 s2 s3 : S) (tl : Nat → V) (m : M) (he : ∀ q ∈ adCNE L y f c i x z b b2 dl u4 u5 u6 u7 u10 s s1 s2 s3, q.Holds) {n0 : Nat} (hc : ∀ n', n0 ≤ n' → ∀ cc ∈ adCNC L y f c i x z b b2 dl u4 u5 u6 u7 u10 s s1 s2 s3, ∀ ss, okS cc.2.2.1 ss → (recN EL n').call cc.1 cc.2.1 ss = .ret cc.2.2.2 ss false) : ∃ T', len T' = 68 ∧ takeB 11 T' = [.ptr 0 0, (.lsl (cellsL L) (len L) false), .int .i64 (Int.ofNat y), .int .i64 (Int.ofNat f), u4, u5, u6, u7, .int .i64 (Int.ofNat (((z + (x * y)) + c) / 1000000000)), .int .i64 (Int.ofNat (i + 1)), .int .i64 (Int.ofNat ((z + (x * y)) + c))] ∧ exec adCNK EL (recN EL (n0 + 1 + 20)) (app [.ptr 0 0, (.lsl (cellsL L) (len L) false), .int .i64 (Int.ofNat y), .int .i64 (Int.ofNat f), u4, u5, u6, u7, .int .i64 (Int.ofNat c), .int .i64 (Int.ofNat i), u10] (restT tl 57 11)) m s = .norm T' m s1 := by
  refine hypJ_ok (cs := adCNC L y f c i x z b b2 dl u4 u5 u6 u7 u10 s s1 s2 s3) (ds := []) he (adCNZ L y f c i x z b b2 dl u4 u5 u6 u7 u10 s s1 s2 s3) (by rfl) (cast ?_ (code_ex (E := EL) (cs := adCNC L y f c i x z b b2 dl u4 u5 u6 u7 u10 s s1 s2 s3) (ds := []) (es := adCNE L y f c i x z b b2 dl u4 u5 u6 u7 u10 s s1 s2 s3) fa_nil he (n0 := n0) hc 20 11 adCNK (app [.ptr 0 0, (.lsl (cellsL L) (len L) false), .int .i64 (Int.ofNat y), .int .i64 (Int.ofNat f), u4, u5, u6, u7, .int .i64 (Int.ofNat c), .int .i64 (Int.ofNat i), u10] (restT tl 57 11)) m s (adCNZ L y f c i x z b b2 dl u4 u5 u6 u7 u10 s s1 s2 s3)))
  kernel_rfl
noncomputable def adLSK : Code := (unL (unB (sr (sr (bodyOf Tryz.f405)))))
noncomputable def adLSC (L : List Nat) (y f c i x z b b2 dl : Nat) (u4 u5 u6 u7 u10 : V) (s s1 s2 s3 : S) : List Con := [(486, [(.lsl (cellsL L) (len L) false), .int .i64 (Int.ofNat i)], none, intI x)]
noncomputable def adLSE (L : List Nat) (y f c i x z b b2 dl : Nat) (u4 u5 u6 u7 u10 : V) (s s1 s2 s3 : S) : List EQ := [.eq (.bool (!leI (Int.ofNat (len L)) (Int.ofNat i))) (.bool true), .eq (.int .i64 (wrap .i64 (((Int.ofNat f)) + ((Int.ofNat i))))) (.int .i64 (Int.ofNat dl)), .eq (.bool (leI (Int.ofNat dl) (Int.ofNat dl))) (.bool true), .eq (.bool (leI (Int.ofNat (dl + 1)) (Int.ofNat dl))) (.bool false), .eq (.int .i64 (wrap .i64 (((Int.ofNat x)) * ((Int.ofNat y))))) (.int .i64 (Int.ofNat (x * y))), .eq (.int .i64 (wrap .i64 ((0) + ((Int.ofNat (x * y)))))) (.int .i64 (Int.ofNat (x * y))), .eq (.int .i64 (wrap .i64 (((Int.ofNat (x * y))) + ((Int.ofNat c))))) (.int .i64 (Int.ofNat ((x * y) + c))), .eq (.int .i64 (Int.tmod ((Int.ofNat ((x * y) + c))) (1000000000))) (.int .i64 (Int.ofNat (((x * y) + c) % 1000000000))), .eq (.int .i64 (wrap .i64 (Int.tdiv ((Int.ofNat ((x * y) + c))) (1000000000)))) (.int .i64 (Int.ofNat (((x * y) + c) / 1000000000))), .eq (.int .i64 (wrap .i64 (((Int.ofNat i)) + (1)))) (.int .i64 (Int.ofNat (i + 1))), .pr (pLoad 250 (.ptr 0 0) (.sl b 0 dl 1 none) s), .pr (pApp 250 250 (.sl b 0 dl 1 none) (.sl s.next 0 1 1 (some 1)) (.sl b2 0 (dl + 1) 1 none) (s.new (.cells true 0 [.int .i64 0])) s1), .pr (pStore 250 (.ptr 0 0) [(.sl b2 0 (dl + 1) 1 none)] s1 s2), .pr (pLoad 250 (.ptr 0 0) (.sl b2 0 (dl + 1) 1 none) s2), .pr (pIdx 250 (.sl b2 0 (dl + 1) 1 none) (dl) (.ptr b2 (0 + (dl) * 1)) s2), .pr (pLoad 3 (.ptr b2 (0 + (dl) * 1)) (.int .i64 0) s2), .pr (pStore 3 (.ptr b2 (0 + (dl) * 1)) [.int .i64 (Int.ofNat (((x * y) + c) % 1000000000))] s2 s3)]
noncomputable def adLSZ (L : List Nat) (y f c i x z b b2 dl : Nat) (u4 u5 u6 u7 u10 : V) (s s1 s2 s3 : S) : ZJ := [vj 3 0, (5, .pre 10 ((.sl b 0 dl 1 none)) s), vj 3 1, vj 0 2, (4, .pre 10 ((.sl b 0 dl 1 none)) s), (1, .pre 11 ((.sl b2 0 (dl + 1) 1 none)) s1), (2, .pre 12 (undef) s2), (3, .pre 13 ((.sl b2 0 (dl + 1) 1 none)) s2), vj 3 1, vj 0 3, (3, .pre 13 ((.sl b2 0 (dl + 1) 1 none)) s2), vj 2 1, (0, .pre 14 ((.ptr b2 (0 + (dl) * 1))) s2), (0, .pre 15 (.int .i64 0) s2), cj 4 0, vj 1 4, vj 0 5, vj 0 6, (4, .pre 13 ((.sl b2 0 (dl + 1) 1 none)) s2), vj 2 1, vj 1 7, (0, .pre 14 ((.ptr b2 (0 + (dl) * 1))) s2), (0, .pre 16 (undef) s3), vj 1 8, vj 2 9]
theorem adLS (L : List Nat) (y f c i x z b b2 dl : Nat) (u4 u5 u6 u7 u10 : V) (s s1 s2 s3 : S) (tl : Nat → V) (m : M) (he : ∀ q ∈ adLSE L y f c i x z b b2 dl u4 u5 u6 u7 u10 s s1 s2 s3, q.Holds) {n0 : Nat} (hc : ∀ n', n0 ≤ n' → ∀ cc ∈ adLSC L y f c i x z b b2 dl u4 u5 u6 u7 u10 s s1 s2 s3, ∀ ss, okS cc.2.2.1 ss → (recN EL n').call cc.1 cc.2.1 ss = .ret cc.2.2.2 ss false) : ∃ T', len T' = 68 ∧ takeB 11 T' = [.ptr 0 0, (.lsl (cellsL L) (len L) false), .int .i64 (Int.ofNat y), .int .i64 (Int.ofNat f), u4, u5, u6, u7, .int .i64 (Int.ofNat (((x * y) + c) / 1000000000)), .int .i64 (Int.ofNat (i + 1)), .int .i64 (Int.ofNat ((x * y) + c))] ∧ exec adLSK EL (recN EL (n0 + 1 + 20)) (app [.ptr 0 0, (.lsl (cellsL L) (len L) false), .int .i64 (Int.ofNat y), .int .i64 (Int.ofNat f), u4, u5, u6, u7, .int .i64 (Int.ofNat c), .int .i64 (Int.ofNat i), u10] (restT tl 57 11)) m s = .norm T' m s3 := by
  refine hypJ_ok (cs := adLSC L y f c i x z b b2 dl u4 u5 u6 u7 u10 s s1 s2 s3) (ds := []) he (adLSZ L y f c i x z b b2 dl u4 u5 u6 u7 u10 s s1 s2 s3) (by rfl) (cast ?_ (code_ex (E := EL) (cs := adLSC L y f c i x z b b2 dl u4 u5 u6 u7 u10 s s1 s2 s3) (ds := []) (es := adLSE L y f c i x z b b2 dl u4 u5 u6 u7 u10 s s1 s2 s3) fa_nil he (n0 := n0) hc 20 11 adLSK (app [.ptr 0 0, (.lsl (cellsL L) (len L) false), .int .i64 (Int.ofNat y), .int .i64 (Int.ofNat f), u4, u5, u6, u7, .int .i64 (Int.ofNat c), .int .i64 (Int.ofNat i), u10] (restT tl 57 11)) m s (adLSZ L y f c i x z b b2 dl u4 u5 u6 u7 u10 s s1 s2 s3)))
  kernel_rfl
noncomputable def adCSK : Code := (unL (unB (sr (sr (bodyOf Tryz.f405)))))
noncomputable def adCSC (L : List Nat) (y f c i x z b b2 dl : Nat) (u4 u5 u6 u7 u10 : V) (s s1 s2 s3 : S) : List Con := [(486, [(.lsl (cellsL L) (len L) false), .int .i64 (Int.ofNat i)], none, intI x)]
noncomputable def adCSE (L : List Nat) (y f c i x z b b2 dl : Nat) (u4 u5 u6 u7 u10 : V) (s s1 s2 s3 : S) : List EQ := [.eq (.bool (!leI (Int.ofNat (len L)) (Int.ofNat i))) (.bool false), .eq (.bool (!leI (Int.ofNat c) 0)) (.bool true), .eq (.int .i64 (wrap .i64 (((Int.ofNat f)) + ((Int.ofNat i))))) (.int .i64 (Int.ofNat dl)), .eq (.bool (leI (Int.ofNat dl) (Int.ofNat dl))) (.bool true), .eq (.bool (leI (Int.ofNat (dl + 1)) (Int.ofNat dl))) (.bool false), .eq (.int .i64 (wrap .i64 (((Int.ofNat x)) * ((Int.ofNat y))))) (.int .i64 (Int.ofNat (x * y))), .eq (.int .i64 (wrap .i64 ((0) + ((Int.ofNat (x * y)))))) (.int .i64 (Int.ofNat (x * y))), .eq (.int .i64 (wrap .i64 (((Int.ofNat (x * y))) + ((Int.ofNat c))))) (.int .i64 (Int.ofNat ((x * y) + c))), .eq (.int .i64 (Int.tmod ((Int.ofNat ((x * y) + c))) (1000000000))) (.int .i64 (Int.ofNat (((x * y) + c) % 1000000000))), .eq (.int .i64 (wrap .i64 (Int.tdiv ((Int.ofNat ((x * y) + c))) (1000000000)))) (.int .i64 (Int.ofNat (((x * y) + c) / 1000000000))), .eq (.int .i64 (wrap .i64 (((Int.ofNat i)) + (1)))) (.int .i64 (Int.ofNat (i + 1))), .pr (pLoad 250 (.ptr 0 0) (.sl b 0 dl 1 none) s), .pr (pApp 250 250 (.sl b 0 dl 1 none) (.sl s.next 0 1 1 (some 1)) (.sl b2 0 (dl + 1) 1 none) (s.new (.cells true 0 [.int .i64 0])) s1), .pr (pStore 250 (.ptr 0 0) [(.sl b2 0 (dl + 1) 1 none)] s1 s2), .pr (pLoad 250 (.ptr 0 0) (.sl b2 0 (dl + 1) 1 none) s2), .pr (pIdx 250 (.sl b2 0 (dl + 1) 1 none) (dl) (.ptr b2 (0 + (dl) * 1)) s2), .pr (pLoad 3 (.ptr b2 (0 + (dl) * 1)) (.int .i64 0) s2), .pr (pStore 3 (.ptr b2 (0 + (dl) * 1)) [.int .i64 (Int.ofNat (((x * y) + c) % 1000000000))] s2 s3)]
noncomputable def adCSZ (L : List Nat) (y f c i x z b b2 dl : Nat) (u4 u5 u6 u7 u10 : V) (s s1 s2 s3 : S) : ZJ := [vj 3 0, vj 2 1, (4, .pre 11 ((.sl b 0 dl 1 none)) s), vj 3 2, vj 0 3, (4, .pre 11 ((.sl b 0 dl 1 none)) s), (1, .pre 12 ((.sl b2 0 (dl + 1) 1 none)) s1), (2, .pre 13 (undef) s2), (3, .pre 14 ((.sl b2 0 (dl + 1) 1 none)) s2), vj 3 2, vj 0 4, (3, .pre 14 ((.sl b2 0 (dl + 1) 1 none)) s2), vj 2 2, (0, .pre 15 ((.ptr b2 (0 + (dl) * 1))) s2), (0, .pre 16 (.int .i64 0) s2), cj 4 0, vj 1 5, vj 0 6, vj 0 7, (4, .pre 14 ((.sl b2 0 (dl + 1) 1 none)) s2), vj 2 2, vj 1 8, (0, .pre 15 ((.ptr b2 (0 + (dl) * 1))) s2), (0, .pre 17 (undef) s3), vj 1 9, vj 2 10]
theorem adCS (L : List Nat) (y f c i x z b b2 dl : Nat) (u4 u5 u6 u7 u10 : V) (s s1 s2 s3 : S) (tl : Nat → V) (m : M) (he : ∀ q ∈ adCSE L y f c i x z b b2 dl u4 u5 u6 u7 u10 s s1 s2 s3, q.Holds) {n0 : Nat} (hc : ∀ n', n0 ≤ n' → ∀ cc ∈ adCSC L y f c i x z b b2 dl u4 u5 u6 u7 u10 s s1 s2 s3, ∀ ss, okS cc.2.2.1 ss → (recN EL n').call cc.1 cc.2.1 ss = .ret cc.2.2.2 ss false) : ∃ T', len T' = 68 ∧ takeB 11 T' = [.ptr 0 0, (.lsl (cellsL L) (len L) false), .int .i64 (Int.ofNat y), .int .i64 (Int.ofNat f), u4, u5, u6, u7, .int .i64 (Int.ofNat (((x * y) + c) / 1000000000)), .int .i64 (Int.ofNat (i + 1)), .int .i64 (Int.ofNat ((x * y) + c))] ∧ exec adCSK EL (recN EL (n0 + 1 + 20)) (app [.ptr 0 0, (.lsl (cellsL L) (len L) false), .int .i64 (Int.ofNat y), .int .i64 (Int.ofNat f), u4, u5, u6, u7, .int .i64 (Int.ofNat c), .int .i64 (Int.ofNat i), u10] (restT tl 57 11)) m s = .norm T' m s3 := by
  refine hypJ_ok (cs := adCSC L y f c i x z b b2 dl u4 u5 u6 u7 u10 s s1 s2 s3) (ds := []) he (adCSZ L y f c i x z b b2 dl u4 u5 u6 u7 u10 s s1 s2 s3) (by rfl) (cast ?_ (code_ex (E := EL) (cs := adCSC L y f c i x z b b2 dl u4 u5 u6 u7 u10 s s1 s2 s3) (ds := []) (es := adCSE L y f c i x z b b2 dl u4 u5 u6 u7 u10 s s1 s2 s3) fa_nil he (n0 := n0) hc 20 11 adCSK (app [.ptr 0 0, (.lsl (cellsL L) (len L) false), .int .i64 (Int.ofNat y), .int .i64 (Int.ofNat f), u4, u5, u6, u7, .int .i64 (Int.ofNat c), .int .i64 (Int.ofNat i), u10] (restT tl 57 11)) m s (adCSZ L y f c i x z b b2 dl u4 u5 u6 u7 u10 s s1 s2 s3)))
  kernel_rfl
noncomputable def adLZK : Code := (unL (unB (sr (sr (bodyOf Tryz.f405)))))
noncomputable def adLZC (L : List Nat) (y f c i x z b b2 dl : Nat) (u4 u5 u6 u7 u10 : V) (s s1 s2 s3 : S) : List Con := [(486, [(.lsl (cellsL L) (len L) false), .int .i64 0], none, intI x)]
noncomputable def adLZE (L : List Nat) (y f c i x z b b2 dl : Nat) (u4 u5 u6 u7 u10 : V) (s s1 s2 s3 : S) : List EQ := [.eq (.bool (!leI (Int.ofNat (len L)) 0)) (.bool true), .eq (.int .i64 (wrap .i64 (((Int.ofNat x)) * ((Int.ofNat y))))) (.int .i64 (Int.ofNat (x * y))), .eq (.int .i64 (wrap .i64 ((0) + ((Int.ofNat (x * y)))))) (.int .i64 (Int.ofNat (x * y))), .eq (.int .i64 (wrap .i64 (((Int.ofNat (x * y))) + (0)))) (.int .i64 (Int.ofNat (x * y))), .eq (.int .i64 (Int.tmod ((Int.ofNat (x * y))) (1000000000))) (.int .i64 (Int.ofNat ((x * y) % 1000000000))), .eq (.int .i64 (wrap .i64 (Int.tdiv ((Int.ofNat (x * y))) (1000000000)))) (.int .i64 (Int.ofNat ((x * y) / 1000000000))), .pr (pLoad 250 (.ptr 0 0) .nils s), .pr (pApp 250 250 .nils (.sl s.next 0 1 1 (some 1)) (.sl b2 0 1 1 none) (s.new (.cells true 0 [.int .i64 0])) s1), .pr (pStore 250 (.ptr 0 0) [(.sl b2 0 1 1 none)] s1 s2), .pr (pLoad 250 (.ptr 0 0) (.sl b2 0 1 1 none) s2), .pr (pIdx 250 (.sl b2 0 1 1 none) (0) (.ptr b2 (0 + (0) * 1)) s2), .pr (pLoad 3 (.ptr b2 (0 + (0) * 1)) (.int .i64 0) s2), .pr (pStore 3 (.ptr b2 (0 + (0) * 1)) [.int .i64 (Int.ofNat ((x * y) % 1000000000))] s2 s3)]
noncomputable def adLZZ (L : List Nat) (y f c i x z b b2 dl : Nat) (u4 u5 u6 u7 u10 : V) (s s1 s2 s3 : S) : ZJ := [vj 3 0, (5, .pre 6 (.nils) s), (9, .pre 6 (.nils) s), (1, .pre 7 ((.sl b2 0 1 1 none)) s1), (2, .pre 8 (undef) s2), (3, .pre 9 ((.sl b2 0 1 1 none)) s2), (8, .pre 9 ((.sl b2 0 1 1 none)) s2), (3, .pre 10 ((.ptr b2 (0 + (0) * 1))) s2), (0, .pre 11 (.int .i64 0) s2), cj 4 0, vj 1 1, vj 0 2, vj 0 3, (4, .pre 9 ((.sl b2 0 1 1 none)) s2), vj 4 4, (0, .pre 10 ((.ptr b2 (0 + (0) * 1))) s2), (0, .pre 12 (undef) s3), vj 1 5]
theorem adLZ (L : List Nat) (y f c i x z b b2 dl : Nat) (u4 u5 u6 u7 u10 : V) (s s1 s2 s3 : S) (tl : Nat → V) (m : M) (he : ∀ q ∈ adLZE L y f c i x z b b2 dl u4 u5 u6 u7 u10 s s1 s2 s3, q.Holds) {n0 : Nat} (hc : ∀ n', n0 ≤ n' → ∀ cc ∈ adLZC L y f c i x z b b2 dl u4 u5 u6 u7 u10 s s1 s2 s3, ∀ ss, okS cc.2.2.1 ss → (recN EL n').call cc.1 cc.2.1 ss = .ret cc.2.2.2 ss false) : ∃ T', len T' = 68 ∧ takeB 11 T' = [.ptr 0 0, (.lsl (cellsL L) (len L) false), .int .i64 (Int.ofNat y), .int .i64 0, u4, u5, u6, u7, .int .i64 (Int.ofNat ((x * y) / 1000000000)), .int .i64 1, .int .i64 (Int.ofNat (x * y))] ∧ exec adLZK EL (recN EL (n0 + 1 + 20)) (app [.ptr 0 0, (.lsl (cellsL L) (len L) false), .int .i64 (Int.ofNat y), .int .i64 0, u4, u5, u6, u7, .int .i64 0, .int .i64 0, u10] (restT tl 57 11)) m s = .norm T' m s3 := by
  refine hypJ_ok (cs := adLZC L y f c i x z b b2 dl u4 u5 u6 u7 u10 s s1 s2 s3) (ds := []) he (adLZZ L y f c i x z b b2 dl u4 u5 u6 u7 u10 s s1 s2 s3) (by rfl) (cast ?_ (code_ex (E := EL) (cs := adLZC L y f c i x z b b2 dl u4 u5 u6 u7 u10 s s1 s2 s3) (ds := []) (es := adLZE L y f c i x z b b2 dl u4 u5 u6 u7 u10 s s1 s2 s3) fa_nil he (n0 := n0) hc 20 11 adLZK (app [.ptr 0 0, (.lsl (cellsL L) (len L) false), .int .i64 (Int.ofNat y), .int .i64 0, u4, u5, u6, u7, .int .i64 0, .int .i64 0, u10] (restT tl 57 11)) m s (adLZZ L y f c i x z b b2 dl u4 u5 u6 u7 u10 s s1 s2 s3)))
  kernel_rfl
noncomputable def adXK : Code := (unL (unB (sr (sr (bodyOf Tryz.f405)))))
noncomputable def adXC (L : List Nat) (y f c i x z b b2 dl : Nat) (u4 u5 u6 u7 u10 : V) (s s1 s2 s3 : S) : List Con := []
noncomputable def adXE (L : List Nat) (y f c i x z b b2 dl : Nat) (u4 u5 u6 u7 u10 : V) (s s1 s2 s3 : S) : List EQ := [.eq (.bool (!leI (Int.ofNat (len L)) (Int.ofNat i))) (.bool false)]
noncomputable def adXZ (L : List Nat) (y f c i x z b b2 dl : Nat) (u4 u5 u6 u7 u10 : V) (s s1 s2 s3 : S) : ZJ := [vj 3 0]
theorem adX (L : List Nat) (y f c i x z b b2 dl : Nat) (u4 u5 u6 u7 u10 : V) (s s1 s2 s3 : S) (tl : Nat → V) (m : M) (he : ∀ q ∈ adXE L y f c i x z b b2 dl u4 u5 u6 u7 u10 s s1 s2 s3, q.Holds) {n0 : Nat} (hc : ∀ n', n0 ≤ n' → ∀ cc ∈ adXC L y f c i x z b b2 dl u4 u5 u6 u7 u10 s s1 s2 s3, ∀ ss, okS cc.2.2.1 ss → (recN EL n').call cc.1 cc.2.1 ss = .ret cc.2.2.2 ss false) : ∃ T', len T' = 68 ∧ takeB 11 T' = [.ptr 0 0, (.lsl (cellsL L) (len L) false), .int .i64 (Int.ofNat y), .int .i64 (Int.ofNat f), u4, u5, u6, u7, .int .i64 0, .int .i64 (Int.ofNat i), u10] ∧ exec adXK EL (recN EL (n0 + 1 + 20)) (app [.ptr 0 0, (.lsl (cellsL L) (len L) false), .int .i64 (Int.ofNat y), .int .i64 (Int.ofNat f), u4, u5, u6, u7, .int .i64 0, .int .i64 (Int.ofNat i), u10] (restT tl 57 11)) m s = .exit 0 T' m s := by
  refine hypJ_ok (cs := adXC L y f c i x z b b2 dl u4 u5 u6 u7 u10 s s1 s2 s3) (ds := []) he (adXZ L y f c i x z b b2 dl u4 u5 u6 u7 u10 s s1 s2 s3) (by rfl) (cast ?_ (code_ex (E := EL) (cs := adXC L y f c i x z b b2 dl u4 u5 u6 u7 u10 s s1 s2 s3) (ds := []) (es := adXE L y f c i x z b b2 dl u4 u5 u6 u7 u10 s s1 s2 s3) fa_nil he (n0 := n0) hc 20 11 adXK (app [.ptr 0 0, (.lsl (cellsL L) (len L) false), .int .i64 (Int.ofNat y), .int .i64 (Int.ofNat f), u4, u5, u6, u7, .int .i64 0, .int .i64 (Int.ofNat i), u10] (restT tl 57 11)) m s (adXZ L y f c i x z b b2 dl u4 u5 u6 u7 u10 s s1 s2 s3)))
  kernel_rfl
end
end Go.AM.E15
end
section
set_option maxRecDepth 100000
namespace Go.AM.E15
open Go Go.Proofs
noncomputable section
abbrev LSV (L : List Nat) : V := .lsl (cellsL L) (len L) false
abbrev nI (n : Nat) : V := .int .i64 (Int.ofNat n)
theorem plain_lsl (c : List V) (n : Nat) : Plain (.lsl c n false) := fun h => ⟨rfl, rfl⟩
theorem plain_nI (n : Nat) : Plain (nI n) := fun h => ⟨rfl, rfl⟩
theorem run_ret {f t : Nat} {fn : Func} {c : Code} {args T' : List V} {rc : Rec} {s s' : S} {v : V} (hf : EL.fn f = some fn) (hb : fn.body = some c) (hr : fn.results.toList = [.tmp t])
    (h : exec c EL rc (frame0 fn args) (bodyM false none) s = .ret T' (bodyM false none) s') (hv : nth T' t = some v) : doBody EL rc f args false none s = .ret v s' false := by
  unfold doBody
  rw [hf]
  show (optC fn.body .fail fun c => bodyEnd EL rc fn (exec c EL rc (frame0 fn args) (bodyM false none) s)) = _
  rw [hb]
  show bodyEnd EL rc fn (exec c EL rc (frame0 fn args) (bodyM false none) s) = _
  rw [h]
  show optC (resultsL EL T' s' fn.results.toList) CR.fail (fun l => CR.ret (tupled l) s' false) = _
  rw [hr]
  show optC (consO (nth T' t) (some [])) CR.fail (fun l => CR.ret (tupled l) s' false) = _
  rw [hv]; rfl
theorem take_nth {α : Type} : ∀ (n t : Nat) (l : List α), t < n → nth (takeB n l) t = nth l t := by
  intro n t l h
  rw [nth_eq, nth_eq, takeB_eq, List.getElem?_take, if_pos h]
theorem f486_at : EL.fn 486 = some Tryz.f486 := by kernel_rfl
theorem f486_body : Tryz.f486.body = some (bodyOf Tryz.f486) := by kernel_rfl
theorem f486_res : Tryz.f486.results.toList = [.tmp 4] := by kernel_rfl
theorem f486_frame (a b : V) : frame0 Tryz.f486 [a, b] = app [a, b, undef, undef, undef] (restT (fun _ => undef) 8 5) := by kernel_rfl
theorem m486 : EL.mode 486 = .E := by kernel_rfl
theorem o486 : EL.ov 486 = none := by kernel_rfl
theorem nle_of {a b : Nat} : V.bool (!leI (Int.ofNat a) (Int.ofNat b)) = .bool (decide (b < a)) := by
  rw [leI_eq]
  by_cases h : b < a
  · rw [decide_eq_true h, decide_eq_false (by have : (a : Int) ≤ b ↔ a ≤ b := Int.ofNat_le; show ¬ ((a : Int) ≤ b); omega)]; rfl
  · rw [decide_eq_false h, decide_eq_true (by show (a : Int) ≤ b; omega)]; rfl
theorem at_run (L : List Nat) (i N : Nat) (hN : 21 ≤ N) : runE EL N 486 [LSV L, nI i] = some (nI ((L[i]?).getD 0)) := by
  obtain ⟨n0, rfl⟩ : ∃ n0, N = n0 + 1 + 20 := ⟨N - 21, by omega⟩
  unfold runE
  cases hx : L[i]? with
  | some x =>
    have hi : i < L.length := by
      rcases Nat.lt_or_ge i L.length with h1 | h1
      · exact h1
      · rw [List.getElem?_eq_none h1] at hx; cases hx
    obtain ⟨T', _, ht, he⟩ := atT L i x undef undef undef s0 (fun _ => undef) (bodyM false none) (fa_cons (by rw [← len_eq] at hi; exact nle_of.trans (by rw [decide_eq_true hi])) <| fa_cons (pIdx_lit (by rw [len_eq]; exact hi)) <| fa_cons (pLoad_lit hx) fa_nil) (n0 := n0) (fun _ _ c hc => by cases hc)
    have : doBody EL (recN EL (n0 + 1 + 20)) 486 [LSV L, nI i] false none s0 = .ret (nI x) s0 false :=
      run_ret f486_at f486_body f486_res (by rw [f486_frame]; exact he) (by rw [← take_nth 5 4 T' (by decide), ht]; rfl)
    rw [this]; rfl
  | none =>
    have hi : L.length ≤ i := by
      rcases Nat.lt_or_ge i L.length with h1 | h1
      · rw [List.getElem?_eq_getElem h1] at hx; cases hx
      · exact h1
    obtain ⟨T', _, ht, he⟩ := atF L i 0 undef undef undef s0 (fun _ => undef) (bodyM false none) (fa_cons (nle_of.trans (by rw [decide_eq_false (by rw [len_eq]; omega)])) fa_nil) (n0 := n0) (fun _ _ c hc => by cases hc)
    have : doBody EL (recN EL (n0 + 1 + 20)) 486 [LSV L, nI i] false none s0 = .ret (nI 0) s0 false :=
      run_ret f486_at f486_body f486_res (by rw [f486_frame]; exact he) (by rw [← take_nth 5 4 T' (by decide), ht]; rfl)
    rw [this]; rfl
theorem at_call (L : List Nat) (i n : Nat) (hn : 22 ≤ n) (s : S) : (recN EL n).call 486 [LSV L, nI i] s = .ret (nI ((L[i]?).getD 0)) s false := by
  obtain ⟨N, rfl⟩ : ∃ N, n = N + 1 := ⟨n - 1, by omega⟩
  exact call_of m486 o486 (fa_cons (plain_lsl _ _) <| fa_cons (plain_nI _) fa_nil) (at_run L i N (by omega)) s
def PI (s : S) (D : List Nat) : Prop := s.lo = 0 ∧ 0 < s.next ∧ ((D = [] ∧ s.heap.get 0 = some (.cells true 429 [.nils])) ∨
  (∃ b t, 0 < b ∧ b < s.next ∧ s.heap.get 0 = some (.cells true 429 [.sl b 0 D.length 1 none]) ∧ s.heap.get b = some (.cells true t (cellsL D))))
theorem elT250 : elemTi EL 250 = some ⟨1, 8, false, .int .i64, [.int .i64 0]⟩ := by
  unfold elemTi
  rw [ti250, bind_some']
  exact ti3
theorem elE250 : elemE EL 250 = 4 := by
  unfold elemE
  rw [ti250]; rfl
theorem get_put (s : S) (b : Nat) (x : B) (j : Nat) : (s.put b x).heap.get j = if j = b then some x else s.heap.get j := Tr.get_set _ _ _ _
theorem get_new (s : S) (x : B) (j : Nat) : (s.new x).heap.get j = if j = s.next then some x else s.heap.get j := Tr.get_set _ _ _ _
theorem get_drop (s : S) (b j : Nat) : (s.drop b).heap.get j = if j = b then none else s.heap.get j := Tr.get_put _ _ _ _
theorem app_go {s : S} {x : V} {n : Nat} (hx : lenSl x = some n) (hn : n < 1000000) {nb : Nat} (hnb : s.heap.get nb = some (.cells true 0 [.int .i64 0])) {v : V} {s1 : S} (h : appendTo s 4 1 x 1 [.int .i64 0] = some (v, s1)) :
    pApp 250 250 x (.sl nb 0 1 1 (some 1)) v s s1 := by
  unfold pApp bAppend
  rw [elT250, bind_some', ti250, bind_some', elE250]
  show append s 4 1 8 x (.sl nb 0 1 1 (some 1)) = _
  unfold append
  rw [hx, bind_some']
  show boolC (Nat.ble (n + (0 + 1)) maxInt && Nat.ble ((n + (0 + 1)) * 8) room) none (bind (bind (blkCells (s.heap.get nb)) fun c => takeN (1 * 1) (dropN 0 c)) fun new => appendTo s 4 1 x (0 + 1) new) = _
  have h1 : Nat.ble (n + (0 + 1)) maxInt = true := by rw [Nat.ble_eq]; unfold maxInt; omega
  have h2 : Nat.ble ((n + (0 + 1)) * 8) room = true := by rw [Nat.ble_eq]; unfold room; omega
  rw [h1, h2, hnb]
  exact h
theorem app_nils {s : S} {nb : Nat} (hnb : s.heap.get nb = some (.cells true 0 [.int .i64 0])) : pApp 250 250 .nils (.sl nb 0 1 1 (some 1)) (.sl s.next 0 1 1 none) s (s.new (.cells true 4 [.int .i64 0])) :=
  app_go (n := 0) rfl (by decide) hnb rfl
theorem app_sl {s : S} {nb b n t : Nat} {c : List V} (hl : s.lo = 0) (hn : n < 1000000) (hb : s.heap.get b = some (.cells true t c)) (hc : c.length = n) (hnb : s.heap.get nb = some (.cells true 0 [.int .i64 0])) :
    ∃ t', pApp 250 250 (.sl b 0 n 1 none) (.sl nb 0 1 1 (some 1)) (.sl s.next 0 (n + 1) 1 none) s ((s.drop b).new (.cells true t' (c ++ [.int .i64 0]))) := by
  refine ⟨meetT 4 t, app_go (n := n) rfl hn hnb ?_⟩
  show appendSl s 4 1 b 0 n 1 none [.int .i64 0] = _
  unfold appendSl
  have h1 : sliceCells s 1 (.sl b 0 n 1 none) = some c := by
    show bind (blkCells (s.heap.get b)) (fun c => takeN (n * 1) (dropN 0 c)) = _
    rw [hb]
    show takeN (n * 1) c = some c
    rw [takeN_eq_some, Nat.mul_one]
    exact ⟨by omega, by rw [List.take_of_length_le (by omega)]⟩
  rw [h1, bind_some']
  show boolC (Nat.blt b s.lo) (boolC (isOwn (s.heap.get b) && oneL [V.int .i64 0]) none (freshRow (s.drop b) (meetT 4 (tyB (s.heap.get b))) (n + 1) 1 c [.int .i64 0])) none = _
  rw [hl, show Nat.blt b 0 = false by cases h : Nat.blt b 0 with | false => rfl | true => rw [Nat.blt_eq] at h; omega, hb]
  show some (V.sl s.next 0 (n + 1) 1 none, (s.drop b).new (.cells true (meetT 4 t) (app c [.int .i64 0]))) = _
  rw [app_eq]
end
end Go.AM.E15
end
section
set_option maxRecDepth 100000
namespace Go.AM.E15
open Go Go.Proofs
noncomputable section
theorem addN {a b : Nat} (h : a + b < 9223372036854775808) : V.int .i64 (wrap .i64 ((Int.ofNat a) + (Int.ofNat b))) = nI (a + b) :=
  wi64 rfl (by show (-9223372036854775808 : Int) ≤ ((a + b : Nat) : Int); omega) (by show ((a + b : Nat) : Int) ≤ 9223372036854775807; omega)
theorem add0N {b : Nat} (h : b < 9223372036854775808) : V.int .i64 (wrap .i64 ((0 : Int) + (Int.ofNat b))) = nI b :=
  wi64 (Int.zero_add _) (by show (-9223372036854775808 : Int) ≤ ((b : Nat) : Int); omega) (by show ((b : Nat) : Int) ≤ 9223372036854775807; omega)
theorem addZ {b : Nat} (h : b < 9223372036854775808) : V.int .i64 (wrap .i64 ((Int.ofNat b) + (0 : Int))) = nI b :=
  wi64 (Int.add_zero _) (by show (-9223372036854775808 : Int) ≤ ((b : Nat) : Int); omega) (by show ((b : Nat) : Int) ≤ 9223372036854775807; omega)
theorem add1N {a : Nat} (h : a + 1 < 9223372036854775808) : V.int .i64 (wrap .i64 ((Int.ofNat a) + 1)) = nI (a + 1) :=
  wi64 rfl (by show (-9223372036854775808 : Int) ≤ ((a + 1 : Nat) : Int); omega) (by show ((a + 1 : Nat) : Int) ≤ 9223372036854775807; omega)
theorem mulN {a b : Nat} (h : a * b < 9223372036854775808) : V.int .i64 (wrap .i64 ((Int.ofNat a) * (Int.ofNat b))) = nI (a * b) :=
  wi64 rfl (by show (-9223372036854775808 : Int) ≤ ((a * b : Nat) : Int); omega) (by show ((a * b : Nat) : Int) ≤ 9223372036854775807; omega)
theorem modN {a : Nat} : V.int .i64 (Int.tmod (Int.ofNat a) 1000000000) = nI (a % 1000000000) :=
  congrArg (V.int .i64) (show Int.tmod (a : Int) ((1000000000 : Nat) : Int) = ((a % 1000000000 : Nat) : Int) from (Int.ofNat_tmod a 1000000000).symm)
theorem divN {a : Nat} (h : a < 9223372036854775808) : V.int .i64 (wrap .i64 (Int.tdiv (Int.ofNat a) 1000000000)) = nI (a / 1000000000) :=
  wi64 (show Int.tdiv (a : Int) ((1000000000 : Nat) : Int) = ((a / 1000000000 : Nat) : Int) from (Int.ofNat_tdiv a 1000000000).symm)
    (by show (-9223372036854775808 : Int) ≤ ((a / 1000000000 : Nat) : Int); omega) (by show ((a / 1000000000 : Nat) : Int) ≤ 9223372036854775807; omega)
theorem leN {a b : Nat} : V.bool (leI (Int.ofNat a) (Int.ofNat b)) = .bool (decide (a ≤ b)) := by
  rw [leI_eq]
  by_cases h : a ≤ b
  · rw [decide_eq_true h, decide_eq_true (by show (a : Int) ≤ b; omega)]
  · rw [decide_eq_false h, decide_eq_false (by show ¬ ((a : Int) ≤ b); omega)]
theorem pos0 {c : Nat} (h : 0 < c) : V.bool (!leI (Int.ofNat c) 0) = .bool true := (nle_of (a := c) (b := 0)).trans (by rw [decide_eq_true h])
theorem nleT {a b : Nat} (h : b < a) : V.bool (!leI (Int.ofNat a) (Int.ofNat b)) = .bool true := nle_of.trans (by rw [decide_eq_true h])
theorem nleF {a b : Nat} (h : a ≤ b) : V.bool (!leI (Int.ofNat a) (Int.ofNat b)) = .bool false := nle_of.trans (by rw [decide_eq_false (by omega)])
theorem leT' {a b : Nat} (h : a ≤ b) : V.bool (leI (Int.ofNat a) (Int.ofNat b)) = .bool true := leN.trans (by rw [decide_eq_true h])
theorem leF' {a b : Nat} (h : b < a) : V.bool (leI (Int.ofNat a) (Int.ofNat b)) = .bool false := leN.trans (by rw [decide_eq_false (by omega)])
theorem xy_lt {x y : Nat} (hx : x < BB) (hy : y < BB) : x * y ≤ 999999998000000001 := by
  have hx' : x < 1000000000 := hx
  have hy' : y < 1000000000 := hy
  have : x * y ≤ 999999999 * 999999999 := Nat.mul_le_mul (by omega) (by omega)
  omega
def addT (L : List Nat) (y f c i : Nat) (u4 u5 u6 u7 u10 : V) (tl : Nat → V) : List V := app [.ptr 0 0, LSV L, nI y, nI f, u4, u5, u6, u7, nI c, nI i, u10] (restT tl 57 11)
theorem getD_lt {L : List Nat} (h : Prp L) (i : Nat) : (L[i]?).getD 0 < BB := by
  cases hx : L[i]? with
  | none => decide
  | some x => exact h x (List.mem_of_getElem? hx)
theorem val_step {A Dv z v w q P xy c : Nat} (h1 : A + z * P = Dv + v * P) (hw : w = z + xy + c) (h2 : w = BB * q + v) : A + q * (P * BB) = Dv + (xy + c) * P := by
  have e : (z + (xy + c)) * P = (BB * q + v) * P := by rw [← h2, hw, Nat.add_assoc]
  rw [Nat.add_mul z, Nat.add_mul (BB * q)] at e
  have e2 : BB * q * P = q * (P * BB) := by rw [Nat.mul_comm BB q, Nat.mul_assoc, Nat.mul_comm BB P]
  rw [e2] at e
  omega
structure Rnd (s s' : S) (D D' : List Nat) (L : List Nat) (y f c i c' : Nat) : Prop where
  pi : PI s' D'
  prp : Prp D'
  lt : c' < BB
  len1 : f + i + 1 ≤ D'.length
  grow : f + i < D.length → D'.length = D.length
  grow' : f + i = D.length → D'.length = D.length + 1
  last : L.length ≤ i → f + i = D.length → c' = 0
  eq : val D' + c' * BB ^ (f + i + 1) = val D + ((L[i]?).getD 0 * y + c) * BB ^ (f + i)
theorem blt0 (b : Nat) : Nat.blt b 0 = false := by cases h : Nat.blt b 0 with | false => rfl | true => rw [Nat.blt_eq] at h; omega
theorem con_at {L : List Nat} {i n0 : Nat} (hn : 22 ≤ n0) : ∀ n', n0 ≤ n' → ∀ cc ∈ [((486, [LSV L, nI i], none, nI ((L[i]?).getD 0)) : Con)], ∀ ss, okS cc.2.2.1 ss → (recN EL n').call cc.1 cc.2.1 ss = .ret cc.2.2.2 ss false :=
  fun n' h => fa_cons (fun ss _ => at_call L i n' (by omega) ss) fa_nil
theorem get_new_ne {s : S} {x : B} {j : Nat} (h : j ≠ s.next) : (s.new x).heap.get j = s.heap.get j := by rw [get_new, if_neg h]
theorem get_new_eq (s : S) (x : B) : (s.new x).heap.get s.next = some x := by rw [get_new, if_pos rfl]
theorem get_drop_ne {s : S} {b j : Nat} (h : j ≠ b) : (s.drop b).heap.get j = s.heap.get j := by rw [get_drop, if_neg h]
theorem app_mem {s1 : S} {D : List Nat} {w : V} {b2 t v : Nat} (hlo : s1.lo = 0) (h0 : s1.heap.get 0 = some (.cells true 429 [w])) (hb : s1.heap.get b2 = some (.cells true t (cellsL (D ++ [0])))) (hb0 : 0 < b2) (hbn : b2 < s1.next) :
    ∃ s2 s3, pStore 250 (.ptr 0 0) [.sl b2 0 (D.length + 1) 1 none] s1 s2 ∧ pLoad 250 (.ptr 0 0) (.sl b2 0 (D.length + 1) 1 none) s2 ∧ pIdx 250 (.sl b2 0 (D.length + 1) 1 none) D.length (.ptr b2 (0 + D.length * 1)) s2 ∧
      pLoad 3 (.ptr b2 (0 + D.length * 1)) (.int .i64 0) s2 ∧ pStore 3 (.ptr b2 (0 + D.length * 1)) [.int .i64 (Int.ofNat v)] s2 s3 ∧ PI s3 ((D ++ [0]).set D.length v) := by
  have e2 : (s1.put 0 (.cells true 429 [.sl b2 0 (D.length + 1) 1 none])).heap.get b2 = some (.cells true t (cellsL (D ++ [0]))) := by rw [get_put, if_neg (by omega)]; exact hb
  have hz : (D ++ [0])[D.length]? = some 0 := by simp
  refine ⟨s1.put 0 (.cells true 429 [.sl b2 0 (D.length + 1) 1 none]), (s1.put 0 (.cells true 429 [.sl b2 0 (D.length + 1) 1 none])).put b2 (.cells true t (cellsL ((D ++ [0]).set D.length v))),
    pStore_one hlo h0 rfl, pLoad_one (by rw [get_put, if_pos rfl]), pIdx_sl (Nat.lt_succ_self _), pLoad_mem e2 hz, pStore_mem (s := s1.put 0 (.cells true 429 [.sl b2 0 (D.length + 1) 1 none])) hlo e2 (by rw [List.length_append]; exact Nat.lt_succ_self _), hlo, Nat.lt_trans hb0 hbn, .inr ⟨b2, t, hb0, hbn, ?_, ?_⟩⟩
  · rw [get_put, if_neg (by omega), get_put, if_pos rfl, List.length_set, List.length_append]; rfl
  · rw [get_put, if_pos rfl]
theorem app_rnd {s s3 : S} {L D : List Nat} {y f c i x v : Nat} (hpi : PI s3 ((D ++ [0]).set D.length v)) (hD : Prp D) (hc : c < BB) (hy : y < BB) (hx : x < BB) (hxe : (L[i]?).getD 0 = x) (hk : f + i = D.length) (hv : v = (x * y + c) % BB) :
    Rnd s s3 D ((D ++ [0]).set D.length v) L y f c i ((x * y + c) / BB) := by
  have hxy := xy_lt hx hy
  have hc' : c < 1000000000 := hc
  have hvl : v < BB := by rw [hv]; exact Nat.mod_lt _ (by decide)
  have hl : ((D ++ [0]).set D.length v).length = D.length + 1 := by rw [List.length_set, List.length_append]; rfl
  refine ⟨hpi, (hD.app (fun d hd => by rw [List.mem_singleton.1 hd]; decide)).set hvl, Nat.div_lt_of_lt_mul (by show x * y + c < 1000000000 * 1000000000; omega), by rw [hl]; omega, fun h => absurd h (by omega), fun _ => hl, fun h _ => ?_, ?_⟩
  · have : x = 0 := by rw [← hxe, List.getElem?_eq_none h]; rfl
    rw [this, Nat.zero_mul, Nat.zero_add, Nat.div_eq_of_lt hc]
  · rw [Nat.pow_succ, hxe, hk]
    have h1 : val (D ++ [0]) = val D := by rw [val_app]; simp [val]
    have h2 := val_set (l := D ++ [0]) (k := D.length) (z := 0) (v := v) (by simp)
    rw [h1] at h2
    exact val_step (w := x * y + c) h2 (by omega) (by rw [hv]; exact (Nat.div_add_mod _ _).symm)
theorem cells_app (D : List Nat) : cellsL (D ++ [0]) = cellsL D ++ [.int .i64 0] := by rw [cellsL_eq, cellsL_eq, List.map_append]; rfl
theorem add_round {L D : List Nat} {y f c i : Nat} {u4 u5 u6 u7 u10 : V} {tl : Nat → V} {m : M} {s : S} {n0 : Nat} (hn : 22 ≤ n0) (hp : PI s D) (hL : Prp L) (hD : Prp D) (hy : y < BB) (hc : c < BB) (hk : f + i ≤ D.length) (hb : D.length < 100000) (hi' : i < 100000)
    (hz : D = [] → c = 0) (hg : i < L.length ∨ 0 < c) :
    ∃ s' D' c' w6 w7 w10 w4 w5 tl', exec adLNK EL (recN EL (n0 + 1 + 20)) (addT L y f c i u4 u5 u6 u7 u10 tl) m s = .norm (addT L y f c' (i + 1) w4 w5 w6 w7 w10 tl') m s' ∧ Rnd s s' D D' L y f c i c' := by
  obtain ⟨hlo, hnx, hpi⟩ := hp
  have hx := getD_lt hL i
  generalize hxe : (L[i]?).getD 0 = x at hx
  have hxy := xy_lt hx hy
  have hcon := con_at (L := L) (i := i) hn
  have hc' : c < 1000000000 := hc
  rw [hxe] at hcon
  rcases Nat.lt_or_ge (f + i) D.length with hroom | hroom
  · -- there is room
    rcases hpi with ⟨hnil, _⟩ | ⟨b, t, hb0, hbn, h0, hbb⟩
    · subst hnil; exact absurd hroom (Nat.not_lt_zero _)
    obtain ⟨z, hz'⟩ : ∃ z, D[f + i]? = some z := ⟨D[f + i], List.getElem?_eq_getElem hroom⟩
    have hzl : z < BB := hD z (List.mem_of_getElem? hz')
    have hzl' : z < 1000000000 := hzl
    have hw : z + x * y + c < 9223372036854775808 := by omega
    refine ⟨s.put b (.cells true t (cellsL (D.set (f + i) ((z + x * y + c) % BB)))), D.set (f + i) ((z + x * y + c) % BB), (z + x * y + c) / BB, u6, u7, nI (z + x * y + c), u4, u5, ?_⟩
    have hpre : ∀ q ∈ [EQ.eq (.int .i64 (wrap .i64 (((Int.ofNat f)) + ((Int.ofNat i))))) (.int .i64 (Int.ofNat (f + i))), .eq (.bool (leI (Int.ofNat D.length) (Int.ofNat (f + i)))) (.bool false), .eq (.int .i64 (wrap .i64 (((Int.ofNat x)) * ((Int.ofNat y))))) (.int .i64 (Int.ofNat (x * y))), .eq (.int .i64 (wrap .i64 (((Int.ofNat z)) + ((Int.ofNat (x * y)))))) (.int .i64 (Int.ofNat (z + (x * y)))), .eq (.int .i64 (wrap .i64 (((Int.ofNat (z + (x * y)))) + ((Int.ofNat c))))) (.int .i64 (Int.ofNat ((z + (x * y)) + c))), .eq (.int .i64 (Int.tmod ((Int.ofNat ((z + (x * y)) + c))) (1000000000))) (.int .i64 (Int.ofNat (((z + (x * y)) + c) % 1000000000))), .eq (.int .i64 (wrap .i64 (Int.tdiv ((Int.ofNat ((z + (x * y)) + c))) (1000000000)))) (.int .i64 (Int.ofNat (((z + (x * y)) + c) / 1000000000))), .eq (.int .i64 (wrap .i64 (((Int.ofNat i)) + (1)))) (.int .i64 (Int.ofNat (i + 1))), .pr (pLoad 250 (.ptr 0 0) (.sl b 0 D.length 1 none) s), .pr (pIdx 250 (.sl b 0 D.length 1 none) (f + i) (.ptr b (0 + (f + i) * 1)) s), .pr (pLoad 3 (.ptr b (0 + (f + i) * 1)) (intI z) s), .pr (pStore 3 (.ptr b (0 + (f + i) * 1)) [.int .i64 (Int.ofNat (((z + (x * y)) + c) % 1000000000))] s (s.put b (.cells true t (cellsL (D.set (f + i) ((z + x * y + c) % BB))))))], q.Holds :=
      fa_cons (addN (by omega)) <| fa_cons (leF' hroom) <| fa_cons (mulN (by omega)) <| fa_cons (addN (by omega)) <| fa_cons (addN (by omega)) <| fa_cons modN <| fa_cons (divN (by omega)) <| fa_cons (add1N (by omega)) <|
        fa_cons (pLoad_one h0) <| fa_cons (pIdx_sl hroom) <| fa_cons (pLoad_mem hbb hz') <| fa_cons (pStore_mem hlo hbb hroom) fa_nil
    have fin : ∀ T', len T' = 68 → takeB 11 T' = [.ptr 0 0, LSV L, nI y, nI f, u4, u5, u6, u7, nI ((z + x * y + c) / BB), nI (i + 1), nI (z + x * y + c)] →
        exec adLNK EL (recN EL (n0 + 1 + 20)) (addT L y f c i u4 u5 u6 u7 u10 tl) m s = .norm T' m (s.put b (.cells true t (cellsL (D.set (f + i) ((z + x * y + c) % BB))))) →
        ∃ tl', exec adLNK EL (recN EL (n0 + 1 + 20)) (addT L y f c i u4 u5 u6 u7 u10 tl) m s = .norm (addT L y f ((z + x * y + c) / BB) (i + 1) u4 u5 u6 u7 (nI (z + x * y + c)) tl') m (s.put b (.cells true t (cellsL (D.set (f + i) ((z + x * y + c) % BB))))) ∧ Rnd s (s.put b (.cells true t (cellsL (D.set (f + i) ((z + x * y + c) % BB))))) D (D.set (f + i) ((z + x * y + c) % BB)) L y f c i ((z + x * y + c) / BB) := by
      intro T' hl ht he
      obtain ⟨tl', hT⟩ := T_form 11 T' _ 57 hl ht
      refine ⟨tl', he.trans (by rw [hT]; rfl), ⟨⟨hlo, hnx, .inr ⟨b, t, hb0, hbn, ?_, ?_⟩⟩, hD.set (Nat.mod_lt _ (by decide)), ?_, ?_, fun _ => List.length_set, fun h => absurd h (by omega), fun _ h => absurd h (by omega), ?_⟩⟩
      · rw [get_put, if_neg (by omega), h0, List.length_set]
      · rw [get_put, if_pos rfl]
      · exact Nat.div_lt_of_lt_mul (by show z + x * y + c < 1000000000 * 1000000000; omega)
      · rw [List.length_set]; omega
      · rw [Nat.pow_succ, hxe]
        exact val_step (val_set hz') rfl (Nat.div_add_mod _ _).symm
    by_cases hil : i < L.length
    · obtain ⟨T', hl, ht, he⟩ := adLN L y f c i x z b 0 D.length u4 u5 u6 u7 u10 s _ s s tl m (fa_cons (nleT (by rw [len_eq]; exact hil)) hpre) (n0 := n0) hcon
      exact fin T' hl ht he
    · obtain ⟨T', hl, ht, he⟩ := adCN L y f c i x z b 0 D.length u4 u5 u6 u7 u10 s _ s s tl m (fa_cons (nleF (by rw [len_eq]; omega)) <| fa_cons (pos0 (by omega)) hpre) (n0 := n0) hcon
      exact fin T' hl ht he
  · -- a part is added
    have hk' : f + i = D.length := by omega
    have hnb : (s.new (.cells true 0 [.int .i64 0])).heap.get s.next = some (.cells true 0 [.int .i64 0]) := by rw [get_new, if_pos rfl]
    have hW : x * y + c < 9223372036854775808 := by omega
    rcases hpi with ⟨hnil, h0⟩ | ⟨b, t, hb0, hbn, h0, hbb⟩
    · subst hnil
      have hf : f = 0 := by have : f + i = 0 := hk'; omega
      have hi : i = 0 := by have : f + i = 0 := hk'; omega
      have hc0 := hz rfl
      subst hf; subst hi; subst hc0
      have hpos : 0 < L.length := by omega
      obtain ⟨s2, s3, q1, q2, q3, q4, q5, q6⟩ := app_mem (s1 := (s.new (.cells true 0 [.int .i64 0])).new (.cells true 4 [.int .i64 0])) (D := []) (w := .nils) (b2 := s.next + 1) (t := 4) (v := (x * y) % BB) hlo
        ((get_new_ne (s := s.new (.cells true 0 [.int .i64 0])) (show (0 : Nat) ≠ s.next + 1 by omega)).trans ((get_new_ne (show 0 ≠ s.next by omega)).trans h0)) (get_new_eq (s.new (.cells true 0 [.int .i64 0])) _) (by omega) (show s.next + 1 < s.next + 1 + 1 by omega)
      obtain ⟨T', hl, ht, he⟩ := adLZ L y 0 0 0 x 0 0 (s.next + 1) 0 u4 u5 u6 u7 u10 s _ s2 s3 tl m (fa_cons (nleT (b := 0) (by rw [len_eq]; exact hpos)) <| fa_cons (mulN (by omega)) <| fa_cons (add0N (by omega)) <| fa_cons (addZ (by omega)) <| fa_cons modN <| fa_cons (divN (by omega)) <|
        fa_cons (pLoad_one h0) <| fa_cons (app_nils hnb) <| fa_cons q1 <| fa_cons q2 <| fa_cons q3 <| fa_cons q4 <| fa_cons q5 fa_nil) (n0 := n0) hcon
      obtain ⟨tl', hT⟩ := T_form 11 T' _ 57 hl ht
      exact ⟨s3, _, (x * y) / BB, u6, u7, nI (x * y), u4, u5, tl', he.trans (by rw [hT]; rfl), app_rnd (c := 0) q6 hD hc hy hx hxe hk' rfl⟩
    · have hbA : (s.new (.cells true 0 [.int .i64 0])).heap.get b = some (.cells true t (cellsL D)) := by rw [get_new, if_neg (by omega)]; exact hbb
      obtain ⟨t', hap⟩ := app_sl (s := s.new (.cells true 0 [.int .i64 0])) (n := D.length) (nb := s.next) hlo (by omega) hbA (by rw [cellsL_eq, List.length_map]) hnb
      rw [← cells_app] at hap
      obtain ⟨s2, s3, q1, q2, q3, q4, q5, q6⟩ := app_mem (s1 := ((s.new (.cells true 0 [.int .i64 0])).drop b).new (.cells true t' (cellsL (D ++ [0])))) (D := D) (w := .sl b 0 D.length 1 none) (b2 := s.next + 1) (t := t') (v := (x * y + c) % BB) hlo
        ((get_new_ne (s := (s.new (.cells true 0 [.int .i64 0])).drop b) (show (0 : Nat) ≠ s.next + 1 by omega)).trans ((get_drop_ne (show 0 ≠ b by omega)).trans ((get_new_ne (show 0 ≠ s.next by omega)).trans h0))) (get_new_eq ((s.new (.cells true 0 [.int .i64 0])).drop b) _) (by omega) (show s.next + 1 < s.next + 1 + 1 by omega)
      have hpre : ∀ q ∈ [EQ.eq (.int .i64 (wrap .i64 (((Int.ofNat f)) + ((Int.ofNat i))))) (.int .i64 (Int.ofNat D.length)), .eq (.bool (leI (Int.ofNat D.length) (Int.ofNat D.length))) (.bool true), .eq (.bool (leI (Int.ofNat (D.length + 1)) (Int.ofNat D.length))) (.bool false), .eq (.int .i64 (wrap .i64 (((Int.ofNat x)) * ((Int.ofNat y))))) (.int .i64 (Int.ofNat (x * y))), .eq (.int .i64 (wrap .i64 ((0) + ((Int.ofNat (x * y)))))) (.int .i64 (Int.ofNat (x * y))), .eq (.int .i64 (wrap .i64 (((Int.ofNat (x * y))) + ((Int.ofNat c))))) (.int .i64 (Int.ofNat ((x * y) + c))), .eq (.int .i64 (Int.tmod ((Int.ofNat ((x * y) + c))) (1000000000))) (.int .i64 (Int.ofNat (((x * y) + c) % 1000000000))), .eq (.int .i64 (wrap .i64 (Int.tdiv ((Int.ofNat ((x * y) + c))) (1000000000)))) (.int .i64 (Int.ofNat (((x * y) + c) / 1000000000))), .eq (.int .i64 (wrap .i64 (((Int.ofNat i)) + (1)))) (.int .i64 (Int.ofNat (i + 1))), .pr (pLoad 250 (.ptr 0 0) (.sl b 0 D.length 1 none) s), .pr (pApp 250 250 (.sl b 0 D.length 1 none) (.sl s.next 0 1 1 (some 1)) (.sl (s.next + 1) 0 (D.length + 1) 1 none) (s.new (.cells true 0 [.int .i64 0])) (((s.new (.cells true 0 [.int .i64 0])).drop b).new (.cells true t' (cellsL (D ++ [0]))))), .pr (pStore 250 (.ptr 0 0) [(.sl (s.next + 1) 0 (D.length + 1) 1 none)] (((s.new (.cells true 0 [.int .i64 0])).drop b).new (.cells true t' (cellsL (D ++ [0])))) s2), .pr (pLoad 250 (.ptr 0 0) (.sl (s.next + 1) 0 (D.length + 1) 1 none) s2), .pr (pIdx 250 (.sl (s.next + 1) 0 (D.length + 1) 1 none) (D.length) (.ptr (s.next + 1) (0 + (D.length) * 1)) s2), .pr (pLoad 3 (.ptr (s.next + 1) (0 + (D.length) * 1)) (.int .i64 0) s2), .pr (pStore 3 (.ptr (s.next + 1) (0 + (D.length) * 1)) [.int .i64 (Int.ofNat (((x * y) + c) % 1000000000))] s2 s3)], q.Holds :=
        fa_cons ((addN (by omega)).trans (by rw [hk'])) <| fa_cons (leT' (Nat.le_refl _)) <| fa_cons (leF' (Nat.lt_succ_self _)) <| fa_cons (mulN (by omega)) <| fa_cons (add0N (by omega)) <| fa_cons (addN (by omega)) <| fa_cons modN <| fa_cons (divN (by omega)) <| fa_cons (add1N (by omega)) <|
          fa_cons (pLoad_one h0) <| fa_cons hap <| fa_cons q1 <| fa_cons q2 <| fa_cons q3 <| fa_cons q4 <| fa_cons q5 fa_nil
      by_cases hil : i < L.length
      · obtain ⟨T', hl, ht, he⟩ := adLS L y f c i x 0 b (s.next + 1) D.length u4 u5 u6 u7 u10 s _ s2 s3 tl m (fa_cons (nleT (by rw [len_eq]; exact hil)) hpre) (n0 := n0) hcon
        obtain ⟨tl', hT⟩ := T_form 11 T' _ 57 hl ht
        exact ⟨s3, _, (x * y + c) / BB, u6, u7, nI (x * y + c), u4, u5, tl', he.trans (by rw [hT]; rfl), app_rnd q6 hD hc hy hx hxe hk' rfl⟩
      · obtain ⟨T', hl, ht, he⟩ := adCS L y f c i x 0 b (s.next + 1) D.length u4 u5 u6 u7 u10 s _ s2 s3 tl m (fa_cons (nleF (by rw [len_eq]; omega)) <| fa_cons (pos0 (by omega)) hpre) (n0 := n0) hcon
        obtain ⟨tl', hT⟩ := T_form 11 T' _ 57 hl ht
        exact ⟨s3, _, (x * y + c) / BB, u6, u7, nI (x * y + c), u4, u5, tl', he.trans (by rw [hT]; rfl), app_rnd q6 hD hc hy hx hxe hk' rfl⟩
end
end Go.AM.E15
end
section
set_option maxRecDepth 100000
namespace Go.AM.E15
open Go Go.Proofs
noncomputable section
theorem drop_val (L : List Nat) (i : Nat) : val (L.drop i) = (L[i]?).getD 0 + BB * val (L.drop (i + 1)) := by
  cases h : L[i]? with
  | some x => exact val_drop h
  | none =>
    have hi : L.length ≤ i := by
      rcases Nat.lt_or_ge i L.length with h1 | h1
      · rw [List.getElem?_eq_getElem h1] at h; cases h
      · exact h1
    rw [List.drop_of_length_le hi, List.drop_of_length_le (by omega)]; rfl
theorem loop_eq (c : Code) (N : Nat) (T : List V) (m : M) (s : S) : exec (.loop c) EL (recN EL (N + 1)) T m s = thenK (exec c EL (recN EL (N + 1)) T m s) (exec (.loop c) EL (recN EL N)) := rfl
theorem thenK_norm (T : List V) (m : M) (s : S) (k : List V → M → S → R) : thenK (.norm T m s) k = k T m s := rfl
theorem thenK_exit (i : Nat) (T : List V) (m : M) (s : S) (k : List V → M → S → R) : thenK (.exit i T m s) k = .exit i T m s := rfl
theorem step_mul (b x v y P : Nat) : (x + b * v) * y * P = x * y * P + v * y * (P * b) := by
  rw [Nat.add_mul, Nat.add_mul]
  have : b * v * y * P = v * y * (P * b) := by
    rw [Nat.mul_comm b v, Nat.mul_assoc v b y, Nat.mul_comm b y, ← Nat.mul_assoc v y b, Nat.mul_assoc (v * y) b P, Nat.mul_comm b P]
  rw [this]
theorem fin_eq {A B C E F G H : Nat} (e : A + B = C + (E + F)) (h : G = A + B + H) : G = C + F + (E + H) := by omega
theorem add_loop {L : List Nat} {y f : Nat} {m : M} (hL : Prp L) (hy : y < BB) : ∀ (μ : Nat) (D : List Nat) (i c : Nat) (u4 u5 u6 u7 u10 : V) (tl : Nat → V) (s : S) (N : Nat),
    2 * (L.length - i) + (D.length - (f + i)) + (if c = 0 then 0 else 1) ≤ μ → 44 + μ ≤ N → PI s D → Prp D → c < BB → f + i ≤ D.length → D.length + μ < 100000 → i + μ < 100000 → (D = [] → c = 0) →
    ∃ s' D' T', exec (.loop adLNK) EL (recN EL N) (addT L y f c i u4 u5 u6 u7 u10 tl) m s = .exit 0 T' m s' ∧ PI s' D' ∧ Prp D' ∧ f + L.length ≤ D'.length ∧ D'.length ≤ max D.length (f + L.length) + (if c = 0 ∧ L.length ≤ i then 0 else 1) ∧ val D' = val D + c * BB ^ (f + i) + val (L.drop i) * y * BB ^ (f + i) := by
  intro μ
  induction μ with
  | zero =>
    intro D i c u4 u5 u6 u7 u10 tl s N hμ hN hp hD hc hk hb hi hz
    obtain ⟨n0, rfl⟩ : ∃ n0, N = n0 + 1 + 20 := ⟨N - 21, by omega⟩
    have hc0 : c = 0 := by
      by_cases h : c = 0
      · exact h
      · rw [if_neg h] at hμ; omega
    subst hc0
    have hi : L.length ≤ i := by omega
    obtain ⟨T', hl, ht, he⟩ := adX L y f 0 i 0 0 0 0 0 u4 u5 u6 u7 u10 s s s s tl m (fa_cons (nleF (by rw [len_eq]; omega)) fa_nil) (n0 := n0) (fun _ _ cc hcc => by cases hcc)
    refine ⟨s, D, T', ?_, hp, hD, by omega, by omega, ?_⟩
    · have eN : n0 + 1 + 20 = n0 + 20 + 1 := by omega
      change exec adLNK EL (recN EL (n0 + 1 + 20)) (addT L y f 0 i u4 u5 u6 u7 u10 tl) m s = _ at he
      rw [eN] at he ⊢
      rw [loop_eq, he, thenK_exit]
    · rw [List.drop_of_length_le hi]; simp [val]
  | succ μ ih =>
    intro D i c u4 u5 u6 u7 u10 tl s N hμ hN hp hD hc hk hb hi hz
    obtain ⟨n0, rfl⟩ : ∃ n0, N = n0 + 1 + 20 := ⟨N - 21, by omega⟩
    have g1 : 22 ≤ n0 := by omega
    have g2 : 44 + μ ≤ n0 + 20 := by omega
    have g3 : D.length < 100000 := by omega
    have g4 : i < 100000 := by omega
    have g5 : i + 1 + μ < 100000 := by omega
    by_cases hg : i < L.length ∨ 0 < c
    · obtain ⟨s1, D1, c1, w6, w7, w10, w4, w5, tl', he, hr⟩ := add_round (u4 := u4) (u5 := u5) (u6 := u6) (u7 := u7) (u10 := u10) (tl := tl) (m := m) (n0 := n0) g1 hp hL hD hy hc hk g3 g4 hz hg
      have hlen : D1.length ≤ D.length + 1 := by
        rcases Nat.lt_or_ge (f + i) D.length with h | h
        · have := hr.grow h; omega
        · have := hr.grow' (by omega); omega
      have hne : D1 ≠ [] := fun h => by have := hr.len1; rw [h] at this; exact absurd this (Nat.not_succ_le_zero _)
      have hm : 2 * (L.length - (i + 1)) + (D1.length - (f + (i + 1))) + (if c1 = 0 then 0 else 1) ≤ μ := by
        have h1 : (if c1 = 0 then 0 else 1) ≤ 1 := by split <;> omega
        rcases Nat.lt_or_ge (f + i) D.length with h | h
        · have h2 := hr.grow h
          rcases hg with hg | hg
          · have h3 : 0 ≤ (if c = 0 then 0 else 1) := Nat.zero_le _
            omega
          · rw [if_neg (by omega)] at hμ; omega
        · have h2 := hr.grow' (by omega)
          rcases Nat.lt_or_ge i L.length with h3 | h3
          · omega
          · have h4 := hr.last h3 (by omega)
            rw [if_pos h4]
            have : 0 < c := by omega
            rw [if_neg (by omega)] at hμ; omega
      have g6 : D1.length + μ < 100000 := by clear hm; omega
      obtain ⟨s2, D2, T', he2, hp2, hD2, h1, h2, h3⟩ := ih D1 (i + 1) c1 w4 w5 w6 w7 w10 tl' s1 (n0 + 20) hm g2 hr.pi hr.prp hr.lt hr.len1 g6 g5 (fun h => absurd h hne)
      have hb2 : D2.length ≤ max D.length (f + L.length) + (if c = 0 ∧ L.length ≤ i then 0 else 1) := by
        clear hm
        rw [if_neg (show ¬ (c = 0 ∧ L.length ≤ i) by omega)]
        rcases Nat.lt_or_ge (f + i) D.length with h | h
        · have h4 := hr.grow h
          have h5 : (if c1 = 0 ∧ L.length ≤ i + 1 then 0 else 1) ≤ 1 := by split <;> omega
          omega
        · have h4 := hr.grow' (by omega)
          rcases Nat.lt_or_ge i L.length with h3' | h3'
          · have h5 : (if c1 = 0 ∧ L.length ≤ i + 1 then 0 else 1) ≤ 1 := by split <;> omega
            omega
          · have h5 := hr.last h3' (by omega)
            rw [if_pos ⟨h5, by omega⟩] at h2
            omega
      refine ⟨s2, D2, T', ?_, hp2, hD2, h1, hb2, ?_⟩
      · have eN : n0 + 1 + 20 = n0 + 20 + 1 := by clear hm; omega
        rw [eN] at he ⊢
        rw [loop_eq, he, thenK_norm]; exact he2
      · have e := hr.eq
        rw [drop_val L i, step_mul, ← Nat.pow_succ]
        rw [Nat.add_mul] at e
        exact fin_eq e h3
    · have hc0 : c = 0 := by omega
      subst hc0
      have hi' : L.length ≤ i := by omega
      obtain ⟨T', hl, ht, he⟩ := adX L y f 0 i 0 0 0 0 0 u4 u5 u6 u7 u10 s s s s tl m (fa_cons (nleF (by rw [len_eq]; omega)) fa_nil) (n0 := n0) (fun _ _ cc hcc => by cases hcc)
      refine ⟨s, D, T', ?_, hp, hD, by omega, by omega, ?_⟩
      · have eN : n0 + 1 + 20 = n0 + 20 + 1 := by omega
        change exec adLNK EL (recN EL (n0 + 1 + 20)) (addT L y f 0 i u4 u5 u6 u7 u10 tl) m s = _ at he
        rw [eN] at he ⊢
        rw [loop_eq, he, thenK_exit]
      · rw [List.drop_of_length_le hi']; simp [val]
theorem f405_at : EL.fn 405 = some Tryz.f405 := by kernel_rfl
theorem f405_body : Tryz.f405.body = some (bodyOf Tryz.f405) := by kernel_rfl
theorem f405_pre (L : List Nat) (y f : Nat) (rc : Rec) (s : S) : exec (bodyOf Tryz.f405) EL rc (frame0 Tryz.f405 [.ptr 0 0, LSV L, nI y, nI f]) (bodyM false none) s = blockK 0 (exec (.loop adLNK) EL rc (addT L y f 0 0 undef undef undef undef undef (fun _ => undef)) (bodyM false none) s) := by kernel_rfl
theorem m405 : EL.mode 405 = .N := by kernel_rfl
theorem o405 : EL.ov 405 = none := by kernel_rfl
theorem f405_res : Tryz.f405.results.toList = [] := by kernel_rfl
theorem add_call {L D : List Nat} {y f N : Nat} {s : S} (hL : Prp L) (hy : y < BB) (hp : PI s D) (hD : Prp D) (hk : f ≤ D.length) (h1 : L.length ≤ 100) (h2 : D.length ≤ 1000) (hN : 3000 ≤ N) :
    ∃ s' D', (recN EL N).call 405 [.ptr 0 0, LSV L, nI y, nI f] s = .ret (.tup []) s' false ∧ PI s' D' ∧ Prp D' ∧ f + L.length ≤ D'.length ∧ D'.length ≤ max D.length (f + L.length) + 1 ∧ val D' = val D + val L * y * BB ^ f := by
  obtain ⟨n, rfl⟩ : ∃ n, N = n + 1 := ⟨N - 1, by omega⟩
  obtain ⟨s', D', T', he, a1, a2, a3, a4, a5⟩ := add_loop (f := f) (m := bodyM false none) hL hy 1300 D 0 0 undef undef undef undef undef (fun _ => undef) s n (by rw [if_pos rfl]; omega) (by omega) hp hD (by decide) (by omega) (by omega) (by omega) (fun _ => rfl)
  refine ⟨s', D', ?_, a1, a2, a3, Nat.le_trans a4 (by split <;> omega), by rw [a5]; simp⟩
  show doCall EL (recN EL n) 405 _ s = _
  unfold doCall
  rw [o405]
  show callM EL (recN EL n) 405 _ s (EL.mode 405) = _
  rw [m405]
  show doBody EL (recN EL n) 405 _ false none s = _
  unfold doBody
  rw [f405_at]
  show (optC Tryz.f405.body .fail fun c => bodyEnd EL (recN EL n) Tryz.f405 (exec c EL (recN EL n) (frame0 Tryz.f405 [.ptr 0 0, LSV L, nI y, nI f]) (bodyM false none) s)) = _
  rw [f405_body]
  show bodyEnd EL (recN EL n) Tryz.f405 (exec (bodyOf Tryz.f405) EL (recN EL n) (frame0 Tryz.f405 [.ptr 0 0, LSV L, nI y, nI f]) (bodyM false none) s) = _
  rw [f405_pre, he]
  show optC (resultsL EL T' s' Tryz.f405.results.toList) CR.fail (fun l => CR.ret (tupled l) s' false) = _
  rw [f405_res]; rfl
end
end Go.AM.E15
end
section
set_option maxRecDepth 100000
namespace Go.AM.E15
open Go Go.Proofs
noncomputable section
theorem subN {a : Nat} (h0 : 0 < a) (h : a < 9223372036854775808) : V.int .i64 (wrap .i64 ((Int.ofNat a) - 1)) = nI (a - 1) :=
  wi64 (show ((a : Int) - 1) = ((a - 1 : Nat) : Int) by omega) (by show (-9223372036854775808 : Int) ≤ ((a - 1 : Nat) : Int); omega) (by show ((a - 1 : Nat) : Int) ≤ 9223372036854775807; omega)
theorem eq0F {x : Nat} (h : x ≠ 0) : V.bool (eqI (Int.ofNat x) 0) = .bool false := beqF (by show ¬ ((x : Int) = 0); omega)
theorem pSlice_lit {L : List Nat} {x : Nat} {s : S} : pSlice 250 (LSV (L ++ [x])) (len (L ++ [x]) - 1) (LSV L) s := by
  unfold pSlice
  rw [ti250, bind_some']
  have e : ∀ E : Env, sliceK E s (.slice 3) (LSV (L ++ [x])) none (some (len (L ++ [x]) - 1)) none = bind (E.ti 3) fun te => slice te.size (LSV (L ++ [x])) none (some (len (L ++ [x]) - 1)) none := fun E => rfl
  show ret1 (sliceK EL s (.slice 3) (LSV (L ++ [x])) none (some (len (L ++ [x]) - 1)) none) s = _
  rw [e, ti3, bind_some']
  have hl : len (L ++ [x]) = L.length + 1 := by rw [len_eq, List.length_append]; rfl
  rw [hl]
  show ret1 (boolC (boolC (Nat.ble 0 (L.length + 1 - 1)) false (boolC (Nat.ble (L.length + 1 - 1) (len (L ++ [x]))) false (Nat.ble (len (L ++ [x])) (len (L ++ [x]))))) none
    (some (V.lsl (takeB ((L.length + 1 - 1 - 0) * 1) (dropN (0 * 1) (cellsL (L ++ [x])))) (L.length + 1 - 1 - 0) (boolC false false (Nat.beq (L.length + 1 - 1) (len (L ++ [x]))))))) s = _
  rw [hl]
  have h1 : Nat.ble 0 (L.length + 1 - 1) = true := by rw [Nat.ble_eq]; omega
  have h2 : Nat.ble (L.length + 1 - 1) (L.length + 1) = true := by rw [Nat.ble_eq]; omega
  have h3 : Nat.ble (L.length + 1) (L.length + 1) = true := by rw [Nat.ble_eq]; omega
  rw [h1, h2, h3]
  show some (V.lsl (takeB ((L.length + 1 - 1 - 0) * 1) (cellsL (L ++ [x]))) (L.length + 1 - 1 - 0) false, s) = _
  have e1 : L.length + 1 - 1 - 0 = L.length := by omega
  have e2 : List.take L.length (List.map intI (L ++ [x])) = cellsL L := by
    rw [cellsL_eq, List.map_append]
    exact List.take_left' (by rw [List.length_map])
  rw [e1, Nat.mul_one, takeB_eq, cellsL_eq, e2]
  show _ = some (V.lsl (cellsL L) (len L) false, s)
  rw [len_eq]
def trT (L : List Nat) (u1 u2 : V) (tl : Nat → V) : List V := app [LSV L, u1, u2] (restT tl 18 3)
theorem tr_loop {m : M} {s : S} : ∀ (k : Nat) (L : List Nat) (u1 u2 : V) (tl : Nat → V) (N : Nat), L.length = k → k < 100000 → k + 40 ≤ N → Prp L → 0 < val L →
    ∃ L' tl', exec (.loop trAK) EL (recN EL N) (trT L u1 u2 tl) m s = .exit 0 (trT L' u1 u2 tl') m s ∧ Can L' ∧ val L' = val L := by
  intro k
  induction k with
  | zero =>
    intro L u1 u2 tl N h _ _ _ hv
    rw [List.length_eq_zero_iff.1 h] at hv; exact absurd hv (Nat.lt_irrefl 0)
  | succ k ih =>
    intro L u1 u2 tl N h hk hN hp hv
    obtain ⟨n0, rfl⟩ : ∃ n0, N = n0 + 1 + 20 := ⟨N - 21, by omega⟩
    have eN : n0 + 1 + 20 = n0 + 20 + 1 := by omega
    obtain ⟨L0, x, rfl⟩ : ∃ L0 x, L = L0 ++ [x] := by
      rcases List.eq_nil_or_concat L with h1 | ⟨a, b, h1⟩
      · rw [h1] at h; cases h
      · exact ⟨a, b, by rw [h1, List.concat_eq_append]⟩
    have hlen : L0.length = k := by rw [List.length_append] at h; exact Nat.succ.inj h
    have hl : len (L0 ++ [x]) = L0.length + 1 := by rw [len_eq, List.length_append]; rfl
    have hx : (L0 ++ [x])[len (L0 ++ [x]) - 1]? = some x := by rw [hl]; simp
    by_cases hx0 : x = 0
    · subst hx0
      obtain ⟨T', a1, a2, he⟩ := trA (L0 ++ [0]) L0 0 u1 u2 s tl m (fa_cons (nleT (a := len (L0 ++ [0])) (b := 0) (by omega)) <| fa_cons (subN (by omega) (by omega)) <| fa_cons (pIdx_lit (by omega)) <| fa_cons (pLoad_lit hx) <| fa_cons pSlice_lit fa_nil) (n0 := n0) (fun _ _ cc hcc => by cases hcc)
      obtain ⟨tl', hT⟩ := T_form 3 T' _ 18 a1 a2
      have hv0 : val (L0 ++ [0]) = val L0 := by rw [val_app]; simp [val]
      obtain ⟨L', tl2, b1, b2, b3⟩ := ih L0 u1 u2 tl' (n0 + 20) hlen (by omega) (by omega) (fun d hd => hp d (List.mem_append_left _ hd)) (by rw [← hv0]; exact hv)
      refine ⟨L', tl2, ?_, b2, by rw [b3, hv0]⟩
      change exec trAK EL (recN EL (n0 + 1 + 20)) (trT (L0 ++ [0]) u1 u2 tl) m s = _ at he
      rw [eN] at he ⊢
      rw [loop_eq, he, thenK_norm, hT]; exact b1
    · obtain ⟨T', a1, a2, he⟩ := trB (L0 ++ [x]) [] x u1 u2 s tl m (fa_cons (nleT (a := len (L0 ++ [x])) (b := 0) (by omega)) <| fa_cons (subN (by omega) (by omega)) <| fa_cons (eq0F hx0) <| fa_cons (pIdx_lit (by omega)) <| fa_cons (pLoad_lit hx) fa_nil) (n0 := n0) (fun _ _ cc hcc => by cases hcc)
      obtain ⟨tl', hT⟩ := T_form 3 T' _ 18 a1 a2
      refine ⟨L0 ++ [x], tl', ?_, ⟨hp, by rw [List.getLast?_append]; simpa using hx0⟩, rfl⟩
      change exec trAK EL (recN EL (n0 + 1 + 20)) (trT (L0 ++ [x]) u1 u2 tl) m s = _ at he
      rw [eN] at he ⊢
      rw [loop_eq, he, thenK_exit, hT]; rfl
theorem f384_at : EL.fn 384 = some Tryz.f384 := by kernel_rfl
theorem f384_body : Tryz.f384.body = some (bodyOf Tryz.f384) := by kernel_rfl
theorem f384_res : Tryz.f384.results.toList = [.tmp 2] := by kernel_rfl
theorem f384_pre (L : List Nat) (rc : Rec) (m : M) (s : S) : exec (bodyOf Tryz.f384) EL rc (frame0 Tryz.f384 [LSV L]) m s = thenK (blockK 0 (exec (.loop trAK) EL rc (trT L undef .nils (fun _ => undef)) m s)) (exec trPK EL rc) := by kernel_rfl
theorem m384 : EL.mode 384 = .E := by kernel_rfl
theorem o384 : EL.ov 384 = none := by kernel_rfl
theorem tr_run {L : List Nat} {N : Nat} (hp : Prp L) (hv : 0 < val L) (hl : L.length ≤ 1000) (hN : 2000 ≤ N) : runE EL N 384 [LSV L] = some (digN (val L)) := by
  obtain ⟨n0, rfl⟩ : ∃ n0, N = n0 + 1 + 20 := ⟨N - 21, by omega⟩
  obtain ⟨L', tl', b1, b2, b3⟩ := tr_loop (m := bodyM false none) (s := s0) L.length L undef .nils (fun _ => undef) (n0 + 1 + 20) rfl (by omega) (by omega) hp hv
  obtain ⟨T', a1, a2, he⟩ := trP L' [] 0 undef .nils s0 tl' (bodyM false none) fa_nil (n0 := n0) (fun _ _ cc hcc => by cases hcc)
  have hd : doBody EL (recN EL (n0 + 1 + 20)) 384 [LSV L] false none s0 = .ret (LSV L') s0 false :=
    run_ret f384_at f384_body f384_res (by rw [f384_pre, b1]; exact he) (by rw [← take_nth 3 2 T' (by decide), a2]; rfl)
  unfold runE
  rw [hd, digN_lsl hv, ← b3, ← can_eq b2]; rfl
end
end Go.AM.E15
end
section
set_option maxRecDepth 100000
namespace Go.AM.E15
open Go Go.Proofs
noncomputable section
theorem codeN (n : Nat) (rc : Rec) (c : Code) (T : List V) (m : M) (s : S) (z : Z) : xQ EL c rc T m s z fun r _ => nrm n (exec c EL rc T m s) r :=
  xQ_ok c rc T m s z _ fun r _ q => by rw [← q]; exact nrm_refl n _
def tmK : Code := unL (unB (sr (sl (sr (sr (bodyOf Tryz.f376))))))
def tmP : Code := sr (sr (sr (bodyOf Tryz.f376)))
def tmT (A C : List Nat) (j : Nat) (u2 u3 u4 u6 u7 u8 u9 : V) (tl : Nat → V) : List V := app [LSV A, LSV C, u2, u3, u4, .ptr 0 0, u6, u7, u8, u9, LSV C, nI (len C), nI j] (restT tl 15 13)
theorem tm_rd (A C : List Nat) (j y : Nat) (rest : List V) (u2 u3 u4 u6 u7 u8 u9 : V) (tl : Nat → V) (m : M) (s s1 : S) (rc : Rec) :
    (!leI (Int.ofNat (len C)) (Int.ofNat j)) = true → idxSl 1 (LSV C) j = some (.lptr (nI y :: rest)) → rc.call 405 [.ptr 0 0, LSV A, nI y, nI j] s = .ret (.tup []) s1 false → wrap .i64 (Int.ofNat j + 1) = Int.ofNat (j + 1) →
    ∃ T', len T' = 28 ∧ takeB 13 T' = [LSV A, LSV C, u2, u3, u4, .ptr 0 0, nI j, nI y, u8, u9, LSV C, nI (len C), nI (j + 1)] ∧ exec tmK EL rc (tmT A C j u2 u3 u4 u6 u7 u8 u9 tl) m s = .norm T' m s1 := by
  refine cast ?_ (codeN 13 rc tmK (tmT A C j u2 u3 u4 u6 u7 u8 u9 tl) m s [(0, .bl true), (1, .il (.lptr (nI y :: rest))), (7, .cs (.tup []) s1), (0, .nat (j + 1))])
  kernel_rfl
theorem tm_ex (A C : List Nat) (j : Nat) (u2 u3 u4 u6 u7 u8 u9 : V) (tl : Nat → V) (m : M) (s : S) (rc : Rec) :
    (!leI (Int.ofNat (len C)) (Int.ofNat j)) = false → ∃ T', len T' = 28 ∧ takeB 13 T' = [LSV A, LSV C, u2, u3, u4, .ptr 0 0, u6, u7, u8, u9, LSV C, nI (len C), nI j] ∧ exec tmK EL rc (tmT A C j u2 u3 u4 u6 u7 u8 u9 tl) m s = .exit 0 T' m s := by
  refine cast ?_ (codeN 13 rc tmK (tmT A C j u2 u3 u4 u6 u7 u8 u9 tl) m s [(0, .bl false)])
  kernel_rfl
theorem tm_post (A C : List Nat) (j : Nat) (u2 u3 u4 u6 u7 u8 u9 d R : V) (tl : Nat → V) (m : M) (s s2 : S) (rc : Rec) :
    ldB (s.heap.get 0) 0 1 false = some d → rc.call 384 [d] s = .ret R s2 false →
    ∃ T', len T' = 28 ∧ takeB 13 T' = [LSV A, LSV C, u2, u3, R, .ptr 0 0, u6, u7, u8, u9, LSV C, nI (len C), nI j] ∧ exec tmP EL rc (tmT A C j u2 u3 u4 u6 u7 u8 u9 tl) m s = .ret T' m s2 := by
  refine cast ?_ (codeN 13 rc tmP (tmT A C j u2 u3 u4 u6 u7 u8 u9 tl) m s [(3, .ld d), (0, .cs R s2)])
  kernel_rfl
theorem idx_lit {L : List Nat} {i x : Nat} (h : L[i]? = some x) : idxSl 1 (LSV L) i = some (.lptr (nI x :: cellsL (L.drop (i + 1)))) := by
  have hi : i < L.length := by
    rcases Nat.lt_or_ge i L.length with h1 | h1
    · exact h1
    · rw [List.getElem?_eq_none h1] at h; cases h
  show boolC (Nat.blt i (len L)) none (some (V.lptr (dropN (i * 1) (cellsL L)))) = _
  rw [show Nat.blt i (len L) = true by rw [Nat.blt_eq, len_eq]; exact hi]
  show some (V.lptr (dropN (i * 1) (cellsL L))) = _
  rw [Nat.mul_one, dropN_eq, cellsL_eq, ← List.map_drop, List.drop_eq_getElem_cons hi, List.map_cons, ← cellsL_eq]
  rw [List.getElem?_eq_getElem hi] at h
  injection h with h
  rw [h]; rfl
theorem nleT' {a b : Nat} (h : b < a) : (!leI (Int.ofNat a) (Int.ofNat b)) = true := by have := nleT h; injection this
theorem nleF' {a b : Nat} (h : a ≤ b) : (!leI (Int.ofNat a) (Int.ofNat b)) = false := by have := nleF h; injection this
theorem add1N' {a : Nat} (h : a + 1 < 9223372036854775808) : wrap .i64 (Int.ofNat a + 1) = Int.ofNat (a + 1) := by have := add1N h; injection this
theorem tm_eq (a y v P b : Nat) : a * (y + b * v) * P = a * y * P + a * v * (P * b) := by
  rw [Nat.mul_comm a (y + b * v), step_mul, Nat.mul_comm y a, Nat.mul_comm v a]
theorem tm_loop {A C : List Nat} {m : M} (hA : Prp A) (hC : Prp C) (hA0 : A ≠ []) (hA1 : A.length ≤ 100) (hC1 : C.length ≤ 100) : ∀ (k j : Nat) (D : List Nat) (u2 u3 u4 u6 u7 u8 u9 : V) (tl : Nat → V) (s : S) (N : Nat), j + k = C.length → 3100 + k ≤ N →
    PI s D → Prp D → j ≤ D.length → D.length ≤ j + A.length + 1 →
    ∃ s' D' w6 w7 tl', exec (.loop tmK) EL (recN EL N) (tmT A C j u2 u3 u4 u6 u7 u8 u9 tl) m s = .exit 0 (tmT A C C.length u2 u3 u4 w6 w7 u8 u9 tl') m s' ∧ PI s' D' ∧ Prp D' ∧ D'.length ≤ 300 ∧ val D' = val D + val A * val (C.drop j) * BB ^ j := by
  intro k
  induction k with
  | zero =>
    intro j D u2 u3 u4 u6 u7 u8 u9 tl s N hj hN hp hD h1 h2
    obtain ⟨n, rfl⟩ : ∃ n, N = n + 1 := ⟨N - 1, by omega⟩
    obtain ⟨T', a1, a2, he⟩ := tm_ex A C j u2 u3 u4 u6 u7 u8 u9 tl m s (recN EL (n + 1)) (nleF' (by rw [len_eq]; omega))
    obtain ⟨tl', hT⟩ := T_form 13 T' _ 15 a1 a2
    have hjC : j = C.length := by omega
    subst hjC
    refine ⟨s, D, u6, u7, tl', ?_, hp, hD, by omega, ?_⟩
    · rw [loop_eq, he, thenK_exit, hT]; rfl
    · rw [List.drop_of_length_le (Nat.le_refl _)]; simp [val]
  | succ k ih =>
    intro j D u2 u3 u4 u6 u7 u8 u9 tl s N hj hN hp hD h1 h2
    obtain ⟨n, rfl⟩ : ∃ n, N = n + 1 := ⟨N - 1, by omega⟩
    have hjl : j < C.length := by omega
    have hy : C[j]? = some C[j] := List.getElem?_eq_getElem hjl
    generalize C[j] = y at hy
    have hyl : y < BB := hC y (List.mem_of_getElem? hy)
    have hApos : 0 < A.length := List.length_pos_iff.2 hA0
    obtain ⟨s1, D1, hc, b1, b2, b3, b4, b5⟩ := add_call (N := n + 1) (f := j) hA hyl hp hD h1 hA1 (by omega) (by omega)
    obtain ⟨T', a1, a2, he⟩ := tm_rd A C j y _ u2 u3 u4 u6 u7 u8 u9 tl m s s1 (recN EL (n + 1)) (nleT' (by rw [len_eq]; exact hjl)) (idx_lit hy) hc (add1N' (by omega))
    obtain ⟨tl', hT⟩ := T_form 13 T' _ 15 a1 a2
    obtain ⟨s2, D2, w6, w7, tl2, c1, c2, c3, c4, c5⟩ := ih (j + 1) D1 u2 u3 u4 (nI j) (nI y) u8 u9 tl' s1 n (by omega) (by omega) b1 b2 (by omega) (by omega)
    refine ⟨s2, D2, w6, w7, tl2, ?_, c2, c3, c4, ?_⟩
    · rw [loop_eq, he, thenK_norm, hT]; exact c1
    · rw [c5, b5, val_drop hy, tm_eq, Nat.pow_succ, Nat.add_assoc]
theorem f376_at : EL.fn 376 = some Tryz.f376 := by kernel_rfl
theorem f376_body : Tryz.f376.body = some (bodyOf Tryz.f376) := by kernel_rfl
theorem f376_res : Tryz.f376.results.toList = [.tmp 4] := by kernel_rfl
theorem f376_pre (A C : List Nat) (rc : Rec) (m : M) : exec (bodyOf Tryz.f376) EL rc (frame0 Tryz.f376 [LSV A, LSV C]) m s0 = thenK (blockK 0 (exec (.loop tmK) EL rc (tmT A C 0 undef undef .nils undef undef (.agg [.nils]) (.ptr 0 0) (fun _ => undef)) m (s0.new (.cells true 429 [.nils])))) (exec tmP EL rc) := by kernel_rfl
theorem m376 : EL.mode 376 = .E := by kernel_rfl
theorem o376 : EL.ov 376 = none := by kernel_rfl
theorem rsvL_ints (f : V → Option V) (hf : ∀ n : Nat, f (nI n) = some (nI n)) : ∀ L : List Nat, rsvL f (L.map intI) = some (L.map intI)
  | [] => rfl
  | d :: L => by
    show consO (f (intI d)) (rsvL f (L.map intI)) = _
    rw [show f (intI d) = some (intI d) from hf d, rsvL_ints f hf L]; rfl
theorem reachL_ints (f : V → List Nat) (hf : ∀ n : Nat, f (nI n) = []) : ∀ L : List Nat, reachL f (L.map intI) = []
  | [] => rfl
  | d :: L => by
    show app (f (intI d)) (reachL f (L.map intI)) = _
    rw [show f (intI d) = [] from hf d, reachL_ints f hf L]; rfl
theorem call_sl {f N b t : Nat} {D : List Nat} {v : V} {s : S} (hm : EL.mode f = .E) (ho : EL.ov f = none) (hr : runE EL N f [LSV D] = some v) (hlo : s.lo = 0) (hb : s.heap.get b = some (.cells true t (cellsL D))) :
    ∃ s2, (recN EL (N + 1)).call f [.sl b 0 D.length 1 none] s = .ret v s2 false := by
  have h1 : rsvL (rsvN s.heap noBlk deep false) [.sl b 0 D.length 1 none] = some [LSV D] := by
    show consO (rowOf s.heap (rsvN s.heap noBlk 999 true) b 0 D.length 1) (some []) = _
    have : rowOf s.heap (rsvN s.heap noBlk 999 true) b 0 D.length 1 = some (LSV D) := by
      unfold rowOf
      rw [hb]
      show bind (takeN (D.length * 1) (cellsL D)) (fun l => bind (rsvL (rsvN s.heap noBlk 999 true) l) fun l => some (V.lsl l D.length false)) = _
      have e1 : takeN (D.length * 1) (cellsL D) = some (cellsL D) := by
        rw [takeN_eq_some, Nat.mul_one, cellsL_eq]
        exact ⟨by rw [List.length_map]; exact Nat.le_refl _, by rw [List.take_of_length_le (by rw [List.length_map]; exact Nat.le_refl _)]⟩
      rw [e1, bind_some', cellsL_eq, rsvL_ints (rsvN s.heap noBlk 999 true) (fun _ => rfl), bind_some', ← cellsL_eq, ← len_eq]
    rw [this]; rfl
  have h2 : reachL (reachN s.heap deep) [.sl b 0 D.length 1 none] = [b] := by
    show app (b :: optC (blkCells (s.heap.get b)) [] (reachL (reachN s.heap 999))) [] = _
    rw [hb]
    show app (b :: reachL (reachN s.heap 999) (cellsL D)) [] = _
    rw [cellsL_eq, reachL_ints (reachN s.heap 999) (fun _ => rfl)]; rfl
  have h3 : (recN EL (N + 1)).call f [.sl b 0 D.length 1 none] s = frozenE s.heap [.sl b 0 D.length 1 none] s (.ret v s false) := by
    show doCall EL (recN EL N) f _ s = _
    unfold doCall
    rw [ho]
    show callM EL (recN EL N) f _ s (EL.mode f) = _
    rw [hm]
    show callE EL (recN EL N) f _ s = _
    unfold callE
    rw [h1]
    show frozenE s.heap _ s (backR noBlk s (doBody EL (recN EL N) f [LSV D] false none s0)) = _
    have hr : outE (doBody EL (recN EL N) f [LSV D] false none s0) = some v := hr
    cases hd : doBody EL (recN EL N) f [LSV D] false none s0 with
    | fail => rw [hd] at hr; cases hr
    | pan w s1 rd => rw [hd] at hr; cases hr
    | ret w s1 rd =>
      rw [hd] at hr
      have hr : rsvN s1.heap noBlk deep false w = some v := hr
      have : backR noBlk s (.ret w s1 rd) = .ret v s false := by
        show retV (rsvN s1.heap noBlk deep false w) s = _
        rw [hr]; rfl
      rw [this]
  rw [h3]
  show ∃ s2, boolC (hasLit v) (.ret v s false) (optC (s.freeze (reachL (reachN s.heap deep) [.sl b 0 D.length 1 none])) .fail (withS (.ret v s false))) = .ret v s2 false
  rw [h2]
  cases hasLit v with
  | false => exact ⟨s, rfl⟩
  | true =>
    refine ⟨{ s with heap := s.heap.set b (.cells false t (cellsL D)) }, ?_⟩
    have e : unown1 s.lo s.heap b (s.heap.get b) = some (s.heap.set b (.cells false t (cellsL D))) := by
      rw [hb, hlo]
      show boolC (Nat.blt b 0) (some (s.heap.set b (.cells false t (cellsL D)))) none = _
      rw [blt0]; rfl
    show optC (optC (bind (unown1 s.lo s.heap b (s.heap.get b)) fun h => some h) none fun h => some { s with heap := h }) CR.fail (withS (.ret v s false)) = _
    rw [e]; rfl
theorem tm_run {A C : List Nat} {N : Nat} (hA : Prp A) (hC : Prp C) (hA1 : A.length ≤ 100) (hC1 : C.length ≤ 100) (hv : 0 < val A * val C) (hN : 5000 ≤ N) : runE EL N 376 [LSV A, LSV C] = some (digN (val A * val C)) := by
  have hA0 : A ≠ [] := fun h => by rw [h] at hv; simp [val] at hv
  obtain ⟨s', D', w6, w7, tl', c1, c2, c3, c4, c5⟩ := tm_loop (m := bodyM false none) hA hC hA0 hA1 hC1 C.length 0 [] undef undef .nils undef undef (.agg [.nils]) (.ptr 0 0) (fun _ => undef) (s0.new (.cells true 429 [.nils])) N (by omega) (by omega)
    ⟨rfl, by decide, .inl ⟨rfl, get_new_eq _ _⟩⟩ (fun d hd => by cases hd) (Nat.zero_le _) (Nat.zero_le _)
  have hval : val D' = val A * val C := by rw [c5]; simp [val]
  obtain ⟨hlo, hnx, hpi⟩ := c2
  rcases hpi with ⟨hnil, _⟩ | ⟨b, t, hb0, hbn, h0, hbb⟩
  · rw [hnil] at hval; rw [← hval] at hv; exact absurd hv (Nat.lt_irrefl 0)
  obtain ⟨n, rfl⟩ : ∃ n, N = n + 1 := ⟨N - 1, by omega⟩
  obtain ⟨s2, hcall⟩ := call_sl m384 o384 (tr_run (N := n) c3 (by rw [hval]; exact hv) (by omega) (by omega)) hlo hbb
  obtain ⟨T', a1, a2, he⟩ := tm_post A C C.length undef undef .nils w6 w7 (.agg [.nils]) (.ptr 0 0) (.sl b 0 D'.length 1 none) _ tl' (bodyM false none) s' s2 (recN EL (n + 1)) (by rw [h0]; rfl) hcall
  have hd : doBody EL (recN EL (n + 1)) 376 [LSV A, LSV C] false none s0 = .ret (digN (val D')) s2 false :=
    run_ret f376_at f376_body f376_res (by rw [f376_pre, c1]; exact he) (by rw [← take_nth 13 4 T' (by decide), a2]; rfl)
  unfold runE
  rw [hd, hval]
  show rsvN s2.heap noBlk deep false (digN (val A * val C)) = _
  rw [digN_lsl hv]; rfl
end
end Go.AM.E15
end
section
set_option maxRecDepth 100000
namespace Go.AM.E15
open Go Go.Proofs
noncomputable section
noncomputable def clnK : Code := (bodyOf Tryz.f221)
noncomputable def clnC (L : List Nat) (u1 u2 : V) (s s1 : S) : List Con := []
noncomputable def clnE (L : List Nat) (u1 u2 : V) (s s1 : S) : List EQ := [.pr (pApp 24 24 (.lsl [] 0 true) (.lsl (cellsL L) (len L) false) (.sl s.next 0 (len L) 1 none) s s1)]
noncomputable def clnZ (L : List Nat) (u1 u2 : V) (s s1 : S) : ZJ := [(5, .pre 0 ((.sl s.next 0 (len L) 1 none)) s1)]
theorem cln (L : List Nat) (u1 u2 : V) (s s1 : S) (tl : Nat → V) (m : M) (he : ∀ q ∈ clnE L u1 u2 s s1, q.Holds) {n0 : Nat} (hc : ∀ n', n0 ≤ n' → ∀ cc ∈ clnC L u1 u2 s s1, ∀ ss, okS cc.2.2.1 ss → (recN EL n').call cc.1 cc.2.1 ss = .ret cc.2.2.2 ss false) : ∃ T', len T' = 8 ∧ takeB 3 T' = [(.lsl (cellsL L) (len L) false), u1, (.sl s.next 0 (len L) 1 none)] ∧ exec clnK EL (recN EL (n0 + 1 + 20)) (app [(.lsl (cellsL L) (len L) false), u1, u2] (restT tl 5 3)) m s = .ret T' m s1 := by
  refine hypJ_ok (cs := clnC L u1 u2 s s1) (ds := []) he (clnZ L u1 u2 s s1) (by rfl) (cast ?_ (code_ex (E := EL) (cs := clnC L u1 u2 s s1) (ds := []) (es := clnE L u1 u2 s s1) fa_nil he (n0 := n0) hc 20 3 clnK (app [(.lsl (cellsL L) (len L) false), u1, u2] (restT tl 5 3)) m s (clnZ L u1 u2 s s1)))
  kernel_rfl
end
end Go.AM.E15
end
section
set_option maxRecDepth 100000
namespace Go.AM.E15
open Go Go.Proofs
noncomputable section
theorem elT24 : elemTi EL 24 = some ⟨1, 8, false, .int .i64, [.int .i64 0]⟩ := by
  unfold elemTi
  rw [ti24, bind_some']
  exact ti3
theorem elE24 : elemE EL 24 = 4 := by
  unfold elemE
  rw [ti24]; rfl
theorem app_clone {L : List Nat} {s : S} (h0 : L ≠ []) (hl : L.length < 100000) : pApp 24 24 (.lsl [] 0 true) (LSV L) (.sl s.next 0 (len L) 1 none) s (s.new (.cells true 4 (cellsL L))) := by
  unfold pApp bAppend
  rw [elT24, bind_some', ti24, bind_some', elE24]
  show append s 4 1 8 (.lsl [] 0 true) (LSV L) = _
  unfold append
  show natC (len L) (some (V.lsl [] 0 true, s)) (fun m' => boolC (Nat.ble (0 + (m' + 1)) maxInt && Nat.ble ((0 + (m' + 1)) * 8) room) none (bind (boolC (Nat.beq (len (cellsL L)) (len L * 1)) none (some (cellsL L))) fun new => appendTo s 4 1 (.lsl [] 0 true) (m' + 1) new)) = _
  have hpos : 0 < L.length := List.length_pos_iff.2 h0
  obtain ⟨k, hk⟩ : ∃ k, len L = k + 1 := ⟨len L - 1, by rw [len_eq]; omega⟩
  have hk' : L.length = k + 1 := by rw [← len_eq]; exact hk
  have e1 : Nat.beq (len (cellsL L)) (len L * 1) = true := by
    rw [cellsL_eq, len_eq, List.length_map, len_eq, Nat.mul_one]; exact Nat.beq_refl _
  rw [e1, hk]
  show boolC (Nat.ble (0 + (k + 1)) maxInt && Nat.ble ((0 + (k + 1)) * 8) room) none (appendTo s 4 1 (.lsl [] 0 true) (k + 1) (cellsL L)) = _
  have h1 : Nat.ble (0 + (k + 1)) maxInt = true := by rw [Nat.ble_eq]; unfold maxInt; omega
  have h2 : Nat.ble ((0 + (k + 1)) * 8) room = true := by rw [Nat.ble_eq]; unfold room; omega
  rw [h1, h2]
  show some (V.sl s.next 0 (0 + (k + 1)) 1 none, s.new (.cells true 4 (cellsL L))) = _
  rw [Nat.zero_add]
theorem f221_at : EL.fn 221 = some Tryz.f221 := by kernel_rfl
theorem f221_body : Tryz.f221.body = some (bodyOf Tryz.f221) := by kernel_rfl
theorem f221_res : Tryz.f221.results.toList = [.tmp 2] := by kernel_rfl
theorem f221_frame (a : V) : frame0 Tryz.f221 [a] = app [a, undef, undef] (restT (fun _ => undef) 5 3) := by kernel_rfl
theorem m221 : EL.mode 221 = .E := by kernel_rfl
theorem o221 : EL.ov 221 = none := by kernel_rfl
theorem clone_run {L : List Nat} {N : Nat} (h0 : L ≠ []) (hl : L.length < 100000) (hN : 21 ≤ N) : runE EL N 221 [LSV L] = some (LSV L) := by
  obtain ⟨n0, rfl⟩ : ∃ n0, N = n0 + 1 + 20 := ⟨N - 21, by omega⟩
  obtain ⟨T', a1, a2, he⟩ := cln L undef undef s0 (s0.new (.cells true 4 (cellsL L))) (fun _ => undef) (bodyM false none) (fa_cons (app_clone h0 hl) fa_nil) (n0 := n0) (fun _ _ cc hcc => by cases hcc)
  have hd : doBody EL (recN EL (n0 + 1 + 20)) 221 [LSV L] false none s0 = .ret (.sl 0 0 (len L) 1 none) (s0.new (.cells true 4 (cellsL L))) false :=
    run_ret f221_at f221_body f221_res (by rw [f221_frame]; exact he) (by rw [← take_nth 3 2 T' (by decide), a2]; rfl)
  unfold runE
  rw [hd]
  show rowOf (s0.new (.cells true 4 (cellsL L))).heap (rsvN (s0.new (.cells true 4 (cellsL L))).heap noBlk 999 true) 0 0 (len L) 1 = _
  unfold rowOf
  rw [show (s0.new (.cells true 4 (cellsL L))).heap.get 0 = some (.cells true 4 (cellsL L)) from get_new_eq s0 _]
  show bind (takeN (len L * 1) (cellsL L)) (fun l => bind (rsvL (rsvN (s0.new (.cells true 4 (cellsL L))).heap noBlk 999 true) l) fun l => some (V.lsl l (len L) false)) = _
  have e1 : takeN (len L * 1) (cellsL L) = some (cellsL L) := by
    rw [takeN_eq_some, Nat.mul_one, cellsL_eq, len_eq]
    exact ⟨by rw [List.length_map]; exact Nat.le_refl _, by rw [List.take_of_length_le (by rw [List.length_map]; exact Nat.le_refl _)]⟩
  rw [e1, bind_some', cellsL_eq, rsvL_ints (rsvN (s0.new (.cells true 4 (List.map intI L))).heap noBlk 999 true) (fun _ => rfl), bind_some', ← cellsL_eq]
def muC (A C P : List Nat) : List Con := [(376, [LSV A, LSV C], none, LSV P), (384, [LSV P], none, LSV P), (221, [LSV P], none, LSV P)]
def muE (C P : List Nat) : List EQ := [.eq (.agg [.bool false, LSV C]) (.agg [.bool false, LSV C]), .eq (.bool (eqI (Int.ofNat (len P)) 0)) (.bool false)]
def muZ : ZJ := [fj 16 7 0, cj 7 0, cj 4 1, vj 3 1, cj 2 2]
theorem mu_w (A C P : List Nat) (he : ∀ q ∈ muE C P, q.Holds) (n0 : Nat) (hc : ∀ n', n0 ≤ n' → ∀ cc ∈ muC A C P, ∀ ss, okS cc.2.2.1 ss → (recN EL n').call cc.1 cc.2.1 ss = .ret cc.2.2.2 ss false) :
    hypJ (muC A C P) [] (muE C P) muZ (runE EL (n0 + 1 + 100) 329 [.agg [.bool false, LSV A], .agg [.bool false, LSV C]] = some (.agg [.bool false, LSV P])) := by
  refine cast ?_ (inl_run (E := EL) (cs := muC A C P) (ds := []) (es := muE C P) fa_nil he (n0 := n0) hc 100 329 [.agg [.bool false, LSV A], .agg [.bool false, LSV C]] muZ)
  kernel_rfl
theorem intV_nat {n : Nat} (h : 0 < n) : intV (n : Int) = .agg [.bool false, LSV (limbs n)] := by
  show V.agg [.bool false, digN n] = _
  rw [digN_lsl h]
theorem lsv_limbs {n : Nat} (h : 0 < n) : LSV (limbs n) = digN n := (digN_lsl h).symm
theorem mul_run {x y N : Nat} (hx : 0 < x) (hy : 0 < y) (hx1 : x < BB ^ 100) (hy1 : y < BB ^ 100) (hN : 6000 ≤ N) : runE EL N 329 [intV (x : Int), intV (y : Int)] = some (intV ((x * y : Nat) : Int)) := by
  obtain ⟨n0, rfl⟩ : ∃ n0, N = n0 + 1 + 100 := ⟨N - 101, by omega⟩
  have hxy : 0 < x * y := Nat.mul_pos hx hy
  have hP : (limbs (x * y)).length ≤ 200 := limbs_len 200 _ (by
    have : BB ^ 200 = BB ^ 100 * BB ^ 100 := by rw [← Nat.pow_add]
    rw [this]; exact Nat.mul_lt_mul_of_lt_of_lt hx1 hy1)
  have hne := limbs_ne hxy
  rw [intV_nat hx, intV_nat hy, intV_nat hxy]
  have he : ∀ q ∈ muE (limbs y) (limbs (x * y)), q.Holds := fa_cons rfl <| fa_cons (beqF (by
    have : 0 < (limbs (x * y)).length := List.length_pos_iff.2 hne
    rw [len_eq]; show ¬ (((limbs (x * y)).length : Int) = 0); omega)) fa_nil
  refine hypJ_ok he muZ (by rfl) (mu_w (limbs x) (limbs y) (limbs (x * y)) he n0 ?_)
  intro n' hn'
  obtain ⟨n, rfl⟩ : ∃ n, n' = n + 1 := ⟨n' - 1, by omega⟩
  refine fa_cons (fun ss _ => call_of m376 o376 (fa_cons (plain_lsl _ _) <| fa_cons (plain_lsl _ _) fa_nil) ?_ ss) <| fa_cons (fun ss _ => call_of m384 o384 (fa_cons (plain_lsl _ _) fa_nil) ?_ ss) <| fa_cons (fun ss _ => call_of m221 o221 (fa_cons (plain_lsl _ _) fa_nil) ?_ ss) fa_nil
  · have := tm_run (N := n) (prp_limbs x) (prp_limbs y) (limbs_len 100 x hx1) (limbs_len 100 y hy1) (by rw [val_limbs, val_limbs]; exact hxy) (by omega)
    rw [val_limbs, val_limbs, ← lsv_limbs hxy] at this
    exact this
  · have := tr_run (N := n) (prp_limbs (x * y)) (by rw [val_limbs]; exact hxy) (by omega) (by omega)
    rw [val_limbs, ← lsv_limbs hxy] at this
    exact this
  · exact clone_run hne (by omega) (by omega)
end
end Go.AM.E15
end
section
set_option maxRecDepth 100000
namespace Go.AM.E15
open Go Go.Proofs
noncomputable section
abbrev AI (L : List Nat) : V := .agg [.bool false, LSV L]
def pwK : Code := unL (unB (sr (sl (sr (sr (bodyOf Tryz.f260))))))
def pwT (a : V) (n b : Nat) (u3 : V) (tl : Nat → V) : List V := app [a, nI n, .ptr 0 0, u3, .ptr 1 0, .ptr 2 0, .ptr b 0] (restT tl 31 7)
theorem pw_oL (O B P Q : List Nat) (n b : Nat) (a u3 : V) (tl : Nat → V) (m : M) (s s1 s2 s3 : S) (rc : Rec) :
    (!leI (Int.ofNat n) 0) = true → eqI (Int.tmod (Int.ofNat n) 2) 1 = true → ldB (s.heap.get 2) 0 2 true = some (AI O) → ldB (s.heap.get b) 0 2 true = some (AI B) → rc.call 329 [AI O, AI B] s = .ret (AI P) s false → storeV s 2 [.bool false, LSV P] (.ptr 2 0) = some (undef, s1) →
    ldB (s1.heap.get 2) 1 1 false = some (LSV P) → (!leI (Int.ofNat (len P)) 40) = false → (!leI (Int.ofNat n) 1) = true →
    ldB (s1.heap.get b) 0 2 true = some (AI B) → ldB (s1.heap.get b) 0 2 true = some (AI B) → rc.call 329 [AI B, AI B] s1 = .ret (AI Q) s1 false → storeV s1 2 [.bool false, LSV Q] (.ptr b 0) = some (undef, s2) → ldB (s2.heap.get b) 1 1 false = some (LSV Q) → (!leI (Int.ofNat (len Q)) 40) = false →
    ldB (s2.heap.get b) 0 2 true = some (AI Q) → storeV (s2.new (.cells true 27 [.bool false, .nils])) 2 [.bool false, LSV Q] (.ptr s2.next 0) = some (undef, s3) → wrap .i64 (Int.tdiv (Int.ofNat n) 2) = Int.ofNat (n / 2) →
    ∃ T', len T' = 38 ∧ takeB 7 T' = [a, nI (n / 2), .ptr 0 0, u3, .ptr 1 0, .ptr 2 0, .ptr s2.next 0] ∧ exec pwK EL rc (pwT a n b u3 tl) m s = .norm T' m s3 := by
  refine cast ?_ (codeN 7 rc pwK (pwT a n b u3 tl) m s [(1, .bl true), (2, .bl true), (0, .ld (AI O)), (0, .ld (AI B)), (0, .cl (AI P)), (0, .st s1), (1, .ld (LSV P)), (1, .bl false), (1, .bl true), (0, .ld (AI B)), (0, .ld (AI B)), (0, .cl (AI Q)), (0, .st s2), (1, .ld (LSV Q)), (1, .bl false), (0, .ld (AI Q)), (1, .st s3), (1, .nat (n / 2))])
  kernel_rfl
theorem pw_eL (O B Q : List Nat) (n b : Nat) (a u3 : V) (tl : Nat → V) (m : M) (s s2 s3 : S) (rc : Rec) :
    (!leI (Int.ofNat n) 0) = true → eqI (Int.tmod (Int.ofNat n) 2) 1 = false → (!leI (Int.ofNat n) 1) = true →
    ldB (s.heap.get b) 0 2 true = some (AI B) → ldB (s.heap.get b) 0 2 true = some (AI B) → rc.call 329 [AI B, AI B] s = .ret (AI Q) s false → storeV s 2 [.bool false, LSV Q] (.ptr b 0) = some (undef, s2) → ldB (s2.heap.get b) 1 1 false = some (LSV Q) → (!leI (Int.ofNat (len Q)) 40) = false →
    ldB (s2.heap.get b) 0 2 true = some (AI Q) → storeV (s2.new (.cells true 27 [.bool false, .nils])) 2 [.bool false, LSV Q] (.ptr s2.next 0) = some (undef, s3) → wrap .i64 (Int.tdiv (Int.ofNat n) 2) = Int.ofNat (n / 2) →
    ∃ T', len T' = 38 ∧ takeB 7 T' = [a, nI (n / 2), .ptr 0 0, u3, .ptr 1 0, .ptr 2 0, .ptr s2.next 0] ∧ exec pwK EL rc (pwT a n b u3 tl) m s = .norm T' m s3 := by
  refine cast ?_ (codeN 7 rc pwK (pwT a n b u3 tl) m s [(1, .bl true), (2, .bl false), (1, .bl true), (0, .ld (AI B)), (0, .ld (AI B)), (0, .cl (AI Q)), (0, .st s2), (1, .ld (LSV Q)), (1, .bl false), (0, .ld (AI Q)), (1, .st s3), (1, .nat (n / 2))])
  kernel_rfl
theorem pw_o1 (O B P : List Nat) (n b : Nat) (a u3 : V) (tl : Nat → V) (m : M) (s s1 s3 : S) (rc : Rec) :
    (!leI (Int.ofNat n) 0) = true → eqI (Int.tmod (Int.ofNat n) 2) 1 = true → ldB (s.heap.get 2) 0 2 true = some (AI O) → ldB (s.heap.get b) 0 2 true = some (AI B) → rc.call 329 [AI O, AI B] s = .ret (AI P) s false → storeV s 2 [.bool false, LSV P] (.ptr 2 0) = some (undef, s1) →
    ldB (s1.heap.get 2) 1 1 false = some (LSV P) → (!leI (Int.ofNat (len P)) 40) = false → (!leI (Int.ofNat n) 1) = false →
    ldB (s1.heap.get b) 0 2 true = some (AI B) → storeV (s1.new (.cells true 27 [.bool false, .nils])) 2 [.bool false, LSV B] (.ptr s1.next 0) = some (undef, s3) → wrap .i64 (Int.tdiv (Int.ofNat n) 2) = Int.ofNat (n / 2) →
    ∃ T', len T' = 38 ∧ takeB 7 T' = [a, nI (n / 2), .ptr 0 0, u3, .ptr 1 0, .ptr 2 0, .ptr s1.next 0] ∧ exec pwK EL rc (pwT a n b u3 tl) m s = .norm T' m s3 := by
  refine cast ?_ (codeN 7 rc pwK (pwT a n b u3 tl) m s [(1, .bl true), (2, .bl true), (0, .ld (AI O)), (0, .ld (AI B)), (0, .cl (AI P)), (0, .st s1), (1, .ld (LSV P)), (1, .bl false), (1, .bl false), (0, .ld (AI B)), (1, .st s3), (1, .nat (n / 2))])
  kernel_rfl
theorem pw_ex (n b : Nat) (a u3 : V) (tl : Nat → V) (m : M) (s : S) (rc : Rec) : (!leI (Int.ofNat n) 0) = false →
    ∃ T', len T' = 38 ∧ takeB 7 T' = [a, nI n, .ptr 0 0, u3, .ptr 1 0, .ptr 2 0, .ptr b 0] ∧ exec pwK EL rc (pwT a n b u3 tl) m s = .exit 0 T' m s := by
  refine cast ?_ (codeN 7 rc pwK (pwT a n b u3 tl) m s [(1, .bl false)])
  kernel_rfl
end
end Go.AM.E15
end
section
set_option maxRecDepth 100000
namespace Go.AM.E15
open Go Go.Proofs
noncomputable section
section
variable {s : S} {b t : Nat} {L : List Nat} {o : Bool}
theorem ld_ai (h : s.heap.get b = some (.cells o t [.bool false, LSV L])) : ldB (s.heap.get b) 0 2 true = some (AI L) := by rw [h]; rfl
theorem ld_d (h : s.heap.get b = some (.cells o t [.bool false, LSV L])) : ldB (s.heap.get b) 1 1 false = some (LSV L) := by rw [h]; rfl
theorem st_ai {v w : V} (hlo : s.lo = 0) (h : s.heap.get b = some (.cells true t [v, w])) : storeV s 2 [.bool false, LSV L] (.ptr b 0) = some (undef, s.put b (.cells true t [.bool false, LSV L])) := by
  show bind (boolC (Nat.blt b s.lo) (storeBlk s b 0 [.bool false, LSV L] (s.heap.get b)) none) (fun s => some (undef, s)) = _
  rw [hlo, blt0, h]; rfl
end
theorem plain_ai (L : List Nat) : Plain (AI L) := fun h => ⟨rfl, rfl⟩
theorem m329 : EL.mode 329 = .E := by kernel_rfl
theorem o329 : EL.ov 329 = none := by kernel_rfl
theorem mul_call {x y N : Nat} (hx : 0 < x) (hy : 0 < y) (hx1 : x < BB ^ 40) (hy1 : y < BB ^ 40) (hN : 6001 ≤ N) (s : S) : (recN EL N).call 329 [AI (limbs x), AI (limbs y)] s = .ret (AI (limbs (x * y))) s false := by
  obtain ⟨n, rfl⟩ : ∃ n, N = n + 1 := ⟨N - 1, by omega⟩
  have hle : BB ^ 40 ≤ BB ^ 100 := Nat.pow_le_pow_right (by decide) (by decide)
  have := mul_run (N := n) hx hy (Nat.lt_of_lt_of_le hx1 hle) (Nat.lt_of_lt_of_le hy1 hle) (by omega)
  rw [intV_nat hx, intV_nat hy, intV_nat (Nat.mul_pos hx hy)] at this
  exact call_of m329 o329 (fa_cons (plain_ai _) <| fa_cons (plain_ai _) fa_nil) this s
structure PW (s : S) (O : List Nat) (b : Nat) (B : List Nat) : Prop where
  lo : s.lo = 0
  b3 : 3 ≤ b
  bn : b < s.next
  g1 : s.heap.get 1 = some (.cells true 27 [.bool false, .nils])
  g2 : s.heap.get 2 = some (.cells true 27 [.bool false, LSV O])
  gb : s.heap.get b = some (.cells true 27 [.bool false, LSV B])
theorem PW.out {s : S} {O B P : List Nat} {b : Nat} (h : PW s O b B) : PW (s.put 2 (.cells true 27 [.bool false, LSV P])) P b B :=
  ⟨h.lo, h.b3, h.bn, by rw [get_put, if_neg (by omega)]; exact h.g1, by rw [get_put, if_pos rfl], by have := h.b3; rw [get_put, if_neg (by omega)]; exact h.gb⟩
theorem PW.base {s : S} {O B Q : List Nat} {b : Nat} (h : PW s O b B) : PW (s.put b (.cells true 27 [.bool false, LSV Q])) O b Q :=
  ⟨h.lo, h.b3, h.bn, by have := h.b3; rw [get_put, if_neg (by omega)]; exact h.g1, by have := h.b3; rw [get_put, if_neg (by omega)]; exact h.g2, by rw [get_put, if_pos rfl]⟩
theorem PW.next {s : S} {O B : List Nat} {b : Nat} (h : PW s O b B) : PW ((s.new (.cells true 27 [.bool false, .nils])).put s.next (.cells true 27 [.bool false, LSV B])) O s.next B := by
  have h3 := h.b3
  have hn := h.bn
  refine ⟨h.lo, by omega, Nat.lt_succ_self _, ?_, ?_, by rw [get_put, if_pos rfl]⟩
  · rw [get_put, if_neg (by omega), get_new_ne (by omega)]; exact h.g1
  · rw [get_put, if_neg (by omega), get_new_ne (by omega)]; exact h.g2
theorem st_next {s : S} {B : List Nat} (hlo : s.lo = 0) : storeV (s.new (.cells true 27 [.bool false, .nils])) 2 [.bool false, LSV B] (.ptr s.next 0) = some (undef, (s.new (.cells true 27 [.bool false, .nils])).put s.next (.cells true 27 [.bool false, LSV B])) :=
  st_ai (s := s.new (.cells true 27 [.bool false, .nils])) hlo (get_new_eq s _)
theorem half_eq {n : Nat} (h : n < 9223372036854775808) : wrap .i64 (Int.tdiv (Int.ofNat n) 2) = Int.ofNat (n / 2) := by
  have := wi64 (a := Int.tdiv (Int.ofNat n) 2) (b := Int.ofNat (n / 2)) (show Int.tdiv (n : Int) ((2 : Nat) : Int) = ((n / 2 : Nat) : Int) from (Int.ofNat_tdiv n 2).symm)
    (by show (-9223372036854775808 : Int) ≤ ((n / 2 : Nat) : Int); omega) (by show ((n / 2 : Nat) : Int) ≤ 9223372036854775807; omega)
  injection this
theorem odd_eq {n : Nat} (b : Bool) (h : decide (n % 2 = 1) = b) : eqI (Int.tmod (Int.ofNat n) 2) 1 = b := by
  rw [show Int.tmod (Int.ofNat n) 2 = ((n % 2 : Nat) : Int) from (Int.ofNat_tmod n 2).symm, eqI_eq, ← h]
  by_cases h1 : n % 2 = 1
  · rw [h1]; rfl
  · rw [decide_eq_false h1, decide_eq_false (by omega)]
theorem len40 {x : Nat} (h : x < BB ^ 40) : (!leI (Int.ofNat (len (limbs x))) 40) = false := nleF' (b := 40) (by rw [len_eq]; exact limbs_len 40 x h)
theorem pw_loop {R : Nat} {a : V} {m : M} (hR : R < BB ^ 40) : ∀ (n o x b : Nat) (u3 : V) (tl : Nat → V) (s : S) (N : Nat), n < 100000 → 7000 + n ≤ N → 0 < o → 0 < x → o * x ^ n = R → x < BB ^ 40 → PW s (limbs o) b (limbs x) →
    ∃ s' b' x' tl', exec (.loop pwK) EL (recN EL N) (pwT a n b u3 tl) m s = .exit 0 (pwT a 0 b' u3 tl') m s' ∧ PW s' (limbs R) b' (limbs x') := by
  intro n
  induction n using Nat.strongRecOn with
  | ind n ih =>
    intro o x b u3 tl s N hn hN ho hx hr hxb hp
    obtain ⟨N, rfl⟩ : ∃ k, N = k + 1 := ⟨N - 1, by omega⟩
    rcases Nat.eq_zero_or_pos n with h0 | h0
    · subst h0
      obtain ⟨T', a1, a2, he⟩ := pw_ex 0 b a u3 tl m s (recN EL (N + 1)) (nleF' (b := 0) (Nat.le_refl 0))
      obtain ⟨tl', hT⟩ := T_form 7 T' _ 31 a1 a2
      rw [Nat.pow_zero, Nat.mul_one] at hr
      subst hr
      exact ⟨s, b, x, tl', by rw [loop_eq, he, thenK_exit, hT]; rfl, hp⟩
    · have hx1 : 1 ≤ x := hx
      have hxn : x ^ 1 ≤ x ^ n := Nat.pow_le_pow_right hx h0
      have hox : o * x ≤ R := by rw [← hr]; exact Nat.mul_le_mul_left o (by rw [Nat.pow_one] at hxn; exact hxn)
      have hoR : o ≤ R := by rw [← hr]; exact Nat.le_mul_of_pos_right o (Nat.pow_pos hx)
      have hob : o < BB ^ 40 := Nat.lt_of_le_of_lt hoR hR
      have hoxb : o * x < BB ^ 40 := Nat.lt_of_le_of_lt hox hR
      have g0 : (!leI (Int.ofNat n) 0) = true := nleT' (b := 0) h0
      have gh := half_eq (n := n) (by omega)
      have hNN : 6001 ≤ N + 1 := by omega
      by_cases h2 : 1 < n
      · have hxx : x * x ≤ R := by
          have h3 : x ^ 2 ≤ x ^ n := Nat.pow_le_pow_right hx h2
          rw [Nat.pow_two] at h3
          rw [← hr]
          exact Nat.le_trans h3 (Nat.le_mul_of_pos_left _ ho)
        have hxxb : x * x < BB ^ 40 := Nat.lt_of_le_of_lt hxx hR
        have g1 : (!leI (Int.ofNat n) 1) = true := nleT' (b := 1) h2
        have hxx0 : 0 < x * x := Nat.mul_pos hx hx
        by_cases hodd : n % 2 = 1
        · have hp1 := hp.out (P := limbs (o * x))
          have hp2 := hp1.base (Q := limbs (x * x))
          obtain ⟨T', a1, a2, he⟩ := pw_oL (limbs o) (limbs x) (limbs (o * x)) (limbs (x * x)) n b a u3 tl m s _ _ _ (recN EL (N + 1)) g0 (odd_eq true (decide_eq_true hodd)) (ld_ai hp.g2) (ld_ai hp.gb) (mul_call ho hx hob hxb hNN s) (st_ai hp.lo hp.g2)
            (ld_d hp1.g2) (len40 hoxb) g1 (ld_ai hp1.gb) (ld_ai hp1.gb) (mul_call hx hx hxb hxb hNN _) (st_ai hp1.lo hp1.gb) (ld_d hp2.gb) (len40 hxxb) (ld_ai hp2.gb) (st_next hp2.lo) gh
          obtain ⟨tl', hT⟩ := T_form 7 T' _ 31 a1 a2
          obtain ⟨s', b', x', tl2, c1, c2⟩ := ih (n / 2) (by omega) (o * x) (x * x) _ u3 tl' _ N (by omega) (by omega) (Nat.mul_pos ho hx) hxx0 (by
            rw [← hr, ← Nat.pow_two, ← Nat.pow_mul, Nat.mul_assoc]
            congr 1
            rw [Nat.mul_comm x, ← Nat.pow_succ]
            congr 1; omega) hxxb hp2.next
          exact ⟨s', b', x', tl2, by rw [loop_eq, he, thenK_norm, hT]; exact c1, c2⟩
        · have hp2 := hp.base (Q := limbs (x * x))
          obtain ⟨T', a1, a2, he⟩ := pw_eL (limbs o) (limbs x) (limbs (x * x)) n b a u3 tl m s _ _ (recN EL (N + 1)) g0 (odd_eq false (decide_eq_false hodd)) g1 (ld_ai hp.gb) (ld_ai hp.gb) (mul_call hx hx hxb hxb hNN _) (st_ai hp.lo hp.gb) (ld_d hp2.gb) (len40 hxxb) (ld_ai hp2.gb) (st_next hp2.lo) gh
          obtain ⟨tl', hT⟩ := T_form 7 T' _ 31 a1 a2
          obtain ⟨s', b', x', tl2, c1, c2⟩ := ih (n / 2) (by omega) o (x * x) _ u3 tl' _ N (by omega) (by omega) ho hxx0 (by
            rw [← hr, ← Nat.pow_two, ← Nat.pow_mul]
            congr 2; omega) hxxb hp2.next
          exact ⟨s', b', x', tl2, by rw [loop_eq, he, thenK_norm, hT]; exact c1, c2⟩
      · have hn1 : n = 1 := by omega
        subst hn1
        have hp1 := hp.out (P := limbs (o * x))
        obtain ⟨T', a1, a2, he⟩ := pw_o1 (limbs o) (limbs x) (limbs (o * x)) 1 b a u3 tl m s _ _ (recN EL (N + 1)) g0 (odd_eq true rfl) (ld_ai hp.g2) (ld_ai hp.gb) (mul_call ho hx hob hxb hNN s) (st_ai hp.lo hp.g2)
          (ld_d hp1.g2) (len40 hoxb) (nleF' (b := 1) (Nat.le_refl 1)) (ld_ai hp1.gb) (st_next hp1.lo) gh
        obtain ⟨tl', hT⟩ := T_form 7 T' _ 31 a1 a2
        obtain ⟨s', b', x', tl2, c1, c2⟩ := ih 0 (by omega) (o * x) x _ u3 tl' _ N (by omega) (by omega) (Nat.mul_pos ho hx) hx (by rw [← hr]; simp) hxb hp1.next
        exact ⟨s', b', x', tl2, by rw [loop_eq, he, thenK_norm, hT]; exact c1, c2⟩
end
end Go.AM.E15
end
section
set_option maxRecDepth 100000
namespace Go.AM.E15
open Go Go.Proofs
noncomputable section
def zB : B := .cells true 27 [.bool false, .nils]
def aB (L : List Nat) : B := .cells true 27 [.bool false, LSV L]
def pwA (A : List Nat) : S := (s0.new (aB A)).new zB
def pwB (A : List Nat) : S := ((((pwA A).new zB).put 2 (aB [1])).new zB).put 3 (aB A)
def pwTl (A : List Nat) (i : Nat) : V := boolC (Nat.beq i 7) (boolC (Nat.beq i 8) undef (AI A)) (AI [1])
theorem pw_all (A O : List Nat) (n n' b' : Nat) (u3 : V) (tl' : Nat → V) (m : M) (s2 s3 : S) (rc : Rec) :
    rc.call 328 [] (pwA A) = .ret (AI [1]) (pwA A) false → exec (.loop pwK) EL rc (pwT (AI A) n 3 undef (pwTl A)) m (pwB A) = .exit 0 (pwT (AI A) n' b' u3 tl') m s2 → ldB (s2.heap.get 2) 0 2 true = some (AI O) → storeV s2 2 [.bool false, LSV O] (.ptr 1 0) = some (undef, s3) →
    ∃ T', len T' = 38 ∧ takeB 7 T' = [AI A, nI n', .ptr 0 0, u3, .ptr 1 0, .ptr 2 0, .ptr b' 0] ∧ exec (bodyOf Tryz.f260) EL rc (frame0 Tryz.f260 [AI A, nI n]) m s0 = .ret T' m s3 := by
  refine cast ?_ (codeN 7 rc (bodyOf Tryz.f260) (frame0 Tryz.f260 [AI A, nI n]) m s0 [(2, .cl (AI [1])), (5, .lp (.exit 0 (pwT (AI A) n' b' u3 tl') m s2)), (0, .ld (AI O)), (0, .st s3)])
  kernel_rfl
theorem one_run (n0 : Nat) : runE EL (n0 + 1 + 20) 328 [] = some (AI [1]) := by
  refine cast ?_ (inl_run (E := EL) (cs := []) (ds := []) (es := []) fa_nil fa_nil (n0 := n0) (fun _ _ c hc => by cases hc) 20 328 [] [])
  kernel_rfl
theorem m328 : EL.mode 328 = .E := by kernel_rfl
theorem o328 : EL.ov 328 = none := by kernel_rfl
theorem ti26 : EL.ti 26 = some ⟨2, 32, true, .struct [(0, 4), (1, 24)], [.bool false, .nils]⟩ := by kernel_rfl
theorem f260_at : EL.fn 260 = some Tryz.f260 := by kernel_rfl
theorem f260_body : Tryz.f260.body = some (bodyOf Tryz.f260) := by kernel_rfl
theorem f260_res : Tryz.f260.results.toList = [.cell 4 26] := by kernel_rfl
theorem m260 : EL.mode 260 = .E := by kernel_rfl
theorem o260 : EL.ov 260 = none := by kernel_rfl
theorem run_cell {f : Nat} {fn : Func} {c : Code} {args T' : List V} {rc : Rec} {s s' : S} {v w : V} (hf : EL.fn f = some fn) (hb : fn.body = some c) (hr : fn.results.toList = [.cell 4 26])
    (h : exec c EL rc (frame0 fn args) (bodyM false none) s = .ret T' (bodyM false none) s') (hv : nth T' 4 = some (.ptr 1 0)) (h1 : s'.heap.get 1 = some (.cells true 27 [v, w])) : doBody EL rc f args false none s = .ret (.agg [v, w]) s' false := by
  unfold doBody
  rw [hf]
  show (optC fn.body .fail fun c => bodyEnd EL rc fn (exec c EL rc (frame0 fn args) (bodyM false none) s)) = _
  rw [hb]
  show bodyEnd EL rc fn (exec c EL rc (frame0 fn args) (bodyM false none) s) = _
  rw [h]
  show optC (resultsL EL T' s' fn.results.toList) CR.fail (fun l => CR.ret (tupled l) s' false) = _
  rw [hr]
  have : result1 EL T' s' (.cell 4 26) = some (.agg [v, w]) := by
    show bind (EL.ti 26) (fun ti => bind (nth T' 4) (load s' ti)) = _
    rw [ti26, bind_some', hv, bind_some']
    show bind (bind (blkCells (s'.heap.get 1)) fun c => some (dropN 0 c)) (fun c => bind (takeN 2 c) (wrapCells true)) = _
    rw [h1]; rfl
  show optC (consO (result1 EL T' s' (.cell 4 26)) (some [])) CR.fail (fun l => CR.ret (tupled l) s' false) = _
  rw [this]; rfl
theorem pwB_ok (A : List Nat) : PW (pwB A) [1] 3 A := by
  have n1 : (pwA A).next = 2 := rfl
  have n2 : (((pwA A).new zB).put 2 (aB [1])).next = 3 := rfl
  refine ⟨rfl, Nat.le_refl 3, show 3 < 4 by decide, ?_, ?_, ?_⟩
  · unfold pwB
    rw [get_put, if_neg (by decide), get_new_ne (by rw [n2]; decide), get_put, if_neg (by decide), get_new_ne (by rw [n1]; decide)]
    exact get_new_eq (s0.new (aB A)) zB
  · unfold pwB
    rw [get_put, if_neg (by decide), get_new_ne (by rw [n2]; decide), get_put, if_pos rfl]; rfl
  · unfold pwB
    rw [get_put, if_pos rfl]; rfl
theorem power_run {a n N : Nat} (ha : 0 < a) (hb : a ^ n < BB ^ 40) (ha40 : a < BB ^ 40) (hn : n < 100000) (hN : 7001 + n ≤ N) : runE EL N 260 [intV (a : Int), nI n] = some (intV ((a ^ n : Nat) : Int)) := by
  obtain ⟨N, rfl⟩ : ∃ k, N = k + 1 := ⟨N - 1, by omega⟩
  rw [intV_nat ha, intV_nat (Nat.pow_pos ha)]
  have h1 : (recN EL (N + 1)).call 328 [] (pwA (limbs a)) = .ret (AI [1]) (pwA (limbs a)) false := by
    obtain ⟨n0, rfl⟩ : ∃ n0, N = n0 + 1 + 20 := ⟨N - 21, by omega⟩
    exact call_of m328 o328 fa_nil (one_run n0) _
  obtain ⟨s2, b', x', tl', c1, c2⟩ := pw_loop (a := AI (limbs a)) (m := bodyM false none) hb n 1 a 3 undef (pwTl (limbs a)) (pwB (limbs a)) (N + 1) hn (by omega) (by decide) ha (Nat.one_mul _) ha40 (pwB_ok (limbs a))
  obtain ⟨T', a1, a2, he⟩ := pw_all (limbs a) (limbs (a ^ n)) n 0 b' undef tl' (bodyM false none) s2 _ (recN EL (N + 1)) h1 c1 (ld_ai c2.g2) (st_ai c2.lo c2.g1)
  have hd := run_cell f260_at f260_body f260_res he (by rw [← take_nth 7 4 T' (by decide), a2]; rfl) (by rw [get_put, if_pos rfl])
  unfold runE
  rw [hd]; rfl
end
end Go.AM.E15
end
section
set_option maxRecDepth 100000
namespace Go.AM.E15
open Go Go.Proofs
noncomputable section
abbrev AS (a : Nat) : V := .agg [.bool false, .lsl [nI a] 1 false]
theorem intV_as {a : Nat} (h : 0 < a) (h' : a < BB) : intV (a : Int) = AS a := intV_pos (x := (a : Int)) (by omega) (by have : a < 1000000000 := h'; omega)
def poC (a n : Nat) (P : List Nat) : List Con := [(261, [AS n], none, .tup [nI n, okV0]), (260, [AS a, nI n], none, AI P)]
def poE (a n : Nat) (P : List Nat) : List EQ := [.eq (.bool (eqI (Int.ofNat a) 0)) (.bool false), .eq (.bool (!leI 0 (Int.ofNat a))) (.bool false), .eq (.bool (leI 1000000000 (Int.ofNat a))) (.bool false), .eq (.bool (eqI (Int.ofNat n) 0)) (.bool false), .eq (.bool (!leI 0 (Int.ofNat n))) (.bool false), .eq (.bool (leI 1000000000 (Int.ofNat n))) (.bool false), .eq (.bool (eqI (Int.ofNat a) 1)) (.bool false), .eq (.bool (!leI (Int.ofNat (len P)) 40)) (.bool false)]
def poZ : ZJ := [vj 43 0, vj 24 1, vj 2 2, vj 45 3, vj 24 4, vj 2 5, vj 39 6, cj 4 0, cj 19 1, vj 5 7]
theorem po_w (a n : Nat) (P : List Nat) (he : ∀ q ∈ poE a n P, q.Holds) (n0 : Nat) (hc : ∀ n', n0 ≤ n' → ∀ cc ∈ poC a n P, ∀ ss, okS cc.2.2.1 ss → (recN EL n').call cc.1 cc.2.1 ss = .ret cc.2.2.2 ss false) :
    hypJ (poC a n P) [] (poE a n P) poZ (runE EL (n0 + 1 + 100) 163 [AS a, AS n] = some (.tup [AI P, okV0])) := by
  refine cast ?_ (inl_run (E := EL) (cs := poC a n P) (ds := []) (es := poE a n P) fa_nil he (n0 := n0) hc 100 163 [AS a, AS n] poZ)
  kernel_rfl
def pzC (a : Nat) : List Con := [(261, [zV], none, .tup [nI 0, okV0]), (260, [AS a, nI 0], none, AI [1])]
def pzE (a : Nat) : List EQ := [.eq (.bool (eqI (Int.ofNat a) 0)) (.bool false), .eq (.bool (!leI 0 (Int.ofNat a))) (.bool false), .eq (.bool (leI 1000000000 (Int.ofNat a))) (.bool false), .eq (.bool (eqI (Int.ofNat a) 1)) (.bool false)]
def pzZ : ZJ := [vj 43 0, vj 24 1, vj 2 2, vj 89 3, cj 4 0, cj 19 1]
theorem pz_w (a : Nat) (he : ∀ q ∈ pzE a, q.Holds) (n0 : Nat) (hc : ∀ n', n0 ≤ n' → ∀ cc ∈ pzC a, ∀ ss, okS cc.2.2.1 ss → (recN EL n').call cc.1 cc.2.1 ss = .ret cc.2.2.2 ss false) :
    hypJ (pzC a) [] (pzE a) pzZ (runE EL (n0 + 1 + 100) 163 [AS a, zV] = some (.tup [AI [1], okV0])) := by
  refine cast ?_ (inl_run (E := EL) (cs := pzC a) (ds := []) (es := pzE a) fa_nil he (n0 := n0) hc 100 163 [AS a, zV] pzZ)
  kernel_rfl
theorem m261 : EL.mode 261 = .E := by kernel_rfl
theorem o261 : EL.ov 261 = none := by kernel_rfl
theorem pow_run {a n N Nt : Nat} (ha : 2 ≤ a) (ha' : a < BB) (hn : n < 90000) (hb : a ^ n < BB ^ 40) (hti : ∀ N, Nt ≤ N → runE EL N 261 [intV (n : Int)] = some (.tup [nI n, okV0])) (hN : 200000 + Nt ≤ N) :
    runE EL N 163 [intV (a : Int), intV (n : Int)] = some (.tup [intV ((a ^ n : Nat) : Int), okV0]) := by
  obtain ⟨n0, rfl⟩ : ∃ n0, N = n0 + 1 + 100 := ⟨N - 101, by omega⟩
  have ha'' : a < 1000000000 := ha'
  have hP := Nat.pow_pos (n := n) (show 0 < a by omega)
  have ha40 : a < BB ^ 40 := Nat.lt_of_lt_of_le ha' (by rw [show (40 : Nat) = 1 + 39 from rfl, Nat.pow_add, Nat.pow_one]; exact Nat.le_mul_of_pos_right _ (Nat.pow_pos (by decide)))
  have e1 : V.bool (eqI (Int.ofNat a) 0) = .bool false := eq0F (by omega)
  have e2 : V.bool (!leI 0 (Int.ofNat a)) = .bool false := nleF (a := 0) (Nat.zero_le _)
  have e3 : V.bool (leI 1000000000 (Int.ofNat a)) = .bool false := leF' (a := 1000000000) ha''
  have e7 : V.bool (eqI (Int.ofNat a) 1) = .bool false := beqF (by show ¬ ((a : Int) = 1); omega)
  rw [intV_as (by omega) ha', intV_nat hP]
  rcases Nat.eq_zero_or_pos n with h0 | h0
  · subst h0
    have he : ∀ q ∈ pzE a, q.Holds := fa_cons e1 <| fa_cons e2 <| fa_cons e3 <| fa_cons e7 fa_nil
    refine hypJ_ok he pzZ (by rfl) (pz_w a he n0 ?_)
    intro n' hn'
    obtain ⟨k, rfl⟩ : ∃ k, n' = k + 1 := ⟨n' - 1, by omega⟩
    refine fa_cons (fun ss _ => call_of m261 o261 (fa_cons (fun h => ⟨rfl, rfl⟩) fa_nil) (hti k (by omega)) ss) <| fa_cons (fun ss _ => call_of m260 o260 (fa_cons (fun h => ⟨rfl, rfl⟩) <| fa_cons (plain_nI _) fa_nil) ?_ ss) fa_nil
    have := power_run (N := k) (show 0 < a by omega) hb ha40 (by omega) (by omega)
    rw [intV_as (by omega) ha', intV_nat hP] at this
    exact this
  · have hn' : n < BB := by show n < 1000000000; omega
    have he : ∀ q ∈ poE a n (limbs (a ^ n)), q.Holds := fa_cons e1 <| fa_cons e2 <| fa_cons e3 <| fa_cons (eq0F (by omega)) <| fa_cons (nleF (a := 0) (Nat.zero_le _)) <| fa_cons (leF' (a := 1000000000) (by omega)) <| fa_cons e7 <|
      fa_cons (nleF (b := 40) (by rw [len_eq]; exact limbs_len 40 _ hb)) fa_nil
    rw [intV_as h0 hn']
    refine hypJ_ok he poZ (by rfl) (po_w a n (limbs (a ^ n)) he n0 ?_)
    intro n' hn'
    obtain ⟨k, rfl⟩ : ∃ k, n' = k + 1 := ⟨n' - 1, by omega⟩
    refine fa_cons (fun ss _ => call_of m261 o261 (fa_cons (fun h => ⟨rfl, rfl⟩) fa_nil) ?_ ss) <| fa_cons (fun ss _ => call_of m260 o260 (fa_cons (fun h => ⟨rfl, rfl⟩) <| fa_cons (plain_nI _) fa_nil) ?_ ss) fa_nil
    · have := hti k (by omega)
      rw [intV_as h0 (by show n < 1000000000; omega)] at this
      exact this
    · have := power_run (N := k) (show 0 < a by omega) hb ha40 (by omega) (by omega)
      rw [intV_as (by omega) ha', intV_nat hP] at this
      exact this
end
end Go.AM.E15
end
section
set_option maxRecDepth 100000
namespace Go.AM.E15
open Go Go.Proofs
noncomputable section
def szT (L : List Nat) (u2 u3 q : V) (tl : Nat → V) : List V := app [LSV L, LSV L, u2, u3, .int .i64 0, q] (restT tl 35 6)
theorem neqF (x : Nat) : V.bool (!eqI (Int.ofNat x) (Int.ofNat x)) = .bool false := bneF rfl
theorem sz_end {L : List Nat} {m : M} {s : S} {u2 u3 : V} (tl : Nat → V) (N : Nat) (hN : 25 ≤ N) : ∃ tl', exec (.loop szAK) EL (recN EL N) (szT L u2 u3 (.int .i64 (-1)) tl) m s = .exit 0 (szT L u2 u3 (.int .i64 (-1)) tl') m s := by
  obtain ⟨n0, rfl⟩ : ∃ n0, N = n0 + 1 + 20 := ⟨N - 21, by omega⟩
  have eN : n0 + 1 + 20 = n0 + 20 + 1 := by omega
  obtain ⟨T', a1, a2, he⟩ := szC L 0 0 u2 u3 s tl m fa_nil (n0 := n0) (fun _ _ cc hcc => by cases hcc)
  obtain ⟨tl', hT⟩ := T_form 6 T' _ 35 a1 a2
  refine ⟨tl', ?_⟩
  change exec szAK EL (recN EL (n0 + 1 + 20)) (szT L u2 u3 (.int .i64 (-1)) tl) m s = _ at he
  rw [eN] at he ⊢
  rw [loop_eq, he, thenK_exit, hT]; rfl
theorem sz_loop {L : List Nat} {m : M} {s : S} {u2 u3 : V} (hl : L.length < 100000) : ∀ (i : Nat) (tl : Nat → V) (N : Nat), i < L.length → i + 40 ≤ N → ∃ tl', exec (.loop szAK) EL (recN EL N) (szT L u2 u3 (nI i) tl) m s = .exit 0 (szT L u2 u3 (.int .i64 (-1)) tl') m s := by
  intro i
  induction i with
  | zero =>
    intro tl N hi hN
    obtain ⟨n0, rfl⟩ : ∃ n0, N = n0 + 1 + 20 := ⟨N - 21, by omega⟩
    have eN : n0 + 1 + 20 = n0 + 20 + 1 := by omega
    have hx : L[0]? = some L[0] := List.getElem?_eq_getElem hi
    generalize L[0] = x at hx
    obtain ⟨T', a1, a2, he⟩ := szB L 0 x u2 u3 s tl m (by
      intro q hq
      simp only [szBE, List.mem_cons, List.not_mem_nil, or_false] at hq
      rcases hq with rfl | rfl | rfl | rfl | rfl
      all_goals first | exact leT' (Nat.le_refl 0) | exact neqF x | exact wi64 (by decide) (by decide) (by decide) | exact pIdx_lit24 (by rw [len_eq]; exact hi) | exact pLoad_lit hx) (n0 := n0) (fun _ _ cc hcc => by cases hcc)
    obtain ⟨tl', hT⟩ := T_form 6 T' _ 35 a1 a2
    obtain ⟨tl2, b1⟩ := sz_end (L := L) (m := m) (s := s) (u2 := u2) (u3 := u3) tl' (n0 + 20) (by omega)
    refine ⟨tl2, ?_⟩
    change exec szAK EL (recN EL (n0 + 1 + 20)) (szT L u2 u3 (nI 0) tl) m s = _ at he
    rw [eN] at he ⊢
    rw [loop_eq, he, thenK_norm, hT]; exact b1
  | succ i ih =>
    intro tl N hi hN
    obtain ⟨n0, rfl⟩ : ∃ n0, N = n0 + 1 + 20 := ⟨N - 21, by omega⟩
    have eN : n0 + 1 + 20 = n0 + 20 + 1 := by omega
    have hx : L[i + 1]? = some L[i + 1] := List.getElem?_eq_getElem hi
    generalize L[i + 1] = x at hx
    obtain ⟨T', a1, a2, he⟩ := szA L i x u2 u3 s tl m (by
      intro q hq
      simp only [szAE, List.mem_cons, List.not_mem_nil, or_false] at hq
      rcases hq with rfl | rfl | rfl | rfl | rfl
      all_goals first | exact leT' (a := 0) (Nat.zero_le _) | exact neqF x | exact (wi64 (a := Int.ofNat (i + 1) - 1) (b := Int.ofNat i) (show ((i + 1 : Nat) : Int) - 1 = (i : Int) by omega) (by show (-9223372036854775808 : Int) ≤ (i : Int); omega) (by show (i : Int) ≤ 9223372036854775807; omega)) | exact pIdx_lit24 (by rw [len_eq]; exact hi) | exact pLoad_lit hx) (n0 := n0) (fun _ _ cc hcc => by cases hcc)
    obtain ⟨tl', hT⟩ := T_form 6 T' _ 35 a1 a2
    obtain ⟨tl2, b1⟩ := ih tl' (n0 + 20) (by omega) (by omega)
    refine ⟨tl2, ?_⟩
    change exec szAK EL (recN EL (n0 + 1 + 20)) (szT L u2 u3 (nI (i + 1)) tl) m s = _ at he
    rw [eN] at he ⊢
    rw [loop_eq, he, thenK_norm, hT]; exact b1
def szTl (L : List Nat) (i : Nat) : V := boolC (memL [6, 8, 16] i) (boolC (memL [7, 9, 17] i) (boolC (Nat.beq i 10) (boolC (Nat.beq i 18) undef (nI (len L - 1))) (.bool false)) (nI (len L))) (LSV L)
theorem sz_all (L : List Nat) (u2 u3 q : V) (tl' : Nat → V) (m : M) (s : S) (rc : Rec) :
    (!eqI (Int.ofNat (len L)) (Int.ofNat (len L))) = false → wrap .i64 (Int.ofNat (len L) - 1) = Int.ofNat (len L - 1) → exec (.loop szAK) EL rc (szT L undef undef (nI (len L - 1)) (szTl L)) m s = .exit 0 (szT L u2 u3 q tl') m s →
    ∃ T', len T' = 41 ∧ takeB 6 T' = [LSV L, LSV L, u2, u3, .int .i64 0, q] ∧ exec (bodyOf Tryz.f94) EL rc (frame0 Tryz.f94 [LSV L, LSV L]) m s = .ret T' m s := by
  refine cast ?_ (codeN 6 rc (bodyOf Tryz.f94) (frame0 Tryz.f94 [LSV L, LSV L]) m s [(5, .bl false), (2, .nat (len L - 1)), (1, .lp (.exit 0 (szT L u2 u3 q tl') m s))])
  kernel_rfl
theorem f94_at : EL.fn 94 = some Tryz.f94 := by kernel_rfl
theorem f94_body : Tryz.f94.body = some (bodyOf Tryz.f94) := by kernel_rfl
theorem f94_res : Tryz.f94.results.toList = [.tmp 4] := by kernel_rfl
theorem m94 : EL.mode 94 = .E := by kernel_rfl
theorem o94 : EL.ov 94 = none := by kernel_rfl
theorem sz_run {L : List Nat} {N : Nat} (h0 : L ≠ []) (hl : L.length ≤ 1000) (hN : 2000 ≤ N) : runE EL N 94 [LSV L, LSV L] = some (nI 0) := by
  have hpos : 0 < L.length := List.length_pos_iff.2 h0
  obtain ⟨tl', b1⟩ := sz_loop (L := L) (m := bodyM false none) (s := s0) (u2 := undef) (u3 := undef) (by omega) (len L - 1) (szTl L) N (by rw [len_eq]; omega) (by rw [len_eq]; omega)
  obtain ⟨T', a1, a2, he⟩ := sz_all L undef undef _ tl' (bodyM false none) s0 (recN EL N) (by have := neqF (len L); injection this) (by have := subN (a := len L) (by rw [len_eq]; exact hpos) (by rw [len_eq]; omega); injection this) b1
  have hd : doBody EL (recN EL N) 94 [LSV L, LSV L] false none s0 = .ret (nI 0) s0 false :=
    run_ret f94_at f94_body f94_res he (by rw [← take_nth 6 4 T' (by decide), a2]; rfl)
  unfold runE
  rw [hd]; rfl
end
end Go.AM.E15
end
section
set_option maxRecDepth 100000
namespace Go.AM.E15
open Go Go.Proofs
noncomputable section
def ciC (L : List Nat) : List Con := [(94, [LSV L, LSV L], none, nI 0)]
def ciZ : ZJ := [cj 14 0]
theorem ci_w (L : List Nat) (n0 : Nat) (hc : ∀ n', n0 ≤ n' → ∀ cc ∈ ciC L, ∀ ss, okS cc.2.2.1 ss → (recN EL n').call cc.1 cc.2.1 ss = .ret cc.2.2.2 ss false) :
    hypJ (ciC L) [] [] ciZ (runE EL (n0 + 1 + 100) 68 [AI L, AI L] = some (.int .i64 0)) := by
  refine cast ?_ (inl_run (E := EL) (cs := ciC L) (ds := []) (es := []) fa_nil fa_nil (n0 := n0) hc 100 68 [AI L, AI L] ciZ)
  kernel_rfl
theorem ciz_w (n0 : Nat) : runE EL (n0 + 1 + 100) 68 [zV, zV] = some (.int .i64 0) := by
  refine cast ?_ (inl_run (E := EL) (cs := []) (ds := []) (es := []) fa_nil fa_nil (n0 := n0) (fun _ _ cc hcc => by cases hcc) 100 68 [zV, zV] [])
  kernel_rfl
theorem ci_run {x N : Nat} (hx : x < BB ^ 40) (hN : 3000 ≤ N) : runE EL N 68 [intV (x : Int), intV (x : Int)] = some (.int .i64 0) := by
  obtain ⟨n0, rfl⟩ : ∃ n0, N = n0 + 1 + 100 := ⟨N - 101, by omega⟩
  rcases Nat.eq_zero_or_pos x with h | h
  · subst h; exact ciz_w n0
  · rw [intV_nat h]
    refine hypJ_ok fa_nil ciZ (by rfl) (ci_w (limbs x) n0 ?_)
    intro n' hn'
    obtain ⟨k, rfl⟩ : ∃ k, n' = k + 1 := ⟨n' - 1, by omega⟩
    exact fa_cons (fun ss _ => call_of m94 o94 (fa_cons (plain_lsl _ _) <| fa_cons (plain_lsl _ _) fa_nil) (sz_run (limbs_ne h) (by have := limbs_len 40 x hx; omega) (by omega)) ss) fa_nil
end
end Go.AM.E15
end
section
set_option maxRecDepth 100000
namespace Go.AM.E15
open Go Go.Proofs
noncomputable section
noncomputable def rtAK : Code := (unL (unB (sr (sl (sr (sr (bodyOf Tryz.f33)))))))
noncomputable def rtAC (L : List Nat) (y i x z dl : Nat) (u2 u3 u7 u8 u9 : V) (s s1 s2 : S) : List Con := []
noncomputable def rtAE (L : List Nat) (y i x z dl : Nat) (u2 u3 u7 u8 u9 : V) (s s1 s2 : S) : List EQ := [.eq (.bool (!leI (Int.ofNat (len L)) (Int.ofNat i))) (.bool true), .eq (.int .i64 (wrap .i64 (((Int.ofNat i)) + (0)))) (.int .i64 (Int.ofNat i)), .eq (.int .i64 (wrap .i64 (((Int.ofNat x)) * ((Int.ofNat y))))) (.int .i64 (Int.ofNat (x * y))), .eq (.int .i64 (wrap .i64 (((Int.ofNat z)) + ((Int.ofNat (x * y)))))) (.int .i64 (Int.ofNat (z + (x * y)))), .eq (.int .i64 (wrap .i64 (((Int.ofNat (z + (x * y)))) + (0)))) (.int .i64 (Int.ofNat (z + (x * y)))), .eq (.int .i64 (Int.tmod ((Int.ofNat (z + (x * y)))) (1000000000))) (.int .i64 (Int.ofNat ((z + (x * y)) % 1000000000))), .eq (.int .i64 (wrap .i64 (Int.tdiv ((Int.ofNat (z + (x * y)))) (1000000000)))) (.int .i64 (Int.ofNat ((z + (x * y)) / 1000000000))), .eq (.int .i64 (wrap .i64 (((Int.ofNat i)) + (1)))) (.int .i64 (Int.ofNat (i + 1))), .eq (.int .i64 (wrap .i64 ((0) + ((Int.ofNat ((z + (x * y)) / 1000000000)))))) (.int .i64 (Int.ofNat ((z + (x * y)) / 1000000000))), .pr (pIdx 24 (.sl 0 0 dl 1 (some dl)) (i) (.ptr 0 (0 + i * 1)) s), .pr (pLoad 3 (.ptr 0 (0 + i * 1)) (intI z) s), .pr (pIdx 24 (.lsl (cellsL L) (len L) false) (i) (.lptr (dropN (i * 1) (cellsL L))) s), .pr (pLoad 3 (.lptr (dropN (i * 1) (cellsL L))) (intI x) s), .pr (pStore 3 (.ptr 0 (0 + i * 1)) [.int .i64 (Int.ofNat ((z + (x * y)) % 1000000000))] s s1), .pr (pIdx 24 (.sl 0 0 dl 1 (some dl)) (i + 1) (.ptr 0 (0 + (i + 1) * 1)) s1), .pr (pLoad 3 (.ptr 0 (0 + (i + 1) * 1)) (.int .i64 0) s1), .pr (pStore 3 (.ptr 0 (0 + (i + 1) * 1)) [.int .i64 (Int.ofNat ((z + (x * y)) / 1000000000))] s1 s2)]
noncomputable def rtAZ (L : List Nat) (y i x z dl : Nat) (u2 u3 u7 u8 u9 : V) (s s1 s2 : S) : ZJ := [vj 3 0, vj 9 1, (0, .pre 9 ((.ptr 0 (0 + i * 1))) s), (0, .pre 10 (intI z) s), (2, .pre 11 (.lptr (dropN (i * 1) (cellsL L))) s), (0, .pre 12 (intI x) s), vj 4 2, vj 0 3, vj 1 4, vj 4 1, vj 1 5, (0, .pre 9 ((.ptr 0 (0 + i * 1))) s), (0, .pre 13 (undef) s1), vj 1 6, vj 12 7, vj 4 7, (0, .pre 14 ((.ptr 0 (0 + (i + 1) * 1))) s1), (0, .pre 15 (.int .i64 0) s1), vj 1 8, (0, .pre 14 ((.ptr 0 (0 + (i + 1) * 1))) s1), (0, .pre 16 (undef) s2), vj 1 7]
theorem rtA (L : List Nat) (y i x z dl : Nat) (u2 u3 u7 u8 u9 : V) (s s1 s2 : S) (tl : Nat → V) (m : M) (he : ∀ q ∈ rtAE L y i x z dl u2 u3 u7 u8 u9 s s1 s2, q.Holds) {n0 : Nat} (hc : ∀ n', n0 ≤ n' → ∀ cc ∈ rtAC L y i x z dl u2 u3 u7 u8 u9 s s1 s2, ∀ ss, okS cc.2.2.1 ss → (recN EL n').call cc.1 cc.2.1 ss = .ret cc.2.2.2 ss false) : ∃ T', len T' = 73 ∧ takeB 10 T' = [(.lsl (cellsL L) (len L) false), (.lsl [.int .i64 (Int.ofNat y)] 1 false), u2, u3, .nils, (.sl 0 0 dl 1 (some dl)), .int .i64 (Int.ofNat (i + 1)), .int .i64 (Int.ofNat ((z + (x * y)) / 1000000000)), .int .i64 1, .int .i64 (Int.ofNat (z + (x * y)))] ∧ exec rtAK EL (recN EL (n0 + 1 + 20)) (app [(.lsl (cellsL L) (len L) false), (.lsl [.int .i64 (Int.ofNat y)] 1 false), u2, u3, .nils, (.sl 0 0 dl 1 (some dl)), .int .i64 (Int.ofNat i), u7, u8, u9] (restT tl 63 10)) m s = .norm T' m s2 := by
  refine hypJ_ok (cs := rtAC L y i x z dl u2 u3 u7 u8 u9 s s1 s2) (ds := []) he (rtAZ L y i x z dl u2 u3 u7 u8 u9 s s1 s2) (by rfl) (cast ?_ (code_ex (E := EL) (cs := rtAC L y i x z dl u2 u3 u7 u8 u9 s s1 s2) (ds := []) (es := rtAE L y i x z dl u2 u3 u7 u8 u9 s s1 s2) fa_nil he (n0 := n0) hc 20 10 rtAK (app [(.lsl (cellsL L) (len L) false), (.lsl [.int .i64 (Int.ofNat y)] 1 false), u2, u3, .nils, (.sl 0 0 dl 1 (some dl)), .int .i64 (Int.ofNat i), u7, u8, u9] (restT tl 63 10)) m s (rtAZ L y i x z dl u2 u3 u7 u8 u9 s s1 s2)))
  kernel_rfl
noncomputable def rtXK : Code := (unL (unB (sr (sl (sr (sr (bodyOf Tryz.f33)))))))
noncomputable def rtXC (L : List Nat) (y i x z dl : Nat) (u2 u3 u7 u8 u9 : V) (s s1 s2 : S) : List Con := []
noncomputable def rtXE (L : List Nat) (y i x z dl : Nat) (u2 u3 u7 u8 u9 : V) (s s1 s2 : S) : List EQ := [.eq (.bool (!leI (Int.ofNat (len L)) (Int.ofNat i))) (.bool false)]
noncomputable def rtXZ (L : List Nat) (y i x z dl : Nat) (u2 u3 u7 u8 u9 : V) (s s1 s2 : S) : ZJ := [vj 3 0]
theorem rtX (L : List Nat) (y i x z dl : Nat) (u2 u3 u7 u8 u9 : V) (s s1 s2 : S) (tl : Nat → V) (m : M) (he : ∀ q ∈ rtXE L y i x z dl u2 u3 u7 u8 u9 s s1 s2, q.Holds) {n0 : Nat} (hc : ∀ n', n0 ≤ n' → ∀ cc ∈ rtXC L y i x z dl u2 u3 u7 u8 u9 s s1 s2, ∀ ss, okS cc.2.2.1 ss → (recN EL n').call cc.1 cc.2.1 ss = .ret cc.2.2.2 ss false) : ∃ T', len T' = 73 ∧ takeB 10 T' = [(.lsl (cellsL L) (len L) false), (.lsl [.int .i64 (Int.ofNat y)] 1 false), u2, u3, .nils, (.sl 0 0 dl 1 (some dl)), .int .i64 (Int.ofNat i), u7, u8, u9] ∧ exec rtXK EL (recN EL (n0 + 1 + 20)) (app [(.lsl (cellsL L) (len L) false), (.lsl [.int .i64 (Int.ofNat y)] 1 false), u2, u3, .nils, (.sl 0 0 dl 1 (some dl)), .int .i64 (Int.ofNat i), u7, u8, u9] (restT tl 63 10)) m s = .exit 0 T' m s := by
  refine hypJ_ok (cs := rtXC L y i x z dl u2 u3 u7 u8 u9 s s1 s2) (ds := []) he (rtXZ L y i x z dl u2 u3 u7 u8 u9 s s1 s2) (by rfl) (cast ?_ (code_ex (E := EL) (cs := rtXC L y i x z dl u2 u3 u7 u8 u9 s s1 s2) (ds := []) (es := rtXE L y i x z dl u2 u3 u7 u8 u9 s s1 s2) fa_nil he (n0 := n0) hc 20 10 rtXK (app [(.lsl (cellsL L) (len L) false), (.lsl [.int .i64 (Int.ofNat y)] 1 false), u2, u3, .nils, (.sl 0 0 dl 1 (some dl)), .int .i64 (Int.ofNat i), u7, u8, u9] (restT tl 63 10)) m s (rtXZ L y i x z dl u2 u3 u7 u8 u9 s s1 s2)))
  kernel_rfl
noncomputable def shPK : Code := (sr (sr (sr (bodyOf Tryz.f36))))
noncomputable def shPC (L L2 : List Nat) (j : Nat) (u1 u2 u4 : V) (s s1 : S) : List Con := []
noncomputable def shPE (L L2 : List Nat) (j : Nat) (u1 u2 u4 : V) (s s1 : S) : List EQ := [.pr (pSlice 24 (.lsl (cellsL L) (len L) false) (j) (.lsl (cellsL L2) (len L2) false) s), .pr (pApp 24 24 .nils (.lsl (cellsL L2) (len L2) false) (.sl s.next 0 (len L2) 1 none) s s1)]
noncomputable def shPZ (L L2 : List Nat) (j : Nat) (u1 u2 u4 : V) (s s1 : S) : ZJ := [(4, .pre 0 ((.lsl (cellsL L2) (len L2) false)) s), (0, .pre 1 ((.sl s.next 0 (len L2) 1 none)) s1)]
theorem shP (L L2 : List Nat) (j : Nat) (u1 u2 u4 : V) (s s1 : S) (tl : Nat → V) (m : M) (he : ∀ q ∈ shPE L L2 j u1 u2 u4 s s1, q.Holds) {n0 : Nat} (hc : ∀ n', n0 ≤ n' → ∀ cc ∈ shPC L L2 j u1 u2 u4 s s1, ∀ ss, okS cc.2.2.1 ss → (recN EL n').call cc.1 cc.2.1 ss = .ret cc.2.2.2 ss false) : ∃ T', len T' = 25 ∧ takeB 5 T' = [(.lsl (cellsL L) (len L) false), u1, (.sl s.next 0 (len L2) 1 none), .int .i64 (Int.ofNat j), (.sl s.next 0 (len L2) 1 none)] ∧ exec shPK EL (recN EL (n0 + 1 + 20)) (app [(.lsl (cellsL L) (len L) false), u1, u2, .int .i64 (Int.ofNat j), u4] (restT tl 20 5)) m s = .ret T' m s1 := by
  refine hypJ_ok (cs := shPC L L2 j u1 u2 u4 s s1) (ds := []) he (shPZ L L2 j u1 u2 u4 s s1) (by rfl) (cast ?_ (code_ex (E := EL) (cs := shPC L L2 j u1 u2 u4 s s1) (ds := []) (es := shPE L L2 j u1 u2 u4 s s1) fa_nil he (n0 := n0) hc 20 5 shPK (app [(.lsl (cellsL L) (len L) false), u1, u2, .int .i64 (Int.ofNat j), u4] (restT tl 20 5)) m s (shPZ L L2 j u1 u2 u4 s s1)))
  kernel_rfl
noncomputable def rtBK : Code := (sl (sr (bodyOf Tryz.f33)))
noncomputable def rtBC (L : List Nat) (y : Nat) (u2 u3 u5 u6 u7 u8 u9 : V) (s s1 : S) : List Con := []
noncomputable def rtBE (L : List Nat) (y : Nat) (u2 u3 u5 u6 u7 u8 u9 : V) (s s1 : S) : List EQ := [.eq (.int .i64 (wrap .i64 (((Int.ofNat (len L))) + (1)))) (.int .i64 (Int.ofNat (len L + 1))), .eq (.int .i64 (wrap .i64 (((Int.ofNat (len L + 1))) + (1)))) (.int .i64 (Int.ofNat (len L + 1 + 1))), .pr (pMake 24 (len L + 1 + 1) (len L + 1 + 1) (.sl 0 0 (len L + 1 + 1) 1 (some (len L + 1 + 1))) s s1)]
noncomputable def rtBZ (L : List Nat) (y : Nat) (u2 u3 u5 u6 u7 u8 u9 : V) (s s1 : S) : ZJ := [vj 4 0, vj 0 1, (0, .pre 2 ((.sl 0 0 (len L + 1 + 1) 1 (some (len L + 1 + 1)))) s1)]
theorem rtB (L : List Nat) (y : Nat) (u2 u3 u5 u6 u7 u8 u9 : V) (s s1 : S) (tl : Nat → V) (m : M) (he : ∀ q ∈ rtBE L y u2 u3 u5 u6 u7 u8 u9 s s1, q.Holds) {n0 : Nat} (hc : ∀ n', n0 ≤ n' → ∀ cc ∈ rtBC L y u2 u3 u5 u6 u7 u8 u9 s s1, ∀ ss, okS cc.2.2.1 ss → (recN EL n').call cc.1 cc.2.1 ss = .ret cc.2.2.2 ss false) : ∃ T', len T' = 73 ∧ takeB 10 T' = [(.lsl (cellsL L) (len L) false), (.lsl [.int .i64 (Int.ofNat y)] 1 false), u2, u3, .nils, (.sl 0 0 (len L + 1 + 1) 1 (some (len L + 1 + 1))), u6, u7, u8, u9] ∧ exec rtBK EL (recN EL (n0 + 1 + 20)) (app [(.lsl (cellsL L) (len L) false), (.lsl [.int .i64 (Int.ofNat y)] 1 false), u2, u3, .nils, u5, u6, u7, u8, u9] (restT tl 63 10)) m s = .norm T' m s1 := by
  refine hypJ_ok (cs := rtBC L y u2 u3 u5 u6 u7 u8 u9 s s1) (ds := []) he (rtBZ L y u2 u3 u5 u6 u7 u8 u9 s s1) (by rfl) (cast ?_ (code_ex (E := EL) (cs := rtBC L y u2 u3 u5 u6 u7 u8 u9 s s1) (ds := []) (es := rtBE L y u2 u3 u5 u6 u7 u8 u9 s s1) fa_nil he (n0 := n0) hc 20 10 rtBK (app [(.lsl (cellsL L) (len L) false), (.lsl [.int .i64 (Int.ofNat y)] 1 false), u2, u3, .nils, u5, u6, u7, u8, u9] (restT tl 63 10)) m s (rtBZ L y u2 u3 u5 u6 u7 u8 u9 s s1)))
  kernel_rfl
end
end Go.AM.E15
end
section
set_option maxRecDepth 100000
namespace Go.AM.E15
open Go Go.Proofs
noncomputable section
theorem pSlice24 {L : List Nat} {j : Nat} {s : S} (hj : j ≤ L.length) : pSlice 24 (LSV L) j (LSV (L.take j)) s := by
  unfold pSlice
  rw [ti24, bind_some']
  have e : ∀ E : Env, sliceK E s (.slice 3) (LSV L) none (some j) none = bind (E.ti 3) fun te => slice te.size (LSV L) none (some j) none := fun E => rfl
  show ret1 (sliceK EL s (.slice 3) (LSV L) none (some j) none) s = _
  rw [e, ti3, bind_some']
  show ret1 (boolC (boolC (Nat.ble 0 j) false (boolC (Nat.ble j (len L)) false (Nat.ble (len L) (len L)))) none
    (some (V.lsl (takeB ((j - 0) * 1) (dropN (0 * 1) (cellsL L))) (j - 0) (boolC false false (Nat.beq j (len L)))))) s = _
  rw [len_eq]
  have h1 : Nat.ble 0 j = true := by rw [Nat.ble_eq]; omega
  have h2 : Nat.ble j L.length = true := by rw [Nat.ble_eq]; omega
  have h3 : Nat.ble L.length L.length = true := by rw [Nat.ble_eq]; omega
  rw [h1, h2, h3]
  show some (V.lsl (takeB ((j - 0) * 1) (cellsL L)) (j - 0) false, s) = _
  rw [Nat.sub_zero, Nat.mul_one, takeB_eq, cellsL_eq]
  show _ = some (V.lsl (cellsL (L.take j)) (len (L.take j)) false, s)
  rw [cellsL_eq, List.map_take, len_eq, List.length_take, Nat.min_eq_left hj]
theorem app_nils24 {L : List Nat} {s : S} (h0 : L ≠ []) (hl : L.length < 100000) : pApp 24 24 .nils (LSV L) (.sl s.next 0 (len L) 1 none) s (s.new (.cells true 4 (cellsL L))) := by
  unfold pApp bAppend
  rw [elT24, bind_some', ti24, bind_some', elE24]
  show append s 4 1 8 .nils (LSV L) = _
  unfold append
  show natC (len L) (some (V.nils, s)) (fun m' => boolC (Nat.ble (0 + (m' + 1)) maxInt && Nat.ble ((0 + (m' + 1)) * 8) room) none (bind (boolC (Nat.beq (len (cellsL L)) (len L * 1)) none (some (cellsL L))) fun new => appendTo s 4 1 .nils (m' + 1) new)) = _
  have hpos : 0 < L.length := List.length_pos_iff.2 h0
  obtain ⟨k, hk⟩ : ∃ k, len L = k + 1 := ⟨len L - 1, by rw [len_eq]; omega⟩
  have hk' : L.length = k + 1 := by rw [← len_eq]; exact hk
  have e1 : Nat.beq (len (cellsL L)) (len L * 1) = true := by
    rw [cellsL_eq, len_eq, List.length_map, len_eq, Nat.mul_one]; exact Nat.beq_refl _
  rw [e1, hk]
  show boolC (Nat.ble (0 + (k + 1)) maxInt && Nat.ble ((0 + (k + 1)) * 8) room) none (appendTo s 4 1 .nils (k + 1) (cellsL L)) = _
  have h1 : Nat.ble (0 + (k + 1)) maxInt = true := by rw [Nat.ble_eq]; unfold maxInt; omega
  have h2 : Nat.ble ((0 + (k + 1)) * 8) room = true := by rw [Nat.ble_eq]; unfold room; omega
  rw [h1, h2]; rfl
def shT (L : List Nat) (j : Nat) (u1 u2 u4 : V) (tl : Nat → V) : List V := app [LSV L, u1, u2, nI j, u4] (restT tl 20 5)
theorem sh_loop {L : List Nat} {m : M} {s : S} {u1 u2 u4 : V} (hp : Prp L) (hl : L.length < 100000) : ∀ (j : Nat) (tl : Nat → V) (N : Nat), j ≤ L.length → j + 40 ≤ N → 0 < val (L.take j) →
    ∃ j' tl', exec (.loop shAK) EL (recN EL N) (shT L j u1 u2 u4 tl) m s = .exit 0 (shT L j' u1 u2 u4 tl') m s ∧ j' ≤ L.length ∧ Can (L.take j') ∧ val (L.take j') = val (L.take j) := by
  intro j
  induction j with
  | zero => intro tl N _ _ hv; simp [val] at hv
  | succ j ih =>
    intro tl N hj hN hv
    obtain ⟨n0, rfl⟩ : ∃ n0, N = n0 + 1 + 20 := ⟨N - 21, by omega⟩
    have eN : n0 + 1 + 20 = n0 + 20 + 1 := by omega
    have hx : L[j]? = some L[j] := List.getElem?_eq_getElem hj
    have htk : L.take (j + 1) = L.take j ++ [L[j]] := by rw [List.take_add_one, hx]; rfl
    generalize L[j] = x at hx htk
    by_cases hx0 : x = 0
    · subst hx0
      obtain ⟨T', a1, a2, he⟩ := shA L j 0 u1 u2 u4 s tl m (fa_cons (nleT (b := 0) (Nat.succ_pos j)) <| fa_cons (subN (a := j + 1) (Nat.succ_pos j) (by omega)) <| fa_cons (pIdx_lit24 (by rw [len_eq]; omega)) <| fa_cons (pLoad_lit hx) fa_nil) (n0 := n0) (fun _ _ cc hcc => by cases hcc)
      obtain ⟨tl', hT⟩ := T_form 5 T' _ 20 a1 a2
      have hv0 : val (L.take (j + 1)) = val (L.take j) := by rw [htk, val_app]; simp [val]
      obtain ⟨j', tl2, b1, b2, b3, b4⟩ := ih tl' (n0 + 20) (by omega) (by omega) (by rw [← hv0]; exact hv)
      refine ⟨j', tl2, ?_, b2, b3, by rw [b4, hv0]⟩
      change exec shAK EL (recN EL (n0 + 1 + 20)) (shT L (j + 1) u1 u2 u4 tl) m s = _ at he
      rw [eN] at he ⊢
      rw [loop_eq, he, thenK_norm, hT]; exact b1
    · obtain ⟨T', a1, a2, he⟩ := shB L j x u1 u2 u4 s tl m (fa_cons (nleT (b := 0) (Nat.succ_pos j)) <| fa_cons (subN (a := j + 1) (Nat.succ_pos j) (by omega)) <| fa_cons (eq0F hx0) <| fa_cons (pIdx_lit24 (by rw [len_eq]; omega)) <| fa_cons (pLoad_lit hx) fa_nil) (n0 := n0) (fun _ _ cc hcc => by cases hcc)
      obtain ⟨tl', hT⟩ := T_form 5 T' _ 20 a1 a2
      refine ⟨j + 1, tl', ?_, hj, ⟨fun d hd => hp d (List.mem_of_mem_take hd), by rw [htk, List.getLast?_append]; simpa using hx0⟩, rfl⟩
      change exec shAK EL (recN EL (n0 + 1 + 20)) (shT L (j + 1) u1 u2 u4 tl) m s = _ at he
      rw [eN] at he ⊢
      rw [loop_eq, he, thenK_exit, hT]; rfl
theorem f36_at : EL.fn 36 = some Tryz.f36 := by kernel_rfl
theorem f36_body : Tryz.f36.body = some (bodyOf Tryz.f36) := by kernel_rfl
theorem f36_res : Tryz.f36.results.toList = [.tmp 2] := by kernel_rfl
def shTl (L : List Nat) (i : Nat) : V := boolC (Nat.beq i 5) (boolC (Nat.beq i 6) undef (nI (len L))) (LSV L)
theorem f36_pre (L : List Nat) (rc : Rec) (m : M) (s : S) : exec (bodyOf Tryz.f36) EL rc (frame0 Tryz.f36 [LSV L]) m s = thenK (blockK 0 (exec (.loop shAK) EL rc (shT L (len L) undef .nils undef (shTl L)) m s)) (exec shPK EL rc) := by kernel_rfl
theorem m36 : EL.mode 36 = .E := by kernel_rfl
theorem o36 : EL.ov 36 = none := by kernel_rfl
theorem rsv_sl {L : List Nat} {h : Tr B} {t : Nat} {o : Bool} (hb : h.get 0 = some (.cells o t (cellsL L))) : rsvN h noBlk deep false (.sl 0 0 (len L) 1 none) = some (LSV L) := by
  show rowOf h (rsvN h noBlk 999 true) 0 0 (len L) 1 = _
  unfold rowOf
  rw [hb]
  show bind (takeN (len L * 1) (cellsL L)) (fun l => bind (rsvL (rsvN h noBlk 999 true) l) fun l => some (V.lsl l (len L) false)) = _
  have e1 : takeN (len L * 1) (cellsL L) = some (cellsL L) := by
    rw [takeN_eq_some, Nat.mul_one, cellsL_eq, len_eq]
    exact ⟨by rw [List.length_map]; exact Nat.le_refl _, by rw [List.take_of_length_le (by rw [List.length_map]; exact Nat.le_refl _)]⟩
  rw [e1, bind_some', cellsL_eq, rsvL_ints (rsvN h noBlk 999 true) (fun _ => rfl), bind_some', ← cellsL_eq]
theorem sh_run {L : List Nat} {N : Nat} (hp : Prp L) (hv : 0 < val L) (hl : L.length ≤ 1000) (hN : 2000 ≤ N) : runE EL N 36 [LSV L] = some (digN (val L)) := by
  obtain ⟨n0, rfl⟩ : ∃ n0, N = n0 + 1 + 20 := ⟨N - 21, by omega⟩
  have htk : L.take L.length = L := List.take_length
  obtain ⟨j', tl', b1, b2, b3, b4⟩ := sh_loop (m := bodyM false none) (s := s0) (u1 := undef) (u2 := .nils) (u4 := undef) hp (by omega) L.length (shTl L) (n0 + 1 + 20) (Nat.le_refl _) (by omega) (by rw [htk]; exact hv)
  rw [htk] at b4
  have hne : L.take j' ≠ [] := fun h => by rw [h] at b4; rw [← b4] at hv; simp [val] at hv
  obtain ⟨T', a1, a2, he⟩ := shP L (L.take j') j' undef .nils undef s0 (s0.new (.cells true 4 (cellsL (L.take j')))) tl' (bodyM false none) (fa_cons (pSlice24 b2) <| fa_cons (app_nils24 hne (by rw [List.length_take]; omega)) fa_nil) (n0 := n0) (fun _ _ cc hcc => by cases hcc)
  have hd : doBody EL (recN EL (n0 + 1 + 20)) 36 [LSV L] false none s0 = .ret (.sl 0 0 (len (L.take j')) 1 none) (s0.new (.cells true 4 (cellsL (L.take j')))) false :=
    run_ret f36_at f36_body f36_res (by rw [f36_pre, len_eq, b1]; exact he) (by rw [← take_nth 5 2 T' (by decide), a2]; rfl)
  unfold runE
  rw [hd]
  show rsvN (s0.new (.cells true 4 (cellsL (L.take j')))).heap noBlk deep false (.sl 0 0 (len (L.take j')) 1 none) = _
  rw [rsv_sl (get_new_eq s0 _), digN_lsl hv, ← b4, ← can_eq b3]
end
end Go.AM.E15
end
section
set_option maxRecDepth 100000
namespace Go.AM.E15
open Go Go.Proofs
noncomputable section
def YS (y : Nat) : V := .lsl [.int .i64 (Int.ofNat y)] 1 false
def OS (n : Nat) : V := .sl 0 0 n 1 (some n)
def rtT (A : List Nat) (y dl i : Nat) (u2 u3 u7 u8 u9 : V) (tl : Nat → V) : List V := app [LSV A, YS y, u2, u3, .nils, OS dl, nI i, u7, u8, u9] (restT tl 63 10)
theorem rep_cells : ∀ n : Nat, repeatL [V.int .i64 0] n = cellsL (List.replicate n 0)
  | 0 => rfl
  | n + 1 => by
    show app [V.int .i64 0] (repeatL [V.int .i64 0] n) = _
    rw [rep_cells n, List.replicate_succ]; rfl
theorem mk_ok {n : Nat} (h : n < 100000) : pMake 24 (n + 1) (n + 1) (OS (n + 1)) s0 (s0.new (.cells true 0 (cellsL (List.replicate (n + 1) 0)))) := by
  unfold pMake
  rw [elT24, bind_some']
  show boolC (Nat.ble (n + 1) (n + 1) && (Nat.ble (n + 1) maxInt && Nat.ble ((n + 1) * 8) room)) none (some (V.sl 0 0 (n + 1) 1 (some (n + 1)), s0.new (.cells true 0 (repeatL [V.int .i64 0] (n + 1))))) = _
  have h1 : Nat.ble (n + 1) (n + 1) = true := by rw [Nat.ble_eq]; omega
  have h2 : Nat.ble (n + 1) maxInt = true := by rw [Nat.ble_eq]; unfold maxInt; omega
  have h3 : Nat.ble ((n + 1) * 8) room = true := by rw [Nat.ble_eq]; unfold room; omega
  rw [h1, h2, h3, rep_cells]; rfl
theorem val_rep : ∀ n : Nat, val (List.replicate n 0) = 0
  | 0 => rfl
  | n + 1 => by rw [List.replicate_succ]; show 0 + BB * val (List.replicate n 0) = 0; rw [val_rep n, Nat.mul_zero]
theorem two_steps {A1 A2 Dv z w q v P xy : Nat} (h1 : A1 + z * P = Dv + v * P) (h2 : A2 + 0 * (P * BB) = A1 + q * (P * BB)) (hw : w = z + xy) (h3 : w = BB * q + v) : A2 = Dv + xy * P := by
  have := val_step (A := A1) (z := z) (w := w) (q := q) (xy := xy) (c := 0) h1 (by rw [hw, Nat.add_zero]) h3
  rw [Nat.add_zero] at this
  omega
theorem rt_loop {A : List Nat} {y : Nat} {m : M} {u2 u3 : V} (hA : Prp A) (hy : y < BB) (hl : A.length < 1000) : ∀ (k i : Nat) (D : List Nat) (u7 u8 u9 : V) (tl : Nat → V) (s : S) (N : Nat), i + k = A.length → 60 + k ≤ N → s.lo = 0 → s.heap.get 0 = some (.cells true 0 (cellsL D)) → Prp D → D.length = A.length + 2 →
    (∀ j, i < j → j < D.length → D[j]? = some 0) →
    ∃ s' D' w7 w8 w9 tl', exec (.loop rtAK) EL (recN EL N) (rtT A y D.length i u2 u3 u7 u8 u9 tl) m s = .exit 0 (rtT A y D.length A.length u2 u3 w7 w8 w9 tl') m s' ∧ s'.lo = 0 ∧ s'.heap.get 0 = some (.cells true 0 (cellsL D')) ∧ Prp D' ∧ D'.length = D.length ∧ val D' = val D + val (A.drop i) * y * BB ^ i := by
  intro k
  induction k with
  | zero =>
    intro i D u7 u8 u9 tl s N hi hN hlo h0 hD hDl hz
    obtain ⟨n0, rfl⟩ : ∃ n0, N = n0 + 1 + 20 := ⟨N - 21, by omega⟩
    have eN : n0 + 1 + 20 = n0 + 20 + 1 := by omega
    have hi' : i = A.length := by omega
    subst hi'
    obtain ⟨T', a1, a2, he⟩ := rtX A y A.length 0 0 D.length u2 u3 u7 u8 u9 s s s tl m (fa_cons (nleF (by rw [len_eq]; exact Nat.le_refl _)) fa_nil) (n0 := n0) (fun _ _ cc hcc => by cases hcc)
    obtain ⟨tl', hT⟩ := T_form 10 T' _ 63 a1 a2
    refine ⟨s, D, u7, u8, u9, tl', ?_, hlo, h0, hD, rfl, by rw [List.drop_of_length_le (Nat.le_refl _)]; simp [val]⟩
    change exec rtAK EL (recN EL (n0 + 1 + 20)) (rtT A y D.length A.length u2 u3 u7 u8 u9 tl) m s = _ at he
    rw [eN] at he ⊢
    rw [loop_eq, he, thenK_exit, hT]; rfl
  | succ k ih =>
    intro i D u7 u8 u9 tl s N hi hN hlo h0 hD hDl hz
    obtain ⟨n0, rfl⟩ : ∃ n0, N = n0 + 1 + 20 := ⟨N - 21, by omega⟩
    have eN : n0 + 1 + 20 = n0 + 20 + 1 := by omega
    have hil : i < A.length := by omega
    have hx : A[i]? = some A[i] := List.getElem?_eq_getElem hil
    generalize A[i] = x at hx
    have hxl : x < BB := hA x (List.mem_of_getElem? hx)
    have hzD : D[i]? = some D[i] := List.getElem?_eq_getElem (by omega)
    generalize D[i] = z at hzD
    have hzl : z < BB := hD z (List.mem_of_getElem? hzD)
    have hzl' : z < 1000000000 := hzl
    have hxy := xy_lt hxl hy
    have g1 : D.length = A.length + 2 := hDl
    have hz1 : D[i + 1]? = some 0 := hz (i + 1) (by omega) (by omega)
    have hw : z + x * y < 9223372036854775808 := by omega
    have hq : (z + x * y) / BB < BB := Nat.div_lt_of_lt_mul (by show z + x * y < 1000000000 * 1000000000; omega)
    have hv : (z + x * y) % BB < BB := Nat.mod_lt _ (by decide)
    have hD1l : (D.set i ((z + x * y) % BB)).length = D.length := List.length_set
    have hD1 : (D.set i ((z + x * y) % BB))[i + 1]? = some 0 := by rw [List.getElem?_set, if_neg (by omega)]; exact hz1
    have hq' : (z + x * y) / 1000000000 < 9223372036854775808 := by have : (z + x * y) / BB < 1000000000 := hq; have e : (z + x * y) / BB = (z + x * y) / 1000000000 := rfl; omega
    have m1 : (s.put 0 (.cells true 0 (cellsL (D.set i ((z + x * y) % BB))))).heap.get 0 = some (.cells true 0 (cellsL (D.set i ((z + x * y) % BB)))) := by rw [get_put, if_pos rfl]
    obtain ⟨T', a1, a2, he⟩ := rtA A y i x z D.length u2 u3 u7 u8 u9 s (s.put 0 (.cells true 0 (cellsL (D.set i ((z + x * y) % BB))))) ((s.put 0 (.cells true 0 (cellsL (D.set i ((z + x * y) % BB))))).put 0 (.cells true 0 (cellsL ((D.set i ((z + x * y) % BB)).set (i + 1) ((z + x * y) / BB))))) tl m
      (fa_cons (nleT (by rw [len_eq]; exact hil)) <| fa_cons (addZ (by omega)) <| fa_cons (mulN (by omega)) <| fa_cons (addN hw) <| fa_cons (addZ hw) <| fa_cons modN <| fa_cons (divN hw) <| fa_cons (add1N (by omega)) <| fa_cons (add0N hq') <|
        fa_cons (pIdx_sl24 (by omega)) <| fa_cons (pLoad_mem h0 hzD) <| fa_cons (pIdx_lit24 (by rw [len_eq]; exact hil)) <| fa_cons (pLoad_lit hx) <| fa_cons (pStore_mem hlo h0 (by omega)) <| fa_cons (pIdx_sl24 (by omega)) <| fa_cons (pLoad_mem m1 hD1) <|
        fa_cons (pStore_mem (s := s.put 0 (.cells true 0 (cellsL (D.set i ((z + x * y) % BB))))) hlo m1 (by rw [hD1l]; omega)) fa_nil) (n0 := n0) (fun _ _ cc hcc => by cases hcc)
    obtain ⟨tl', hT⟩ := T_form 10 T' _ 63 a1 a2
    have hlen : ((D.set i ((z + x * y) % BB)).set (i + 1) ((z + x * y) / BB)).length = D.length := by rw [List.length_set, List.length_set]
    obtain ⟨s', D', w7, w8, w9, tl2, c1, c2, c3, c4, c5, c6⟩ := ih (i + 1) ((D.set i ((z + x * y) % BB)).set (i + 1) ((z + x * y) / BB)) (nI ((z + x * y) / BB)) (.int .i64 1) (nI (z + x * y)) tl' ((s.put 0 (.cells true 0 (cellsL (D.set i ((z + x * y) % BB))))).put 0 (.cells true 0 (cellsL ((D.set i ((z + x * y) % BB)).set (i + 1) ((z + x * y) / BB))))) (n0 + 20) (by omega) (by omega) hlo (by rw [get_put, if_pos rfl]) ((hD.set hv).set hq) (by rw [hlen]; exact hDl)
      (fun j h1 h2 => by rw [hlen] at h2; rw [List.getElem?_set, if_neg (by omega), List.getElem?_set, if_neg (by omega)]; exact hz j (by omega) h2)
    rw [hlen] at c1 c5
    refine ⟨s', D', w7, w8, w9, tl2, ?_, c2, c3, c4, c5, ?_⟩
    · change exec rtAK EL (recN EL (n0 + 1 + 20)) (rtT A y D.length i u2 u3 u7 u8 u9 tl) m s = _ at he
      rw [eN] at he ⊢
      rw [loop_eq, he, thenK_norm, hT]; exact c1
    · have e1 := val_set (v := (z + x * y) % BB) hzD
      have e2 := val_set (v := (z + x * y) / BB) hD1
      rw [Nat.pow_succ] at e2
      have e3 := two_steps e1 e2 rfl (Nat.div_add_mod _ _).symm
      rw [c6, e3, val_drop hx, step_mul, Nat.pow_succ, Nat.add_assoc]
end
end Go.AM.E15
end
section
set_option maxRecDepth 100000
namespace Go.AM.E15
open Go Go.Proofs
noncomputable section
theorem call_slq {f N b t : Nat} {q : Option Nat} {D : List Nat} {v : V} {s : S} {rest : List V} (hm : EL.mode f = .E) (ho : EL.ov f = none) (hr : runE EL N f (LSV D :: rest) = some v) (hp : ∀ a ∈ rest, Plain a) (hlo : s.lo = 0) (hb : s.heap.get b = some (.cells true t (cellsL D))) :
    ∃ s2, (recN EL (N + 1)).call f (.sl b 0 D.length 1 q :: rest) s = .ret v s2 false ∧ s2.lo = 0 ∧ s2.next = s.next ∧ ∀ j, j ≠ b → s2.heap.get j = s.heap.get j := by
  have hrest : rsvL (rsvN s.heap noBlk deep false) rest = some rest ∧ reachL (reachN s.heap deep) rest = [] := by
    clear hr
    induction rest with
    | nil => exact ⟨rfl, rfl⟩
    | cons a r ih =>
      obtain ⟨h1, h2⟩ := ih fun a ha => hp a (List.mem_cons_of_mem _ ha)
      have h3 := hp a (List.mem_cons_self ..) s.heap
      refine ⟨?_, ?_⟩
      · show consO (rsvN s.heap noBlk deep false a) (rsvL (rsvN s.heap noBlk deep false) r) = _
        rw [h3.1, h1]; rfl
      · show app (reachN s.heap deep a) (reachL (reachN s.heap deep) r) = _
        rw [h3.2, h2]; rfl
  have h1 : rsvL (rsvN s.heap noBlk deep false) (.sl b 0 D.length 1 q :: rest) = some (LSV D :: rest) := by
    show consO (rowOf s.heap (rsvN s.heap noBlk 999 true) b 0 D.length 1) (rsvL (rsvN s.heap noBlk deep false) rest) = _
    have : rowOf s.heap (rsvN s.heap noBlk 999 true) b 0 D.length 1 = some (LSV D) := by
      unfold rowOf
      rw [hb]
      show bind (takeN (D.length * 1) (cellsL D)) (fun l => bind (rsvL (rsvN s.heap noBlk 999 true) l) fun l => some (V.lsl l D.length false)) = _
      have e1 : takeN (D.length * 1) (cellsL D) = some (cellsL D) := by
        rw [takeN_eq_some, Nat.mul_one, cellsL_eq]
        exact ⟨by rw [List.length_map]; exact Nat.le_refl _, by rw [List.take_of_length_le (by rw [List.length_map]; exact Nat.le_refl _)]⟩
      rw [e1, bind_some', cellsL_eq, rsvL_ints (rsvN s.heap noBlk 999 true) (fun _ => rfl), bind_some', ← cellsL_eq, ← len_eq]
    rw [this, hrest.1]; rfl
  have h2 : reachL (reachN s.heap deep) (.sl b 0 D.length 1 q :: rest) = [b] := by
    show app (b :: optC (blkCells (s.heap.get b)) [] (reachL (reachN s.heap 999))) (reachL (reachN s.heap deep) rest) = _
    rw [hb, hrest.2]
    show app (b :: reachL (reachN s.heap 999) (cellsL D)) [] = _
    rw [cellsL_eq, reachL_ints (reachN s.heap 999) (fun _ => rfl)]; rfl
  have h3 : (recN EL (N + 1)).call f (.sl b 0 D.length 1 q :: rest) s = frozenE s.heap (.sl b 0 D.length 1 q :: rest) s (.ret v s false) := by
    show doCall EL (recN EL N) f _ s = _
    unfold doCall
    rw [ho]
    show callM EL (recN EL N) f _ s (EL.mode f) = _
    rw [hm]
    show callE EL (recN EL N) f _ s = _
    unfold callE
    rw [h1]
    show frozenE s.heap _ s (backR noBlk s (doBody EL (recN EL N) f (LSV D :: rest) false none s0)) = _
    have hr : outE (doBody EL (recN EL N) f (LSV D :: rest) false none s0) = some v := hr
    cases hd : doBody EL (recN EL N) f (LSV D :: rest) false none s0 with
    | fail => rw [hd] at hr; cases hr
    | pan w s1 rd => rw [hd] at hr; cases hr
    | ret w s1 rd =>
      rw [hd] at hr
      have hr : rsvN s1.heap noBlk deep false w = some v := hr
      have : backR noBlk s (.ret w s1 rd) = .ret v s false := by
        show retV (rsvN s1.heap noBlk deep false w) s = _
        rw [hr]; rfl
      rw [this]
  rw [h3]
  have hf : frozenE s.heap (.sl b 0 D.length 1 q :: rest) s (.ret v s false) = boolC (hasLit v) (.ret v s false) (optC (s.freeze (reachL (reachN s.heap deep) (.sl b 0 D.length 1 q :: rest))) .fail (withS (.ret v s false))) := rfl
  rw [hf, h2]
  cases hasLit v with
  | false => exact ⟨s, rfl, hlo, rfl, fun _ _ => rfl⟩
  | true =>
    refine ⟨{ s with heap := s.heap.set b (.cells false t (cellsL D)) }, ?_, hlo, rfl, fun j hj => ?_⟩
    · have e : unown1 s.lo s.heap b (s.heap.get b) = some (s.heap.set b (.cells false t (cellsL D))) := by
        rw [hb, hlo]
        show boolC (Nat.blt b 0) (some (s.heap.set b (.cells false t (cellsL D)))) none = _
        rw [blt0]; rfl
      show optC (optC (bind (unown1 s.lo s.heap b (s.heap.get b)) fun h => some h) none fun h => some { s with heap := h }) CR.fail (withS (.ret v s false)) = _
      rw [e]; rfl
    · show (Tr.set s.heap b _).get j = _
      rw [Tr.get_set, if_neg hj]
def rtM : Code := sr (sr (bodyOf Tryz.f33))
def rtP : Code := sr (sr (sr (bodyOf Tryz.f33)))
theorem rt_post (A : List Nat) (y dl i : Nat) (u2 u3 u7 u8 u9 R : V) (tl : Nat → V) (m : M) (s s2 : S) (rc : Rec) : rc.call 36 [OS dl] s = .ret R s2 false →
    ∃ T', len T' = 73 ∧ takeB 10 T' = [LSV A, YS y, u2, u3, R, OS dl, nI i, u7, u8, u9] ∧ exec rtP EL rc (rtT A y dl i u2 u3 u7 u8 u9 tl) m s = .ret T' m s2 := by
  refine cast ?_ (codeN 10 rc rtP (rtT A y dl i u2 u3 u7 u8 u9 tl) m s [(1, .cs R s2)])
  kernel_rfl
theorem f33_at : EL.fn 33 = some Tryz.f33 := by kernel_rfl
theorem f33_body : Tryz.f33.body = some (bodyOf Tryz.f33) := by kernel_rfl
theorem f33_res : Tryz.f33.results.toList = [.tmp 4] := by kernel_rfl
theorem f33_pre (A : List Nat) (y : Nat) (rc : Rec) (m : M) : exec (bodyOf Tryz.f33) EL rc (frame0 Tryz.f33 [LSV A, YS y]) m s0 = thenK (exec rtBK EL rc (app [LSV A, YS y, undef, undef, .nils, undef, undef, undef, undef, undef] (restT (fun _ => undef) 63 10)) m s0) (exec rtM EL rc) := by kernel_rfl
theorem f33_mid (A : List Nat) (y dl : Nat) (u2 u3 u6 u7 u8 u9 : V) (tl : Nat → V) (rc : Rec) (m : M) (s : S) : exec rtM EL rc (app [LSV A, YS y, u2, u3, .nils, OS dl, u6, u7, u8, u9] (restT tl 63 10)) m s = thenK (blockK 0 (exec (.loop rtAK) EL rc (rtT A y dl 0 u2 u3 u7 u8 u9 tl) m s)) (exec rtP EL rc) := by kernel_rfl
theorem m33 : EL.mode 33 = .E := by kernel_rfl
theorem o33 : EL.ov 33 = none := by kernel_rfl
theorem rt_run {A : List Nat} {y N : Nat} (hA : Prp A) (hy : y < BB) (hl : A.length ≤ 500) (hv : 0 < val A * y) (hN : 4000 ≤ N) : runE EL N 33 [LSV A, YS y] = some (digN (val A * y)) := by
  obtain ⟨n0, rfl⟩ : ∃ n0, N = n0 + 1 + 20 := ⟨N - 21, by omega⟩
  have hdl : len A + 1 + 1 = (List.replicate (A.length + 1 + 1) 0).length := by rw [List.length_replicate, len_eq]
  obtain ⟨T', a1, a2, he⟩ := rtB A y undef undef undef undef undef undef undef s0 (s0.new (.cells true 0 (cellsL (List.replicate (A.length + 1 + 1) 0)))) (fun _ => undef) (bodyM false none)
    (fa_cons (add1N (by rw [len_eq]; omega)) <| fa_cons (add1N (by rw [len_eq]; omega)) <| fa_cons (by have := mk_ok (n := A.length + 1) (by omega); rw [← len_eq] at this ⊢; exact this) fa_nil) (n0 := n0) (fun _ _ cc hcc => by cases hcc)
  obtain ⟨tl', hT⟩ := T_form 10 T' _ 63 a1 a2
  obtain ⟨s', D', w7, w8, w9, tl2, c1, c2, c3, c4, c5, c6⟩ := rt_loop (m := bodyM false none) (u2 := undef) (u3 := undef) hA hy (by omega) A.length 0 (List.replicate (A.length + 1 + 1) 0) undef undef undef tl' (s0.new (.cells true 0 (cellsL (List.replicate (A.length + 1 + 1) 0)))) (n0 + 1 + 20) (by omega) (by omega) rfl (get_new_eq s0 _)
    (fun d hd => by rw [(List.mem_replicate.1 hd).2]; decide) (by rw [List.length_replicate]) (fun j _ h2 => by rw [List.length_replicate] at h2; rw [List.getElem?_replicate, if_pos h2])
  have hval : val D' = val A * y := by rw [c6, val_rep]; simp
  rw [← hdl] at c1
  have hD'l : D'.length = len A + 1 + 1 := by rw [c5, ← hdl]
  obtain ⟨s2, hcall, _, _, _⟩ := call_slq (q := some (len A + 1 + 1)) (N := n0 + 20) (rest := []) m36 o36 (sh_run c4 (by rw [hval]; exact hv) (by rw [hD'l, len_eq]; omega) (by omega)) (fun a ha => by cases ha) c2 c3
  rw [hD'l] at hcall
  obtain ⟨T2, b1, b2, he2⟩ := rt_post A y (len A + 1 + 1) A.length undef undef w7 w8 w9 _ tl2 (bodyM false none) s' s2 (recN EL (n0 + 1 + 20)) (by
    have eN : n0 + 1 + 20 = n0 + 20 + 1 := by omega
    rw [eN]; exact hcall)
  have hd : doBody EL (recN EL (n0 + 1 + 20)) 33 [LSV A, YS y] false none s0 = .ret (digN (val D')) s2 false :=
    run_ret f33_at f33_body f33_res (by
      rw [f33_pre]
      change exec rtBK EL (recN EL (n0 + 1 + 20)) (app [LSV A, YS y, undef, undef, .nils, undef, undef, undef, undef, undef] (restT (fun _ => undef) 63 10)) (bodyM false none) s0 = _ at he
      rw [he, thenK_norm, hT]
      have e := f33_mid A y (len A + 1 + 1) undef undef undef undef undef undef tl' (recN EL (n0 + 1 + 20)) (bodyM false none) (s0.new (.cells true 0 (cellsL (List.replicate (A.length + 1 + 1) 0))))
      refine Eq.trans e ?_
      rw [c1]; exact he2) (by rw [← take_nth 10 4 T2 (by decide), b2]; rfl)
  unfold runE
  rw [hd, hval]
  show rsvN s2.heap noBlk deep false (digN (val A * y)) = _
  rw [digN_lsl hv]; rfl
end
end Go.AM.E15
end
section
set_option maxRecDepth 100000
namespace Go.AM.E15
open Go Go.Proofs
noncomputable section
abbrev q10 : Code := bodyOf Tryz.f10
def rpPre : Code := .seq (sl q10) (.seq (sl (sr q10)) (.seq (sl (sr (sr q10))) (.seq (sl (sr (sr (sr q10)))) (.seq (sl (sr (sr (sr (sr q10))))) (.seq (sl (sr (sr (sr (sr (sr q10)))))) (.seq (sl (sr (sr (sr (sr (sr (sr q10))))))) (.seq (sl (sr (sr (sr (sr (sr (sr (sr q10)))))))) (sl (sl (sr (sr (sr (sr (sr (sr (sr (sr q10)))))))))))))))))
def rpB : Code := sr (sl (sr (sr (sr (sr (sr (sr (sr (sr q10)))))))))
def rpP : Code := sr (sr (sr (sr (sr (sr (sr (sr (sr q10))))))))
def rpK : Code := unL (unB rpB)
def aY (a : Nat) : B := .cells true 27 [.bool false, YS a]
def rpS (a n : Nat) : S := (((((((s0.new (aY a)).new (aY n)).new (.cells true 27 [.bool false, .nils])).new (aY a)).new (aY n)).new (aY a)).new (aY n)).new (.cells true 0 [.int .i64 1])
def rpE (a n : Nat) : List EQ := [.eq (.bool (eqI (Int.ofNat a) 0)) (.bool false), .eq (.bool (!leI 0 (Int.ofNat a))) (.bool false), .eq (.bool (leI 1000000000 (Int.ofNat a))) (.bool false), .eq (.bool (eqI (Int.ofNat n) 0)) (.bool false), .eq (.bool (!leI 0 (Int.ofNat n))) (.bool false), .eq (.bool (leI 1000000000 (Int.ofNat n))) (.bool false), .eq (.bool (eqI (Int.ofNat a) 1)) (.bool false)]
def rpZ : ZJ := [vj 36 0, vj 11 1, vj 6 2, vj 35 3, vj 11 4, vj 6 5, vj 50 6]
def oddV (n : Nat) : V := .bool (eqI (Int.tmod (Int.ofNat n) 2) 1)
theorem rp_pre (a n : Nat) (m : M) (he : ∀ q ∈ rpE a n, q.Holds) (n0 : Nat) : hypJ [] [] (rpE a n) rpZ (∃ T', len T' = 88 ∧ takeB 10 T' = [AS a, AS n, .ptr 0 0, .ptr 1 0, .ptr 2 0, .int .i64 0, .bool true, oddV n, .sl 7 0 1 1 (some 1), .int .i64 0] ∧ exec rpPre EL (recN EL (n0 + 1 + 20)) (frame0 Tryz.f10 [AS a, AS n]) m s0 = .norm T' m (rpS a n)) := by
  refine cast ?_ (code_ex (E := EL) (cs := []) (ds := []) (es := rpE a n) fa_nil he (n0 := n0) (fun _ _ cc hcc => by cases hcc) 20 10 rpPre (frame0 Tryz.f10 [AS a, AS n]) m s0 rpZ)
  kernel_rfl
def rpT (a n i : Nat) (OUT : V) (tl : Nat → V) : List V := app [AS a, AS n, .ptr 0 0, .ptr 1 0, .ptr 2 0, .int .i64 0, .bool true, oddV n, OUT, nI i] (restT tl 78 10)
theorem rp_rd (a n i : Nat) (OUT : V) (P : List Nat) (tl : Nat → V) (m : M) (s s1 : S) (rc : Rec) :
    ldB (s.heap.get 1) 1 1 false = some (YS n) → rc.call 32 [YS n] s = .ret (nI n) s false → (!leI (Int.ofNat n) (Int.ofNat i)) = true → ldB (s.heap.get 0) 1 1 false = some (YS a) → rc.call 33 [OUT, YS a] s = .ret (LSV P) s1 false → (!leI (Int.ofNat (len P)) 40) = false → wrap .i64 (Int.ofNat i + 1) = Int.ofNat (i + 1) →
    ∃ T', len T' = 88 ∧ takeB 10 T' = [AS a, AS n, .ptr 0 0, .ptr 1 0, .ptr 2 0, .int .i64 0, .bool true, oddV n, LSV P, nI (i + 1)] ∧ exec rpK EL rc (rpT a n i OUT tl) m s = .norm T' m s1 := by
  refine cast ?_ (codeN 10 rc rpK (rpT a n i OUT tl) m s [(2, .ld (YS n)), (0, .cl (nI n)), (0, .bl true), (2, .ld (YS a)), (0, .cs (LSV P) s1), (3, .bl false), (1, .nat (i + 1))])
  kernel_rfl
theorem rp_ex (a n i : Nat) (OUT : V) (tl : Nat → V) (m : M) (s : S) (rc : Rec) :
    ldB (s.heap.get 1) 1 1 false = some (YS n) → rc.call 32 [YS n] s = .ret (nI n) s false → (!leI (Int.ofNat n) (Int.ofNat i)) = false →
    ∃ T', len T' = 88 ∧ takeB 10 T' = [AS a, AS n, .ptr 0 0, .ptr 1 0, .ptr 2 0, .int .i64 0, .bool true, oddV n, OUT, nI i] ∧ exec rpK EL rc (rpT a n i OUT tl) m s = .exit 0 T' m s := by
  refine cast ?_ (codeN 10 rc rpK (rpT a n i OUT tl) m s [(2, .ld (YS n)), (0, .cl (nI n)), (0, .bl false)])
  kernel_rfl
theorem rp_post (a n i : Nat) (P : List Nat) (tl : Nat → V) (m : M) (s s1 s2 : S) (rc : Rec) :
    ldB (s.heap.get 0) 0 1 false = some (.bool false) → rc.call 31 [.bool false, LSV P] s = .ret (.tup [AI P, okV0]) s1 false → storeV s1 2 [.bool false, LSV P] (.ptr 2 0) = some (undef, s2) →
    ∃ T', len T' = 88 ∧ takeB 10 T' = [AS a, AS n, .ptr 0 0, .ptr 1 0, .ptr 2 0, okV0, .bool true, oddV n, LSV P, nI i] ∧ exec rpP EL rc (rpT a n i (LSV P) tl) m s = .ret T' m s2 := by
  refine cast ?_ (codeN 10 rc rpP (rpT a n i (LSV P) tl) m s [(1, .ld (.bool false)), (3, .cs (.tup [AI P, okV0]) s1), (2, .st s2)])
  kernel_rfl
theorem small_w (n : Nat) (s : S) (rc : Rec) : boolC (leI (Int.ofNat n) 2000) 2000 (Int.ofNat n) = Int.ofNat n → ∃ T', len T' = 13 ∧ takeB 3 T' = [YS n, undef, nI n] ∧ exec (bodyOf Tryz.f32) EL rc (frame0 Tryz.f32 [YS n]) (bodyM false none) s = .ret T' (bodyM false none) s := by
  refine cast ?_ (codeN 3 rc (bodyOf Tryz.f32) (frame0 Tryz.f32 [YS n]) (bodyM false none) s [(10, .nat n)])
  kernel_rfl
end
end Go.AM.E15
end
section
set_option maxRecDepth 100000
namespace Go.AM.E15
open Go Go.Proofs
noncomputable section
theorem run_cell2 {f b : Nat} {fn : Func} {c : Code} {args T' : List V} {rc : Rec} {s s' : S} {v w x : V} (hf : EL.fn f = some fn) (hb : fn.body = some c) (hr : fn.results.toList = [.cell 4 26, .tmp 5])
    (h : exec c EL rc (frame0 fn args) (bodyM false none) s = .ret T' (bodyM false none) s') (hv : nth T' 4 = some (.ptr b 0)) (hx : nth T' 5 = some x) (h1 : s'.heap.get b = some (.cells true 27 [v, w])) : doBody EL rc f args false none s = .ret (.tup [.agg [v, w], x]) s' false := by
  unfold doBody
  rw [hf]
  show (optC fn.body .fail fun c => bodyEnd EL rc fn (exec c EL rc (frame0 fn args) (bodyM false none) s)) = _
  rw [hb]
  show bodyEnd EL rc fn (exec c EL rc (frame0 fn args) (bodyM false none) s) = _
  rw [h]
  show optC (resultsL EL T' s' fn.results.toList) CR.fail (fun l => CR.ret (tupled l) s' false) = _
  rw [hr]
  have : result1 EL T' s' (.cell 4 26) = some (.agg [v, w]) := by
    show bind (EL.ti 26) (fun ti => bind (nth T' 4) (load s' ti)) = _
    rw [ti26, bind_some', hv, bind_some']
    show bind (bind (blkCells (s'.heap.get b)) fun c => some (dropN 0 c)) (fun c => bind (takeN 2 c) (wrapCells true)) = _
    rw [h1]; rfl
  show optC (consO (result1 EL T' s' (.cell 4 26)) (consO (nth T' 5) (some []))) CR.fail (fun l => CR.ret (tupled l) s' false) = _
  rw [this, hx]; rfl
theorem call_N {f N : Nat} {args : List V} {s : S} {r : CR} (hm : EL.mode f = .N) (ho : EL.ov f = none) (h : doBody EL (recN EL N) f args false none s = r) : (recN EL (N + 1)).call f args s = r := by
  show doCall EL (recN EL N) f args s = _
  unfold doCall
  rw [ho]
  show callM EL (recN EL N) f args s (EL.mode f) = _
  rw [hm]; exact h
theorem f32_at : EL.fn 32 = some Tryz.f32 := by kernel_rfl
theorem f32_body : Tryz.f32.body = some (bodyOf Tryz.f32) := by kernel_rfl
theorem f32_res : Tryz.f32.results.toList = [.tmp 2] := by kernel_rfl
theorem m32 : EL.mode 32 = .N := by kernel_rfl
theorem o32 : EL.ov 32 = none := by kernel_rfl
theorem small_call {n N : Nat} (hn : n ≤ 2000) (s : S) : (recN EL (N + 1)).call 32 [YS n] s = .ret (nI n) s false := by
  obtain ⟨T', a1, a2, he⟩ := small_w n s (recN EL N) (by
    rw [leI_eq, decide_eq_true (show (Int.ofNat n : Int) ≤ 2000 by show (n : Int) ≤ 2000; omega)]; rfl)
  exact call_N m32 o32 (run_ret f32_at f32_body f32_res he (by rw [← take_nth 3 2 T' (by decide), a2]; rfl))
theorem made_w (P : List Nat) (s s2 : S) (rc : Rec) : rc.call 36 [LSV P] (s.new (.cells true 27 [.bool false, .nils])) = .ret (LSV P) (s.new (.cells true 27 [.bool false, .nils])) false → (!leI (Int.ofNat (len P)) 40) = false → storeV (s.new (.cells true 27 [.bool false, .nils])) 2 [.bool false, LSV P] (.ptr s.next 0) = some (undef, s2) →
    ∃ T', len T' = 21 ∧ takeB 6 T' = [.bool false, LSV P, undef, undef, .ptr s.next 0, okV0] ∧ exec (bodyOf Tryz.f31) EL rc (frame0 Tryz.f31 [.bool false, LSV P]) (bodyM false none) s = .ret T' (bodyM false none) s2 := by
  refine cast ?_ (codeN 6 rc (bodyOf Tryz.f31) (frame0 Tryz.f31 [.bool false, LSV P]) (bodyM false none) s [(3, .cl (LSV P)), (3, .bl false), (5, .st s2)])
  kernel_rfl
theorem f31_at : EL.fn 31 = some Tryz.f31 := by kernel_rfl
theorem f31_body : Tryz.f31.body = some (bodyOf Tryz.f31) := by kernel_rfl
theorem f31_res : Tryz.f31.results.toList = [.cell 4 26, .tmp 5] := by kernel_rfl
theorem m31 : EL.mode 31 = .N := by kernel_rfl
theorem o31 : EL.ov 31 = none := by kernel_rfl
theorem made_call {x N : Nat} (hx : 0 < x) (hx1 : x < BB ^ 40) (hN : 3000 ≤ N) {s : S} (hlo : s.lo = 0) : ∃ s2, (recN EL (N + 1)).call 31 [.bool false, LSV (limbs x)] s = .ret (.tup [AI (limbs x), okV0]) s2 false ∧ s2.lo = 0 ∧ ∀ j, j < s.next → s2.heap.get j = s.heap.get j := by
  obtain ⟨k, rfl⟩ : ∃ k, N = k + 1 := ⟨N - 1, by omega⟩
  have hl := limbs_len 40 x hx1
  have h36 := sh_run (L := limbs x) (N := k) (prp_limbs x) (by rw [val_limbs]; exact hx) (by omega) (by omega)
  rw [val_limbs, ← lsv_limbs hx] at h36
  obtain ⟨T', a1, a2, he⟩ := made_w (limbs x) s _ (recN EL (k + 1)) (call_of m36 o36 (fa_cons (plain_lsl _ _) fa_nil) h36 _) (len40 hx1) (st_next hlo)
  refine ⟨_, call_N m31 o31 (run_cell2 (b := s.next) f31_at f31_body f31_res he (by rw [← take_nth 6 4 T' (by decide), a2]; rfl) (by rw [← take_nth 6 5 T' (by decide), a2]; rfl) (by rw [get_put, if_pos rfl])), hlo, fun j hj => ?_⟩
  rw [get_put, if_neg (by omega), get_new_ne (by omega)]
structure RP (s : S) (a n : Nat) : Prop where
  lo : s.lo = 0
  nx : 3 ≤ s.next
  g0 : s.heap.get 0 = some (aY a)
  g1 : s.heap.get 1 = some (aY n)
  g2 : s.heap.get 2 = some (.cells true 27 [.bool false, .nils])
theorem ld_y {s : S} {b y : Nat} (h : s.heap.get b = some (aY y)) : ldB (s.heap.get b) 1 1 false = some (YS y) := by rw [h]; rfl
theorem rp_loop {a n : Nat} {m : M} {s : S} (ha : 0 < a) (ha' : a < BB) (hn : n ≤ 2000) (hb : a ^ n < BB ^ 40) (h : RP s a n) : ∀ (k i : Nat) (tl : Nat → V) (N : Nat), i + k = n → 5000 + k ≤ N →
    ∃ tl', exec (.loop rpK) EL (recN EL N) (rpT a n i (LSV (limbs (a ^ i))) tl) m s = .exit 0 (rpT a n n (LSV (limbs (a ^ n))) tl') m s := by
  intro k
  induction k with
  | zero =>
    intro i tl N hi hN
    obtain ⟨N, rfl⟩ : ∃ q, N = q + 1 := ⟨N - 1, by omega⟩
    have : i = n := by omega
    subst this
    obtain ⟨T', a1, a2, he⟩ := rp_ex a i i (LSV (limbs (a ^ i))) tl m s (recN EL (N + 1)) (ld_y h.g1) (small_call hn s) (nleF' (Nat.le_refl _))
    obtain ⟨tl', hT⟩ := T_form 10 T' _ 78 a1 a2
    exact ⟨tl', by rw [loop_eq, he, thenK_exit, hT]; rfl⟩
  | succ k ih =>
    intro i tl N hi hN
    obtain ⟨N, rfl⟩ : ∃ q, N = q + 1 := ⟨N - 1, by omega⟩
    have hpi : 0 < a ^ i := Nat.pow_pos ha
    have hle : a ^ (i + 1) ≤ a ^ n := Nat.pow_le_pow_right ha (by omega)
    have hlei : a ^ i ≤ a ^ n := Nat.pow_le_pow_right ha (by omega)
    have hli := limbs_len 40 (a ^ i) (Nat.lt_of_le_of_lt hlei hb)
    have h33 := rt_run (A := limbs (a ^ i)) (y := a) (N := N) (prp_limbs _) ha' (by omega) (by rw [val_limbs]; exact Nat.mul_pos hpi ha) (by omega)
    rw [val_limbs, ← Nat.pow_succ, ← lsv_limbs (Nat.pow_pos ha)] at h33
    obtain ⟨T', a1, a2, he⟩ := rp_rd a n i (LSV (limbs (a ^ i))) (limbs (a ^ (i + 1))) tl m s s (recN EL (N + 1)) (ld_y h.g1) (small_call hn s) (nleT' (by omega)) (ld_y h.g0) (call_of m33 o33 (fa_cons (plain_lsl _ _) <| fa_cons (plain_lsl _ _) fa_nil) h33 s) (len40 (Nat.lt_of_le_of_lt hle hb)) (add1N' (by omega))
    obtain ⟨tl', hT⟩ := T_form 10 T' _ 78 a1 a2
    obtain ⟨tl2, b1⟩ := ih (i + 1) tl' N (by omega) (by omega)
    exact ⟨tl2, by rw [loop_eq, he, thenK_norm, hT]; exact b1⟩
end
end Go.AM.E15
end
section
set_option maxRecDepth 100000
namespace Go.AM.E15
open Go Go.Proofs
noncomputable section
theorem thenK_assoc (r : R) (k1 k2 : List V → M → S → R) : thenK (thenK r k1) k2 = thenK r (fun T m s => thenK (k1 T m s) k2) := by cases r <;> rfl
theorem exec_seq (a b : Code) (E : Env) (rc : Rec) : exec (.seq a b) E rc = fun T m s => thenK (exec a E rc T m s) (exec b E rc) := rfl
theorem split9 (r0 r1 c2 c3 r6 c5 c6 r11 r12 blk P : Code) (E : Env) (rc : Rec) (T : List V) (m : M) (s : S) :
    exec (.seq r0 (.seq r1 (.seq c2 (.seq c3 (.seq r6 (.seq c5 (.seq c6 (.seq r11 (.seq (.seq r12 blk) P))))))))) E rc T m s = thenK (exec (.seq r0 (.seq r1 (.seq c2 (.seq c3 (.seq r6 (.seq c5 (.seq c6 (.seq r11 r12)))))))) E rc T m s) (fun T m s => thenK (exec blk E rc T m s) (exec P E rc)) := by
  simp only [exec_seq, thenK_assoc]
theorem q10_eq : bodyOf Tryz.f10 = .seq (sl q10) (.seq (sl (sr q10)) (.seq (sl (sr (sr q10))) (.seq (sl (sr (sr (sr q10)))) (.seq (sl (sr (sr (sr (sr q10))))) (.seq (sl (sr (sr (sr (sr (sr q10)))))) (.seq (sl (sr (sr (sr (sr (sr (sr q10))))))) (.seq (sl (sr (sr (sr (sr (sr (sr (sr q10)))))))) (.seq (.seq (sl (sl (sr (sr (sr (sr (sr (sr (sr (sr q10)))))))))) rpB) rpP)))))))) := by kernel_rfl
theorem rpB_eq : rpB = .block 0 (.loop rpK) := by kernel_rfl
theorem q10_split (rc : Rec) (T : List V) (m : M) (s : S) : exec (bodyOf Tryz.f10) EL rc T m s = thenK (exec rpPre EL rc T m s) (fun T m s => thenK (exec rpB EL rc T m s) (exec rpP EL rc)) := by
  rw [q10_eq]
  exact split9 _ _ _ _ _ _ _ _ _ _ _ EL rc T m s
theorem blk_eq (rc : Rec) (T : List V) (m : M) (s : S) : exec rpB EL rc T m s = blockK 0 (exec (.loop rpK) EL rc T m s) := by rw [rpB_eq]; rfl
theorem rpS_ok (a n : Nat) : RP (rpS a n) a n ∧ (rpS a n).heap.get 7 = some (.cells true 0 (cellsL [1])) := by
  refine ⟨⟨rfl, show 3 ≤ 8 by decide, ?_, ?_, ?_⟩, ?_⟩
  · unfold rpS
    rw [get_new_ne (show (0 : Nat) ≠ 7 by decide), get_new_ne (show (0 : Nat) ≠ 6 by decide), get_new_ne (show (0 : Nat) ≠ 5 by decide), get_new_ne (show (0 : Nat) ≠ 4 by decide), get_new_ne (show (0 : Nat) ≠ 3 by decide), get_new_ne (show (0 : Nat) ≠ 2 by decide), get_new_ne (show (0 : Nat) ≠ 1 by decide)]
    exact get_new_eq s0 _
  · unfold rpS
    rw [get_new_ne (show (1 : Nat) ≠ 7 by decide), get_new_ne (show (1 : Nat) ≠ 6 by decide), get_new_ne (show (1 : Nat) ≠ 5 by decide), get_new_ne (show (1 : Nat) ≠ 4 by decide), get_new_ne (show (1 : Nat) ≠ 3 by decide), get_new_ne (show (1 : Nat) ≠ 2 by decide)]
    exact get_new_eq (s0.new (aY a)) _
  · unfold rpS
    rw [get_new_ne (show (2 : Nat) ≠ 7 by decide), get_new_ne (show (2 : Nat) ≠ 6 by decide), get_new_ne (show (2 : Nat) ≠ 5 by decide), get_new_ne (show (2 : Nat) ≠ 4 by decide), get_new_ne (show (2 : Nat) ≠ 3 by decide)]
    exact get_new_eq ((s0.new (aY a)).new (aY n)) _
  · exact get_new_eq (((((((s0.new (aY a)).new (aY n)).new (.cells true 27 [.bool false, .nils])).new (aY a)).new (aY n)).new (aY a)).new (aY n)) _
theorem f10_at : EL.fn 10 = some Tryz.f10 := by kernel_rfl
theorem f10_body : Tryz.f10.body = some (bodyOf Tryz.f10) := by kernel_rfl
theorem f10_res : Tryz.f10.results.toList = [.cell 4 26, .tmp 5] := by kernel_rfl
theorem rp_run {a n N : Nat} (ha : 2 ≤ a) (ha' : a < BB) (hn0 : 0 < n) (hn : n ≤ 2000) (hb : a ^ n < BB ^ 40) (hN : 20000 ≤ N) : runE EL N 10 [AS a, AS n] = some (.tup [AI (limbs (a ^ n)), okV0]) := by
  obtain ⟨n0, rfl⟩ : ∃ n0, N = n0 + 1 + 20 := ⟨N - 21, by omega⟩
  have ha'' : a < 1000000000 := ha'
  have hP : 0 < a ^ n := Nat.pow_pos (by omega)
  have he : ∀ q ∈ rpE a n, q.Holds := fa_cons (eq0F (by omega)) <| fa_cons (nleF (a := 0) (Nat.zero_le _)) <| fa_cons (leF' (a := 1000000000) ha'') <| fa_cons (eq0F (by omega)) <| fa_cons (nleF (a := 0) (Nat.zero_le _)) <| fa_cons (leF' (a := 1000000000) (by omega)) <|
    fa_cons (beqF (by show ¬ ((a : Int) = 1); omega)) fa_nil
  obtain ⟨T', a1, a2, hpre⟩ := hypJ_ok he rpZ (by rfl) (rp_pre a n (bodyM false none) he n0)
  obtain ⟨tl, hT⟩ := T_form 10 T' _ 78 a1 a2
  obtain ⟨hS, h7⟩ := rpS_ok a n
  have e21 : n0 + 1 + 20 = n0 + 20 + 1 := by omega
  have h33 := rt_run (A := [1]) (y := a) (N := n0 + 20) (fun d hd => by rw [List.mem_singleton.1 hd]; decide) ha' (by show 1 ≤ 500; omega) (by simp [val]; omega) (by omega)
  have hv1 : val [1] * a = a ^ 1 := by simp [val]
  rw [hv1, ← lsv_limbs (Nat.pow_pos (show 0 < a by omega))] at h33
  obtain ⟨s2, hc, l2, x2, g2⟩ := call_slq (q := some 1) (rest := [YS a]) m33 o33 h33 (fa_cons (plain_lsl _ _) fa_nil) hS.lo h7
  have hS2 : RP s2 a n := ⟨l2, by rw [x2]; exact hS.nx, by rw [g2 0 (by decide)]; exact hS.g0, by rw [g2 1 (by decide)]; exact hS.g1, by rw [g2 2 (by decide)]; exact hS.g2⟩
  have hle : a ^ 1 ≤ a ^ n := Nat.pow_le_pow_right (by omega) hn0
  obtain ⟨T1, b1, b2, hr1⟩ := rp_rd a n 0 (.sl 7 0 1 1 (some 1)) (limbs (a ^ 1)) tl (bodyM false none) (rpS a n) s2 (recN EL (n0 + 20 + 1)) (ld_y hS.g1) (small_call hn _) (nleT' (b := 0) hn0) (ld_y hS.g0) hc (len40 (Nat.lt_of_le_of_lt hle hb)) (add1N' (by omega))
  obtain ⟨tl1, hT1⟩ := T_form 10 T1 _ 78 b1 b2
  obtain ⟨tl2, hl⟩ := rp_loop (m := bodyM false none) (show 0 < a by omega) ha' hn hb hS2 (n - 1) 1 tl1 (n0 + 20) (by omega) (by omega)
  have hloop : exec (.loop rpK) EL (recN EL (n0 + 20 + 1)) (rpT a n 0 (.sl 7 0 1 1 (some 1)) tl) (bodyM false none) (rpS a n) = .exit 0 (rpT a n n (LSV (limbs (a ^ n))) tl2) (bodyM false none) s2 := by
    rw [loop_eq, hr1, thenK_norm, hT1]; exact hl
  obtain ⟨s3, hm, l3, g3⟩ := made_call (N := n0 + 20) hP hb (by omega) hS2.lo
  have hnx := hS2.nx
  obtain ⟨T2, d1, d2, hp⟩ := rp_post a n n (limbs (a ^ n)) tl2 (bodyM false none) s2 s3 _ (recN EL (n0 + 20 + 1)) (by rw [hS2.g0]; rfl) hm (st_ai l3 (by rw [g3 2 (by omega)]; exact hS2.g2))
  have hex : exec (bodyOf Tryz.f10) EL (recN EL (n0 + 20 + 1)) (frame0 Tryz.f10 [AS a, AS n]) (bodyM false none) s0 = .ret T2 (bodyM false none) (s3.put 2 (.cells true 27 [.bool false, LSV (limbs (a ^ n))])) := by
    rw [e21] at hpre
    rw [q10_split, hpre, thenK_norm, hT]
    show thenK (exec rpB EL (recN EL (n0 + 20 + 1)) (rpT a n 0 (.sl 7 0 1 1 (some 1)) tl) (bodyM false none) (rpS a n)) (exec rpP EL (recN EL (n0 + 20 + 1))) = _
    rw [blk_eq, hloop]
    exact hp
  have hd : doBody EL (recN EL (n0 + 1 + 20)) 10 [AS a, AS n] false none s0 = .ret (.tup [AI (limbs (a ^ n)), okV0]) (s3.put 2 (.cells true 27 [.bool false, LSV (limbs (a ^ n))])) false := by
    rw [e21]
    exact run_cell2 (b := 2) f10_at f10_body f10_res hex (by rw [← take_nth 10 4 T2 (by decide), d2]; rfl) (by rw [← take_nth 10 5 T2 (by decide), d2]; rfl) (by rw [get_put, if_pos rfl])
  unfold runE
  rw [hd]; rfl
end
end Go.AM.E15
end
