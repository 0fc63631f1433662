import Derived.KernelRfl
import Derived.Test.YtkkbeakephmkdaaGreatDoorE15Ext
set_option linter.all false
section
set_option maxRecDepth 100000
namespace Go.AM.E15
open Go
noncomputable section
def fnzA  : List V := [.int .i64 0]
def fnzE  : List EQ := []
def fnzZ : ZJ := []
theorem fnze   : ∀ q ∈ fnzE , q.Holds := fa_nil
theorem fnz   (n0 : Nat) : runE EL (n0 + 1 + 100) 265 (fnzA ) = some (.agg [.bool false, .nils]) := by
  refine hypJ_ok (cs := []) (ds := []) (fnze ) fnzZ (by rfl) (cast ?_ (inl_run (E := EL) (cs := []) (ds := []) (es := fnzE ) fa_nil (fnze ) (n0 := n0) (fun _ _ c hc => by cases hc) 100 265 (fnzA ) fnzZ))
  kernel_rfl
def f1zA  : List V := [.int .i64 0]
def f1zE  : List EQ := []
def f1zZ : ZJ := []
theorem f1ze   : ∀ q ∈ f1zE , q.Holds := fa_nil
theorem f1z   (n0 : Nat) : runE EL (n0 + 1 + 100) 11 (f1zA ) = some (.agg [.bool false, .nils]) := by
  refine hypJ_ok (cs := []) (ds := []) (f1ze ) f1zZ (by rfl) (cast ?_ (inl_run (E := EL) (cs := []) (ds := []) (es := f1zE ) fa_nil (f1ze ) (n0 := n0) (fun _ _ c hc => by cases hc) 100 11 (f1zA ) f1zZ))
  kernel_rfl
def vcpA (x : Int) : List V := [.agg [.int .i64 2, .int .i64 0, .bool false, .lsl [.int .i64 (x)] 1 false, .str [], .nils, .nils]]
def vcpE (x : Int) : List EQ := [.eq (.bool (eqI x 0)) (.bool false), .eq (.bool (!leI 0 x)) (.bool false), .eq (.bool (leI 1000000000 x)) (.bool false)]
def vcpZ : ZJ := [vj 172 0, vj 24 1, vj 2 2]
theorem vcpe (x : Int) (hx : 0 < x) (hx' : x < 1000000000) : ∀ q ∈ vcpE x, q.Holds := fa_cons (beqF (by omega)) <| fa_cons (bnleF (by omega)) <| fa_cons (bleF (by omega)) <| fa_nil
theorem vcp (x : Int) (hx : 0 < x) (hx' : x < 1000000000) (n0 : Nat) : runE EL (n0 + 1 + 100) 80 (vcpA x) = some (.int .i64 0) := by
  refine hypJ_ok (cs := []) (ds := []) (vcpe x hx hx') vcpZ (by rfl) (cast ?_ (inl_run (E := EL) (cs := []) (ds := []) (es := vcpE x) fa_nil (vcpe x hx hx') (n0 := n0) (fun _ _ c hc => by cases hc) 100 80 (vcpA x) vcpZ))
  kernel_rfl
def ncnA (x : Int) : List V := [.agg [.bool true, .lsl [.int .i64 (x)] 1 false]]
def ncnE (x : Int) : List EQ := [.eq (.bool (eqI x 0)) (.bool false), .eq (.bool (!leI 0 x)) (.bool false), .eq (.bool (leI 1000000000 x)) (.bool false)]
def ncnZ : ZJ := [vj 24 0, vj 24 1, vj 2 2]
theorem ncne (x : Int) (hx : 0 < x) (hx' : x < 1000000000) : ∀ q ∈ ncnE x, q.Holds := fa_cons (beqF (by omega)) <| fa_cons (bnleF (by omega)) <| fa_cons (bleF (by omega)) <| fa_nil
theorem ncn (x : Int) (hx : 0 < x) (hx' : x < 1000000000) (n0 : Nat) : runE EL (n0 + 1 + 100) 263 (ncnA x) = some (.int .i64 0) := by
  refine hypJ_ok (cs := []) (ds := []) (ncne x hx hx') ncnZ (by rfl) (cast ?_ (inl_run (E := EL) (cs := []) (ds := []) (es := ncnE x) fa_nil (ncne x hx hx') (n0 := n0) (fun _ _ c hc => by cases hc) 100 263 (ncnA x) ncnZ))
  kernel_rfl
def lsnnlA (x y : Int) : List V := [.agg [.bool true, .lsl [.int .i64 (x)] 1 false], .agg [.bool true, .lsl [.int .i64 (y)] 1 false]]
def lsnnlE (x y : Int) : List EQ := [.eq (.agg [.bool true, .lsl [.int .i64 (x)] 1 false]) (.agg [.bool true, .lsl [.int .i64 (x)] 1 false]), .eq (.bool (!eqI y y)) (.bool false), .eq (.bool (!eqI x x)) (.bool false), .eq (.bool (!leI x y)) (.bool false), .eq (.bool (!leI y x)) (.bool true)]
def lsnnlZ : ZJ := [fj 24 2 0, vj 77 1, vj 7 2, vj 6 3, vj 2 4]
theorem lsnnle (x y : Int) (hx : 0 < x) (hx' : x < 1000000000) (hy : 0 < y) (hy' : y < 1000000000) (hl : x < y) : ∀ q ∈ lsnnlE x y, q.Holds := fa_cons (rfl) <| fa_cons (bneF (by omega)) <| fa_cons (bneF (by omega)) <| fa_cons (bnleF (by omega)) <| fa_cons (bnleT (by omega)) <| fa_nil
theorem lsnnl (x y : Int) (hx : 0 < x) (hx' : x < 1000000000) (hy : 0 < y) (hy' : y < 1000000000) (hl : x < y) (n0 : Nat) : runE EL (n0 + 1 + 100) 188 (lsnnlA x y) = some (.bool false) := by
  refine hypJ_ok (cs := []) (ds := []) (lsnnle x y hx hx' hy hy' hl) lsnnlZ (by rfl) (cast ?_ (inl_run (E := EL) (cs := []) (ds := []) (es := lsnnlE x y) fa_nil (lsnnle x y hx hx' hy hy' hl) (n0 := n0) (fun _ _ c hc => by cases hc) 100 188 (lsnnlA x y) lsnnlZ))
  kernel_rfl
def lspzA (x : Int) : List V := [.agg [.bool false, .lsl [.int .i64 (x)] 1 false], .agg [.bool false, .nils]]
def lspzE (x : Int) : List EQ := []
def lspzZ : ZJ := []
theorem lspze (x : Int) (hx : 0 < x) (hx' : x < 1000000000) : ∀ q ∈ lspzE x, q.Holds := fa_nil
theorem lspz (x : Int) (hx : 0 < x) (hx' : x < 1000000000) (n0 : Nat) : runE EL (n0 + 1 + 100) 188 (lspzA x) = some (.bool false) := by
  refine hypJ_ok (cs := []) (ds := []) (lspze x hx hx') lspzZ (by rfl) (cast ?_ (inl_run (E := EL) (cs := []) (ds := []) (es := lspzE x) fa_nil (lspze x hx hx') (n0 := n0) (fun _ _ c hc => by cases hc) 100 188 (lspzA x) lspzZ))
  kernel_rfl
def lsznA (x : Int) : List V := [.agg [.bool false, .nils], .agg [.bool true, .lsl [.int .i64 (x)] 1 false]]
def lsznE (x : Int) : List EQ := []
def lsznZ : ZJ := []
theorem lszne (x : Int) (hx : 0 < x) (hx' : x < 1000000000) : ∀ q ∈ lsznE x, q.Holds := fa_nil
theorem lszn (x : Int) (hx : 0 < x) (hx' : x < 1000000000) (n0 : Nat) : runE EL (n0 + 1 + 100) 188 (lsznA x) = some (.bool false) := by
  refine hypJ_ok (cs := []) (ds := []) (lszne x hx hx') lsznZ (by rfl) (cast ?_ (inl_run (E := EL) (cs := []) (ds := []) (es := lsznE x) fa_nil (lszne x hx hx') (n0 := n0) (fun _ _ c hc => by cases hc) 100 188 (lsznA x) lsznZ))
  kernel_rfl
def sbpnsA (x y : Int) : List V := [.agg [.bool false, .lsl [.int .i64 (x)] 1 false], .agg [.bool true, .lsl [.int .i64 (y)] 1 false]]
def sbpnsE (x y : Int) : List EQ := [.eq (.bool (eqI x 0)) (.bool false), .eq (.bool (!leI 0 x)) (.bool false), .eq (.bool (leI 1000000000 x)) (.bool false), .eq (.bool (eqI y 0)) (.bool false), .eq (.bool (!leI 0 y)) (.bool false), .eq (.bool (leI 1000000000 y)) (.bool false), .eq (.agg [.bool false, .lsl [.int .i64 (x)] 1 false]) (.agg [.bool false, .lsl [.int .i64 (x)] 1 false]), .eq (.agg [.bool false, .lsl [.int .i64 (y)] 1 false]) (.agg [.bool false, .lsl [.int .i64 (y)] 1 false]), .eq (.int .i64 (wrap .i64 (x + y))) (.int .i64 ((x + y))), .eq (.int .i64 (wrap .i64 ((x + y) + 0))) (.int .i64 ((x + y))), .eq (.int .i64 (Int.tmod (x + y) 1000000000)) (.int .i64 ((x + y))), .eq (.int .i64 (wrap .i64 (Int.tdiv (x + y) 1000000000))) (.int .i64 (0)), .eq (.bool (eqI (x + y) 0)) (.bool false)]
def sbpnsZ : ZJ := [vj 50 0, vj 24 1, vj 2 2, vj 45 3, vj 24 4, vj 2 5, vj 90 3, fj 22 0 6, fj 19 4 7, vj 46 8, vj 1 9, vj 3 10, vj 4 11, vj 43 12]
theorem sbpnse (x y : Int) (hx : 0 < x) (hx' : x < 1000000000) (hy : 0 < y) (hy' : y < 1000000000) (hl : x + y < 1000000000) : ∀ q ∈ sbpnsE x y, q.Holds := fa_cons (beqF (by omega)) <| fa_cons (bnleF (by omega)) <| fa_cons (bleF (by omega)) <| fa_cons (beqF (by omega)) <| fa_cons (bnleF (by omega)) <| fa_cons (bleF (by omega)) <| fa_cons (rfl) <| fa_cons (rfl) <| fa_cons (wi64 (by omega) (by omega) (by omega)) <| fa_cons (wi64 (by omega) (by omega) (by omega)) <| fa_cons (vmod (by omega) (by omega) (by omega)) <| fa_cons (wi64 (tdiv_b (by omega) (by omega)) (by omega) (by omega)) <| fa_cons (beqF (by omega)) <| fa_nil
theorem sbpns (x y : Int) (hx : 0 < x) (hx' : x < 1000000000) (hy : 0 < y) (hy' : y < 1000000000) (hl : x + y < 1000000000) (n0 : Nat) : runE EL (n0 + 1 + 100) 159 (sbpnsA x y) = some (.tup [.agg [.bool false, .lsl [.int .i64 ((x + y))] 1 false], .int .i64 0]) := by
  refine hypJ_ok (cs := []) (ds := []) (sbpnse x y hx hx' hy hy' hl) sbpnsZ (by rfl) (cast ?_ (inl_run (E := EL) (cs := []) (ds := []) (es := sbpnsE x y) fa_nil (sbpnse x y hx hx' hy hy' hl) (n0 := n0) (fun _ _ c hc => by cases hc) 100 159 (sbpnsA x y) sbpnsZ))
  kernel_rfl
def sbnnlA (x y : Int) : List V := [.agg [.bool true, .lsl [.int .i64 (x)] 1 false], .agg [.bool true, .lsl [.int .i64 (y)] 1 false]]
def sbnnlE (x y : Int) : List EQ := [.eq (.bool (eqI x 0)) (.bool false), .eq (.bool (!leI 0 x)) (.bool false), .eq (.bool (leI 1000000000 x)) (.bool false), .eq (.bool (eqI y 0)) (.bool false), .eq (.bool (!leI 0 y)) (.bool false), .eq (.bool (leI 1000000000 y)) (.bool false), .eq (.agg [.bool true, .lsl [.int .i64 (x)] 1 false]) (.agg [.bool true, .lsl [.int .i64 (x)] 1 false]), .eq (.agg [.bool false, .lsl [.int .i64 (y)] 1 false]) (.agg [.bool false, .lsl [.int .i64 (y)] 1 false]), .eq (.bool (!eqI x x)) (.bool false), .eq (.bool (!eqI y y)) (.bool false), .eq (.bool (!leI y x)) (.bool true), .eq (.int .i64 (y)) (.int .i64 (y)), .eq (.int .i64 (wrap .i64 (y - x))) (.int .i64 ((y - x))), .eq (.int .i64 (wrap .i64 ((y - x) - 0))) (.int .i64 ((y - x))), .eq (.bool (!leI 0 (y - x))) (.bool false), .eq (.bool (eqI (y - x) 0)) (.bool false)]
def sbnnlZ : ZJ := [vj 50 0, vj 24 1, vj 2 2, vj 45 3, vj 24 4, vj 2 5, vj 90 3, fj 22 0 6, fj 17 2 7, vj 77 8, vj 7 9, vj 6 10, fj 19 4 6, fj 35 3 11, vj 0 12, vj 0 13, vj 3 14, vj 21 15, vj 20 15]
theorem sbnnle (x y : Int) (hx : 0 < x) (hx' : x < 1000000000) (hy : 0 < y) (hy' : y < 1000000000) (hl : x < y) : ∀ q ∈ sbnnlE x y, q.Holds := fa_cons (beqF (by omega)) <| fa_cons (bnleF (by omega)) <| fa_cons (bleF (by omega)) <| fa_cons (beqF (by omega)) <| fa_cons (bnleF (by omega)) <| fa_cons (bleF (by omega)) <| fa_cons (rfl) <| fa_cons (rfl) <| fa_cons (bneF (by omega)) <| fa_cons (bneF (by omega)) <| fa_cons (bnleT (by omega)) <| fa_cons (rfl) <| fa_cons (wi64 (by omega) (by omega) (by omega)) <| fa_cons (wi64 (by omega) (by omega) (by omega)) <| fa_cons (bnleF (by omega)) <| fa_cons (beqF (by omega)) <| fa_nil
theorem sbnnl (x y : Int) (hx : 0 < x) (hx' : x < 1000000000) (hy : 0 < y) (hy' : y < 1000000000) (hl : x < y) (n0 : Nat) : runE EL (n0 + 1 + 100) 159 (sbnnlA x y) = some (.tup [.agg [.bool false, .lsl [.int .i64 ((y - x))] 1 false], .int .i64 0]) := by
  refine hypJ_ok (cs := []) (ds := []) (sbnnle x y hx hx' hy hy' hl) sbnnlZ (by rfl) (cast ?_ (inl_run (E := EL) (cs := []) (ds := []) (es := sbnnlE x y) fa_nil (sbnnle x y hx hx' hy hy' hl) (n0 := n0) (fun _ _ c hc => by cases hc) 100 159 (sbnnlA x y) sbnnlZ))
  kernel_rfl
def adzpA (x : Int) : List V := [.agg [.bool false, .nils], .agg [.bool false, .lsl [.int .i64 (x)] 1 false]]
def adzpE (x : Int) : List EQ := [.eq (.bool (eqI x 0)) (.bool false), .eq (.bool (!leI 0 x)) (.bool false), .eq (.bool (leI 1000000000 x)) (.bool false), .eq (.agg [.bool false, .lsl [.int .i64 (x)] 1 false]) (.agg [.bool false, .lsl [.int .i64 (x)] 1 false]), .eq (.int .i64 (wrap .i64 (0 + x))) (.int .i64 (x)), .eq (.int .i64 (wrap .i64 (x + 0))) (.int .i64 (x)), .eq (.int .i64 (Int.tmod x 1000000000)) (.int .i64 (x)), .eq (.int .i64 (wrap .i64 (Int.tdiv x 1000000000))) (.int .i64 (0))]
def adzpZ : ZJ := [vj 100 0, vj 24 1, vj 2 2, fj 74 4 3, vj 42 4, vj 1 5, vj 3 6, vj 4 7, vj 43 0]
theorem adzpe (x : Int) (hx : 0 < x) (hx' : x < 1000000000) : ∀ q ∈ adzpE x, q.Holds := fa_cons (beqF (by omega)) <| fa_cons (bnleF (by omega)) <| fa_cons (bleF (by omega)) <| fa_cons (rfl) <| fa_cons (wi64 (by omega) (by omega) (by omega)) <| fa_cons (wi64 (by omega) (by omega) (by omega)) <| fa_cons (vmod (by omega) (by omega) (by omega)) <| fa_cons (wi64 (tdiv_b (by omega) (by omega)) (by omega) (by omega)) <| fa_nil
theorem adzp (x : Int) (hx : 0 < x) (hx' : x < 1000000000) (n0 : Nat) : runE EL (n0 + 1 + 100) 158 (adzpA x) = some (.tup [.agg [.bool false, .lsl [.int .i64 (x)] 1 false], .int .i64 0]) := by
  refine hypJ_ok (cs := []) (ds := []) (adzpe x hx hx') adzpZ (by rfl) (cast ?_ (inl_run (E := EL) (cs := []) (ds := []) (es := adzpE x) fa_nil (adzpe x hx hx') (n0 := n0) (fun _ _ c hc => by cases hc) 100 158 (adzpA x) adzpZ))
  kernel_rfl
def adnpeA (x : Int) : List V := [.agg [.bool true, .lsl [.int .i64 (x)] 1 false], .agg [.bool false, .lsl [.int .i64 (x)] 1 false]]
def adnpeE (x : Int) : List EQ := [.eq (.bool (eqI x 0)) (.bool false), .eq (.bool (!leI 0 x)) (.bool false), .eq (.bool (leI 1000000000 x)) (.bool false), .eq (.agg [.bool false, .lsl [.int .i64 (x)] 1 false]) (.agg [.bool false, .lsl [.int .i64 (x)] 1 false]), .eq (.bool (!eqI x x)) (.bool false), .eq (.bool (!leI x x)) (.bool false), .eq (.int .i64 (x)) (.int .i64 (x)), .eq (.int .i64 (wrap .i64 (x - x))) (.int .i64 (0))]
def adnpeZ : ZJ := [vj 50 0, vj 24 1, vj 2 2, vj 45 0, vj 24 1, vj 2 2, fj 72 2 3, vj 77 4, vj 7 4, vj 6 5, vj 2 5, fj 23 4 3, fj 35 3 6, vj 0 7]
theorem adnpee (x : Int) (hx : 0 < x) (hx' : x < 1000000000) : ∀ q ∈ adnpeE x, q.Holds := fa_cons (beqF (by omega)) <| fa_cons (bnleF (by omega)) <| fa_cons (bleF (by omega)) <| fa_cons (rfl) <| fa_cons (bneF (by omega)) <| fa_cons (bnleF (by omega)) <| fa_cons (rfl) <| fa_cons (wi64 (by omega) (by omega) (by omega)) <| fa_nil
theorem adnpe (x : Int) (hx : 0 < x) (hx' : x < 1000000000) (n0 : Nat) : runE EL (n0 + 1 + 100) 158 (adnpeA x) = some (.tup [.agg [.bool false, .nils], .int .i64 0]) := by
  refine hypJ_ok (cs := []) (ds := []) (adnpee x hx hx') adnpeZ (by rfl) (cast ?_ (inl_run (E := EL) (cs := []) (ds := []) (es := adnpeE x) fa_nil (adnpee x hx hx') (n0 := n0) (fun _ _ c hc => by cases hc) 100 158 (adnpeA x) adnpeZ))
  kernel_rfl
def m1pzA (x : Int) : List V := [.agg [.bool false, .lsl [.int .i64 (x)] 1 false], .agg [.bool false, .nils]]
def m1pzE (x : Int) : List EQ := [.eq (.bool (eqI x 0)) (.bool false), .eq (.bool (!leI 0 x)) (.bool false), .eq (.bool (leI 1000000000 x)) (.bool false)]
def m1pzZ : ZJ := [vj 36 0, vj 11 1, vj 6 2]
theorem m1pze (x : Int) (hx : 0 < x) (hx' : x < 1000000000) : ∀ q ∈ m1pzE x, q.Holds := fa_cons (beqF (by omega)) <| fa_cons (bnleF (by omega)) <| fa_cons (bleF (by omega)) <| fa_nil
theorem m1pz (x : Int) (hx : 0 < x) (hx' : x < 1000000000) (n0 : Nat) : runE EL (n0 + 1 + 100) 12 (m1pzA x) = some (.tup [.agg [.bool false, .nils], .int .i64 0]) := by
  refine hypJ_ok (cs := []) (ds := []) (m1pze x hx hx') m1pzZ (by rfl) (cast ?_ (inl_run (E := EL) (cs := []) (ds := []) (es := m1pzE x) fa_nil (m1pze x hx hx') (n0 := n0) (fun _ _ c hc => by cases hc) 100 12 (m1pzA x) m1pzZ))
  kernel_rfl
def sgpA (x : Int) : List V := [.agg [.bool false, .lsl [.int .i64 (x)] 1 false]]
def sgpE (x : Int) : List EQ := []
def sgpZ : ZJ := []
theorem sgpe (x : Int) (hx : 0 < x) (hx' : x < 1000000000) : ∀ q ∈ sgpE x, q.Holds := fa_nil
theorem sgp (x : Int) (hx : 0 < x) (hx' : x < 1000000000) (n0 : Nat) : runE EL (n0 + 1 + 100) 153 (sgpA x) = some (.int .i64 1) := by
  refine hypJ_ok (cs := []) (ds := []) (sgpe x hx hx') sgpZ (by rfl) (cast ?_ (inl_run (E := EL) (cs := []) (ds := []) (es := sgpE x) fa_nil (sgpe x hx hx') (n0 := n0) (fun _ _ c hc => by cases hc) 100 153 (sgpA x) sgpZ))
  kernel_rfl
end
end Go.AM.E15
end
section
set_option maxRecDepth 100000
namespace Go.AM.E15
open Go
noncomputable section
def fnpA (x : Int) : List V := [.int .i64 (x)]
def fnpE (x : Int) : List EQ := [.eq (.int .u64 (wrap .u64 x)) (.int .u64 (x)), .eq (.bool (!leI 0 x)) (.bool false), .eq (.bool (!leI x 0)) (.bool true), .eq (.int .u64 (Int.tmod x 1000000000)) (.int .u64 (x)), .eq (.int .i64 (wrap .i64 x)) (.int .i64 (x)), .eq (.int .u64 (wrap .u64 (Int.tdiv x 1000000000))) (.int .u64 (0)), .eq (.bool (eqI x 0)) (.bool false)]
def fnpZ : ZJ := [vj 2 0, vj 2 1, vj 2 2, vj 2 3, vj 0 4, vj 4 5, vj 4 1, vj 16 6]
theorem fnpe (x : Int) (hx : 0 < x) (hx' : x < 1000000000) : ∀ q ∈ fnpE x, q.Holds := fa_cons (wu64 (by omega) (by omega) (by omega)) <| fa_cons (bnleF (by omega)) <| fa_cons (bnleT (by omega)) <| fa_cons (vmod (by omega) (by omega) (by omega)) <| fa_cons (wi64 (by omega) (by omega) (by omega)) <| fa_cons (wu64 (tdiv_b (by omega) (by omega)) (by omega) (by omega)) <| fa_cons (beqF (by omega)) <| fa_nil
theorem fnp (x : Int) (hx : 0 < x) (hx' : x < 1000000000) (n0 : Nat) : runE EL (n0 + 1 + 100) 265 (fnpA x) = some (.agg [.bool false, .lsl [.int .i64 (x)] 1 false]) := by
  refine hypJ_ok (cs := []) (ds := []) (fnpe x hx hx') fnpZ (by rfl) (cast ?_ (inl_run (E := EL) (cs := []) (ds := []) (es := fnpE x) fa_nil (fnpe x hx hx') (n0 := n0) (fun _ _ c hc => by cases hc) 100 265 (fnpA x) fnpZ))
  kernel_rfl
def f1pA (x : Int) : List V := [.int .i64 (x)]
def f1pE (x : Int) : List EQ := [.eq (.bool (!leI 0 x)) (.bool false), .eq (.bool (!eqI x 0)) (.bool true), .eq (.int .i64 (Int.tmod x 1000000000)) (.int .i64 (x)), .eq (.int .i64 (wrap .i64 (Int.tdiv x 1000000000))) (.int .i64 (0))]
def f1pZ : ZJ := [vj 2 0, vj 3 1, vj 1 2, vj 2 0, vj 6 3]
theorem f1pe (x : Int) (hx : 0 < x) (hx' : x < 1000000000) : ∀ q ∈ f1pE x, q.Holds := fa_cons (bnleF (by omega)) <| fa_cons (bneT (by omega)) <| fa_cons (vmod (by omega) (by omega) (by omega)) <| fa_cons (wi64 (tdiv_b (by omega) (by omega)) (by omega) (by omega)) <| fa_nil
theorem f1p (x : Int) (hx : 0 < x) (hx' : x < 1000000000) (n0 : Nat) : runE EL (n0 + 1 + 100) 11 (f1pA x) = some (.agg [.bool false, .lsl [.int .i64 (x)] 1 false]) := by
  refine hypJ_ok (cs := []) (ds := []) (f1pe x hx hx') f1pZ (by rfl) (cast ?_ (inl_run (E := EL) (cs := []) (ds := []) (es := f1pE x) fa_nil (f1pe x hx hx') (n0 := n0) (fun _ _ c hc => by cases hc) 100 11 (f1pA x) f1pZ))
  kernel_rfl
def vcnA (x : Int) : List V := [.agg [.int .i64 2, .int .i64 0, .bool true, .lsl [.int .i64 (x)] 1 false, .str [], .nils, .nils]]
def vcnE (x : Int) : List EQ := [.eq (.bool (eqI x 0)) (.bool false), .eq (.bool (!leI 0 x)) (.bool false), .eq (.bool (leI 1000000000 x)) (.bool false)]
def vcnZ : ZJ := [vj 167 0, vj 24 1, vj 2 2]
theorem vcne (x : Int) (hx : 0 < x) (hx' : x < 1000000000) : ∀ q ∈ vcnE x, q.Holds := fa_cons (beqF (by omega)) <| fa_cons (bnleF (by omega)) <| fa_cons (bleF (by omega)) <| fa_nil
theorem vcn (x : Int) (hx : 0 < x) (hx' : x < 1000000000) (n0 : Nat) : runE EL (n0 + 1 + 100) 80 (vcnA x) = some (.int .i64 0) := by
  refine hypJ_ok (cs := []) (ds := []) (vcne x hx hx') vcnZ (by rfl) (cast ?_ (inl_run (E := EL) (cs := []) (ds := []) (es := vcnE x) fa_nil (vcne x hx hx') (n0 := n0) (fun _ _ c hc => by cases hc) 100 80 (vcnA x) vcnZ))
  kernel_rfl
def lspplA (x y : Int) : List V := [.agg [.bool false, .lsl [.int .i64 (x)] 1 false], .agg [.bool false, .lsl [.int .i64 (y)] 1 false]]
def lspplE (x y : Int) : List EQ := [.eq (.agg [.bool false, .lsl [.int .i64 (y)] 1 false]) (.agg [.bool false, .lsl [.int .i64 (y)] 1 false]), .eq (.bool (!eqI x x)) (.bool false), .eq (.bool (!eqI y y)) (.bool false), .eq (.bool (!leI y x)) (.bool true)]
def lspplZ : ZJ := [fj 28 2 0, vj 77 1, vj 7 2, vj 6 3]
theorem lspple (x y : Int) (hx : 0 < x) (hx' : x < 1000000000) (hy : 0 < y) (hy' : y < 1000000000) (hl : x < y) : ∀ q ∈ lspplE x y, q.Holds := fa_cons (rfl) <| fa_cons (bneF (by omega)) <| fa_cons (bneF (by omega)) <| fa_cons (bnleT (by omega)) <| fa_nil
theorem lsppl (x y : Int) (hx : 0 < x) (hx' : x < 1000000000) (hy : 0 < y) (hy' : y < 1000000000) (hl : x < y) (n0 : Nat) : runE EL (n0 + 1 + 100) 188 (lspplA x y) = some (.bool true) := by
  refine hypJ_ok (cs := []) (ds := []) (lspple x y hx hx' hy hy' hl) lspplZ (by rfl) (cast ?_ (inl_run (E := EL) (cs := []) (ds := []) (es := lspplE x y) fa_nil (lspple x y hx hx' hy hy' hl) (n0 := n0) (fun _ _ c hc => by cases hc) 100 188 (lspplA x y) lspplZ))
  kernel_rfl
def lsnneA (x : Int) : List V := [.agg [.bool true, .lsl [.int .i64 (x)] 1 false], .agg [.bool true, .lsl [.int .i64 (x)] 1 false]]
def lsnneE (x : Int) : List EQ := [.eq (.agg [.bool true, .lsl [.int .i64 (x)] 1 false]) (.agg [.bool true, .lsl [.int .i64 (x)] 1 false]), .eq (.bool (!eqI x x)) (.bool false), .eq (.bool (!leI x x)) (.bool false)]
def lsnneZ : ZJ := [fj 24 2 0, vj 77 1, vj 7 1, vj 6 2, vj 2 2]
theorem lsnnee (x : Int) (hx : 0 < x) (hx' : x < 1000000000) : ∀ q ∈ lsnneE x, q.Holds := fa_cons (rfl) <| fa_cons (bneF (by omega)) <| fa_cons (bnleF (by omega)) <| fa_nil
theorem lsnne (x : Int) (hx : 0 < x) (hx' : x < 1000000000) (n0 : Nat) : runE EL (n0 + 1 + 100) 188 (lsnneA x) = some (.bool false) := by
  refine hypJ_ok (cs := []) (ds := []) (lsnnee x hx hx') lsnneZ (by rfl) (cast ?_ (inl_run (E := EL) (cs := []) (ds := []) (es := lsnneE x) fa_nil (lsnnee x hx hx') (n0 := n0) (fun _ _ c hc => by cases hc) 100 188 (lsnneA x) lsnneZ))
  kernel_rfl
def lsnpA (x y : Int) : List V := [.agg [.bool true, .lsl [.int .i64 (x)] 1 false], .agg [.bool false, .lsl [.int .i64 (y)] 1 false]]
def lsnpE (x y : Int) : List EQ := []
def lsnpZ : ZJ := []
theorem lsnpe (x y : Int) (hx : 0 < x) (hx' : x < 1000000000) (hy : 0 < y) (hy' : y < 1000000000) : ∀ q ∈ lsnpE x y, q.Holds := fa_nil
theorem lsnp (x y : Int) (hx : 0 < x) (hx' : x < 1000000000) (hy : 0 < y) (hy' : y < 1000000000) (n0 : Nat) : runE EL (n0 + 1 + 100) 188 (lsnpA x y) = some (.bool true) := by
  refine hypJ_ok (cs := []) (ds := []) (lsnpe x y hx hx' hy hy') lsnpZ (by rfl) (cast ?_ (inl_run (E := EL) (cs := []) (ds := []) (es := lsnpE x y) fa_nil (lsnpe x y hx hx' hy hy') (n0 := n0) (fun _ _ c hc => by cases hc) 100 188 (lsnpA x y) lsnpZ))
  kernel_rfl
def lszzA  : List V := [.agg [.bool false, .nils], .agg [.bool false, .nils]]
def lszzE  : List EQ := []
def lszzZ : ZJ := []
theorem lszze   : ∀ q ∈ lszzE , q.Holds := fa_nil
theorem lszz   (n0 : Nat) : runE EL (n0 + 1 + 100) 188 (lszzA ) = some (.bool false) := by
  refine hypJ_ok (cs := []) (ds := []) (lszze ) lszzZ (by rfl) (cast ?_ (inl_run (E := EL) (cs := []) (ds := []) (es := lszzE ) fa_nil (lszze ) (n0 := n0) (fun _ _ c hc => by cases hc) 100 188 (lszzA ) lszzZ))
  kernel_rfl
def sbpzA (x : Int) : List V := [.agg [.bool false, .lsl [.int .i64 (x)] 1 false], .agg [.bool false, .nils]]
def sbpzE (x : Int) : List EQ := [.eq (.bool (eqI x 0)) (.bool false), .eq (.bool (!leI 0 x)) (.bool false), .eq (.bool (leI 1000000000 x)) (.bool false), .eq (.agg [.bool false, .lsl [.int .i64 (x)] 1 false]) (.agg [.bool false, .lsl [.int .i64 (x)] 1 false]), .eq (.int .i64 (wrap .i64 (x + 0))) (.int .i64 (x)), .eq (.int .i64 (Int.tmod x 1000000000)) (.int .i64 (x)), .eq (.int .i64 (wrap .i64 (Int.tdiv x 1000000000))) (.int .i64 (0))]
def sbpzZ : ZJ := [vj 50 0, vj 24 1, vj 2 2, fj 146 0 3, vj 62 4, vj 1 4, vj 3 5, vj 4 6, vj 43 0]
theorem sbpze (x : Int) (hx : 0 < x) (hx' : x < 1000000000) : ∀ q ∈ sbpzE x, q.Holds := fa_cons (beqF (by omega)) <| fa_cons (bnleF (by omega)) <| fa_cons (bleF (by omega)) <| fa_cons (rfl) <| fa_cons (wi64 (by omega) (by omega) (by omega)) <| fa_cons (vmod (by omega) (by omega) (by omega)) <| fa_cons (wi64 (tdiv_b (by omega) (by omega)) (by omega) (by omega)) <| fa_nil
theorem sbpz (x : Int) (hx : 0 < x) (hx' : x < 1000000000) (n0 : Nat) : runE EL (n0 + 1 + 100) 159 (sbpzA x) = some (.tup [.agg [.bool false, .lsl [.int .i64 (x)] 1 false], .int .i64 0]) := by
  refine hypJ_ok (cs := []) (ds := []) (sbpze x hx hx') sbpzZ (by rfl) (cast ?_ (inl_run (E := EL) (cs := []) (ds := []) (es := sbpzE x) fa_nil (sbpze x hx hx') (n0 := n0) (fun _ _ c hc => by cases hc) 100 159 (sbpzA x) sbpzZ))
  kernel_rfl
def sbnneA (x : Int) : List V := [.agg [.bool true, .lsl [.int .i64 (x)] 1 false], .agg [.bool true, .lsl [.int .i64 (x)] 1 false]]
def sbnneE (x : Int) : List EQ := [.eq (.bool (eqI x 0)) (.bool false), .eq (.bool (!leI 0 x)) (.bool false), .eq (.bool (leI 1000000000 x)) (.bool false), .eq (.agg [.bool true, .lsl [.int .i64 (x)] 1 false]) (.agg [.bool true, .lsl [.int .i64 (x)] 1 false]), .eq (.agg [.bool false, .lsl [.int .i64 (x)] 1 false]) (.agg [.bool false, .lsl [.int .i64 (x)] 1 false]), .eq (.bool (!eqI x x)) (.bool false), .eq (.bool (!leI x x)) (.bool false), .eq (.int .i64 (x)) (.int .i64 (x)), .eq (.int .i64 (wrap .i64 (x - x))) (.int .i64 (0))]
def sbnneZ : ZJ := [vj 50 0, vj 24 1, vj 2 2, vj 45 0, vj 24 1, vj 2 2, vj 90 0, fj 22 0 3, fj 17 2 4, vj 77 5, vj 7 5, vj 6 6, vj 2 6, fj 23 4 4, fj 35 3 7, vj 0 8]
theorem sbnnee (x : Int) (hx : 0 < x) (hx' : x < 1000000000) : ∀ q ∈ sbnneE x, q.Holds := fa_cons (beqF (by omega)) <| fa_cons (bnleF (by omega)) <| fa_cons (bleF (by omega)) <| fa_cons (rfl) <| fa_cons (rfl) <| fa_cons (bneF (by omega)) <| fa_cons (bnleF (by omega)) <| fa_cons (rfl) <| fa_cons (wi64 (by omega) (by omega) (by omega)) <| fa_nil
theorem sbnne (x : Int) (hx : 0 < x) (hx' : x < 1000000000) (n0 : Nat) : runE EL (n0 + 1 + 100) 159 (sbnneA x) = some (.tup [.agg [.bool false, .nils], .int .i64 0]) := by
  refine hypJ_ok (cs := []) (ds := []) (sbnnee x hx hx') sbnneZ (by rfl) (cast ?_ (inl_run (E := EL) (cs := []) (ds := []) (es := sbnneE x) fa_nil (sbnnee x hx hx') (n0 := n0) (fun _ _ c hc => by cases hc) 100 159 (sbnneA x) sbnneZ))
  kernel_rfl
def adzzA  : List V := [.agg [.bool false, .nils], .agg [.bool false, .nils]]
def adzzE  : List EQ := []
def adzzZ : ZJ := []
theorem adzze   : ∀ q ∈ adzzE , q.Holds := fa_nil
theorem adzz   (n0 : Nat) : runE EL (n0 + 1 + 100) 158 (adzzA ) = some (.tup [.agg [.bool false, .nils], .int .i64 0]) := by
  refine hypJ_ok (cs := []) (ds := []) (adzze ) adzzZ (by rfl) (cast ?_ (inl_run (E := EL) (cs := []) (ds := []) (es := adzzE ) fa_nil (adzze ) (n0 := n0) (fun _ _ c hc => by cases hc) 100 158 (adzzA ) adzzZ))
  kernel_rfl
def adnplA (x y : Int) : List V := [.agg [.bool true, .lsl [.int .i64 (x)] 1 false], .agg [.bool false, .lsl [.int .i64 (y)] 1 false]]
def adnplE (x y : Int) : List EQ := [.eq (.bool (eqI x 0)) (.bool false), .eq (.bool (!leI 0 x)) (.bool false), .eq (.bool (leI 1000000000 x)) (.bool false), .eq (.bool (eqI y 0)) (.bool false), .eq (.bool (!leI 0 y)) (.bool false), .eq (.bool (leI 1000000000 y)) (.bool false), .eq (.agg [.bool false, .lsl [.int .i64 (y)] 1 false]) (.agg [.bool false, .lsl [.int .i64 (y)] 1 false]), .eq (.bool (!eqI x x)) (.bool false), .eq (.bool (!eqI y y)) (.bool false), .eq (.bool (!leI y x)) (.bool true), .eq (.agg [.bool true, .lsl [.int .i64 (x)] 1 false]) (.agg [.bool true, .lsl [.int .i64 (x)] 1 false]), .eq (.int .i64 (y)) (.int .i64 (y)), .eq (.int .i64 (wrap .i64 (y - x))) (.int .i64 ((y - x))), .eq (.int .i64 (wrap .i64 ((y - x) - 0))) (.int .i64 ((y - x))), .eq (.bool (!leI 0 (y - x))) (.bool false), .eq (.bool (eqI (y - x) 0)) (.bool false)]
def adnplZ : ZJ := [vj 50 0, vj 24 1, vj 2 2, vj 45 3, vj 24 4, vj 2 5, fj 72 2 6, vj 77 7, vj 7 8, vj 6 9, fj 19 4 10, fj 35 3 11, vj 0 12, vj 0 13, vj 3 14, vj 21 15, vj 20 15]
theorem adnple (x y : Int) (hx : 0 < x) (hx' : x < 1000000000) (hy : 0 < y) (hy' : y < 1000000000) (hl : x < y) : ∀ q ∈ adnplE x y, q.Holds := fa_cons (beqF (by omega)) <| fa_cons (bnleF (by omega)) <| fa_cons (bleF (by omega)) <| fa_cons (beqF (by omega)) <| fa_cons (bnleF (by omega)) <| fa_cons (bleF (by omega)) <| fa_cons (rfl) <| fa_cons (bneF (by omega)) <| fa_cons (bneF (by omega)) <| fa_cons (bnleT (by omega)) <| fa_cons (rfl) <| fa_cons (rfl) <| fa_cons (wi64 (by omega) (by omega) (by omega)) <| fa_cons (wi64 (by omega) (by omega) (by omega)) <| fa_cons (bnleF (by omega)) <| fa_cons (beqF (by omega)) <| fa_nil
theorem adnpl (x y : Int) (hx : 0 < x) (hx' : x < 1000000000) (hy : 0 < y) (hy' : y < 1000000000) (hl : x < y) (n0 : Nat) : runE EL (n0 + 1 + 100) 158 (adnplA x y) = some (.tup [.agg [.bool false, .lsl [.int .i64 ((y - x))] 1 false], .int .i64 0]) := by
  refine hypJ_ok (cs := []) (ds := []) (adnple x y hx hx' hy hy' hl) adnplZ (by rfl) (cast ?_ (inl_run (E := EL) (cs := []) (ds := []) (es := adnplE x y) fa_nil (adnple x y hx hx' hy hy' hl) (n0 := n0) (fun _ _ c hc => by cases hc) 100 158 (adnplA x y) adnplZ))
  kernel_rfl
def m1zpA (x : Int) : List V := [.agg [.bool false, .nils], .agg [.bool false, .lsl [.int .i64 (x)] 1 false]]
def m1zpE (x : Int) : List EQ := [.eq (.bool (eqI x 0)) (.bool false), .eq (.bool (!leI 0 x)) (.bool false), .eq (.bool (leI 1000000000 x)) (.bool false)]
def m1zpZ : ZJ := [vj 66 0, vj 11 1, vj 6 2]
theorem m1zpe (x : Int) (hx : 0 < x) (hx' : x < 1000000000) : ∀ q ∈ m1zpE x, q.Holds := fa_cons (beqF (by omega)) <| fa_cons (bnleF (by omega)) <| fa_cons (bleF (by omega)) <| fa_nil
theorem m1zp (x : Int) (hx : 0 < x) (hx' : x < 1000000000) (n0 : Nat) : runE EL (n0 + 1 + 100) 12 (m1zpA x) = some (.tup [.agg [.bool false, .nils], .int .i64 0]) := by
  refine hypJ_ok (cs := []) (ds := []) (m1zpe x hx hx') m1zpZ (by rfl) (cast ?_ (inl_run (E := EL) (cs := []) (ds := []) (es := m1zpE x) fa_nil (m1zpe x hx hx') (n0 := n0) (fun _ _ c hc => by cases hc) 100 12 (m1zpA x) m1zpZ))
  kernel_rfl
end
end Go.AM.E15
end
section
set_option maxRecDepth 100000
namespace Go.AM.E15
open Go
noncomputable section
def f9zA  : List V := [.int .i64 0]
def f9zE  : List EQ := []
def f9zZ : ZJ := []
theorem f9ze   : ∀ q ∈ f9zE , q.Holds := fa_nil
theorem f9z   (n0 : Nat) : runE EL (n0 + 1 + 100) 40 (f9zA ) = some (.agg [.bool false, .nils]) := by
  refine hypJ_ok (cs := []) (ds := []) (f9ze ) f9zZ (by rfl) (cast ?_ (inl_run (E := EL) (cs := []) (ds := []) (es := f9zE ) fa_nil (f9ze ) (n0 := n0) (fun _ _ c hc => by cases hc) 100 40 (f9zA ) f9zZ))
  kernel_rfl
def f9nA (x : Int) : List V := [.int .i64 (x)]
def f9nE (x : Int) : List EQ := [.eq (.bool (!leI 0 x)) (.bool true), .eq (.bool (!eqI x 0)) (.bool true), .eq (.int .i64 (Int.tmod x 1000000000)) (.int .i64 (x)), .eq (.int .i64 (wrap .i64 (0 - x))) (.int .i64 ((0 - x))), .eq (.int .i64 (wrap .i64 (Int.tdiv x 1000000000))) (.int .i64 (0))]
def f9nZ : ZJ := [vj 3 0, vj 3 1, vj 1 2, vj 2 0, vj 1 3, vj 9 4]
theorem f9ne (x : Int) (hx : x < 0) (hx' : -1000000000 < x) : ∀ q ∈ f9nE x, q.Holds := fa_cons (bnleT (by omega)) <| fa_cons (bneT (by omega)) <| fa_cons (vmod (by omega) (by omega) (by omega)) <| fa_cons (wi64 (by omega) (by omega) (by omega)) <| fa_cons (wi64 (tdiv_b (by omega) (by omega)) (by omega) (by omega)) <| fa_nil
theorem f9n (x : Int) (hx : x < 0) (hx' : -1000000000 < x) (n0 : Nat) : runE EL (n0 + 1 + 100) 40 (f9nA x) = some (.agg [.bool true, .lsl [.int .i64 ((0 - x))] 1 false]) := by
  refine hypJ_ok (cs := []) (ds := []) (f9ne x hx hx') f9nZ (by rfl) (cast ?_ (inl_run (E := EL) (cs := []) (ds := []) (es := f9nE x) fa_nil (f9ne x hx hx') (n0 := n0) (fun _ _ c hc => by cases hc) 100 40 (f9nA x) f9nZ))
  kernel_rfl
def nczA  : List V := [.agg [.bool false, .nils]]
def nczE  : List EQ := []
def nczZ : ZJ := []
theorem ncze   : ∀ q ∈ nczE , q.Holds := fa_nil
theorem ncz   (n0 : Nat) : runE EL (n0 + 1 + 100) 263 (nczA ) = some (.int .i64 0) := by
  refine hypJ_ok (cs := []) (ds := []) (ncze ) nczZ (by rfl) (cast ?_ (inl_run (E := EL) (cs := []) (ds := []) (es := nczE ) fa_nil (ncze ) (n0 := n0) (fun _ _ c hc => by cases hc) 100 263 (nczA ) nczZ))
  kernel_rfl
def lsppeA (x : Int) : List V := [.agg [.bool false, .lsl [.int .i64 (x)] 1 false], .agg [.bool false, .lsl [.int .i64 (x)] 1 false]]
def lsppeE (x : Int) : List EQ := [.eq (.agg [.bool false, .lsl [.int .i64 (x)] 1 false]) (.agg [.bool false, .lsl [.int .i64 (x)] 1 false]), .eq (.bool (!eqI x x)) (.bool false), .eq (.bool (!leI x x)) (.bool false)]
def lsppeZ : ZJ := [fj 28 2 0, vj 77 1, vj 7 1, vj 6 2, vj 2 2]
theorem lsppee (x : Int) (hx : 0 < x) (hx' : x < 1000000000) : ∀ q ∈ lsppeE x, q.Holds := fa_cons (rfl) <| fa_cons (bneF (by omega)) <| fa_cons (bnleF (by omega)) <| fa_nil
theorem lsppe (x : Int) (hx : 0 < x) (hx' : x < 1000000000) (n0 : Nat) : runE EL (n0 + 1 + 100) 188 (lsppeA x) = some (.bool false) := by
  refine hypJ_ok (cs := []) (ds := []) (lsppee x hx hx') lsppeZ (by rfl) (cast ?_ (inl_run (E := EL) (cs := []) (ds := []) (es := lsppeE x) fa_nil (lsppee x hx hx') (n0 := n0) (fun _ _ c hc => by cases hc) 100 188 (lsppeA x) lsppeZ))
  kernel_rfl
def lsnngA (x y : Int) : List V := [.agg [.bool true, .lsl [.int .i64 (x)] 1 false], .agg [.bool true, .lsl [.int .i64 (y)] 1 false]]
def lsnngE (x y : Int) : List EQ := [.eq (.agg [.bool true, .lsl [.int .i64 (x)] 1 false]) (.agg [.bool true, .lsl [.int .i64 (x)] 1 false]), .eq (.bool (!eqI y y)) (.bool false), .eq (.bool (!eqI x x)) (.bool false), .eq (.bool (!leI x y)) (.bool true)]
def lsnngZ : ZJ := [fj 24 2 0, vj 77 1, vj 7 2, vj 6 3]
theorem lsnnge (x y : Int) (hx : 0 < x) (hx' : x < 1000000000) (hy : 0 < y) (hy' : y < 1000000000) (hl : y < x) : ∀ q ∈ lsnngE x y, q.Holds := fa_cons (rfl) <| fa_cons (bneF (by omega)) <| fa_cons (bneF (by omega)) <| fa_cons (bnleT (by omega)) <| fa_nil
theorem lsnng (x y : Int) (hx : 0 < x) (hx' : x < 1000000000) (hy : 0 < y) (hy' : y < 1000000000) (hl : y < x) (n0 : Nat) : runE EL (n0 + 1 + 100) 188 (lsnngA x y) = some (.bool true) := by
  refine hypJ_ok (cs := []) (ds := []) (lsnnge x y hx hx' hy hy' hl) lsnngZ (by rfl) (cast ?_ (inl_run (E := EL) (cs := []) (ds := []) (es := lsnngE x y) fa_nil (lsnnge x y hx hx' hy hy' hl) (n0 := n0) (fun _ _ c hc => by cases hc) 100 188 (lsnngA x y) lsnngZ))
  kernel_rfl
def lsnzA (x : Int) : List V := [.agg [.bool true, .lsl [.int .i64 (x)] 1 false], .agg [.bool false, .nils]]
def lsnzE (x : Int) : List EQ := []
def lsnzZ : ZJ := []
theorem lsnze (x : Int) (hx : 0 < x) (hx' : x < 1000000000) : ∀ q ∈ lsnzE x, q.Holds := fa_nil
theorem lsnz (x : Int) (hx : 0 < x) (hx' : x < 1000000000) (n0 : Nat) : runE EL (n0 + 1 + 100) 188 (lsnzA x) = some (.bool true) := by
  refine hypJ_ok (cs := []) (ds := []) (lsnze x hx hx') lsnzZ (by rfl) (cast ?_ (inl_run (E := EL) (cs := []) (ds := []) (es := lsnzE x) fa_nil (lsnze x hx hx') (n0 := n0) (fun _ _ c hc => by cases hc) 100 188 (lsnzA x) lsnzZ))
  kernel_rfl
def sbppgA (x y : Int) : List V := [.agg [.bool false, .lsl [.int .i64 (x)] 1 false], .agg [.bool false, .lsl [.int .i64 (y)] 1 false]]
def sbppgE (x y : Int) : List EQ := [.eq (.bool (eqI x 0)) (.bool false), .eq (.bool (!leI 0 x)) (.bool false), .eq (.bool (leI 1000000000 x)) (.bool false), .eq (.bool (eqI y 0)) (.bool false), .eq (.bool (!leI 0 y)) (.bool false), .eq (.bool (leI 1000000000 y)) (.bool false), .eq (.agg [.bool false, .lsl [.int .i64 (x)] 1 false]) (.agg [.bool false, .lsl [.int .i64 (x)] 1 false]), .eq (.agg [.bool true, .lsl [.int .i64 (y)] 1 false]) (.agg [.bool true, .lsl [.int .i64 (y)] 1 false]), .eq (.bool (!eqI x x)) (.bool false), .eq (.bool (!eqI y y)) (.bool false), .eq (.bool (!leI y x)) (.bool false), .eq (.bool (!leI x y)) (.bool true), .eq (.int .i64 (x)) (.int .i64 (x)), .eq (.int .i64 (wrap .i64 (x - y))) (.int .i64 ((x - y))), .eq (.int .i64 (wrap .i64 ((x - y) - 0))) (.int .i64 ((x - y))), .eq (.bool (!leI 0 (x - y))) (.bool false), .eq (.bool (eqI (x - y) 0)) (.bool false)]
def sbppgZ : ZJ := [vj 50 0, vj 24 1, vj 2 2, vj 45 3, vj 24 4, vj 2 5, vj 90 3, fj 22 0 6, fj 17 2 7, vj 77 8, vj 7 9, vj 6 10, vj 2 11, fj 19 4 7, fj 35 3 12, vj 0 13, vj 0 14, vj 3 15, vj 21 16, vj 20 16]
theorem sbppge (x y : Int) (hx : 0 < x) (hx' : x < 1000000000) (hy : 0 < y) (hy' : y < 1000000000) (hl : y < x) : ∀ q ∈ sbppgE x y, q.Holds := fa_cons (beqF (by omega)) <| fa_cons (bnleF (by omega)) <| fa_cons (bleF (by omega)) <| fa_cons (beqF (by omega)) <| fa_cons (bnleF (by omega)) <| fa_cons (bleF (by omega)) <| fa_cons (rfl) <| fa_cons (rfl) <| fa_cons (bneF (by omega)) <| fa_cons (bneF (by omega)) <| fa_cons (bnleF (by omega)) <| fa_cons (bnleT (by omega)) <| fa_cons (rfl) <| fa_cons (wi64 (by omega) (by omega) (by omega)) <| fa_cons (wi64 (by omega) (by omega) (by omega)) <| fa_cons (bnleF (by omega)) <| fa_cons (beqF (by omega)) <| fa_nil
theorem sbppg (x y : Int) (hx : 0 < x) (hx' : x < 1000000000) (hy : 0 < y) (hy' : y < 1000000000) (hl : y < x) (n0 : Nat) : runE EL (n0 + 1 + 100) 159 (sbppgA x y) = some (.tup [.agg [.bool false, .lsl [.int .i64 ((x - y))] 1 false], .int .i64 0]) := by
  refine hypJ_ok (cs := []) (ds := []) (sbppge x y hx hx' hy hy' hl) sbppgZ (by rfl) (cast ?_ (inl_run (E := EL) (cs := []) (ds := []) (es := sbppgE x y) fa_nil (sbppge x y hx hx' hy hy' hl) (n0 := n0) (fun _ _ c hc => by cases hc) 100 159 (sbppgA x y) sbppgZ))
  kernel_rfl
def sbznA (x : Int) : List V := [.agg [.bool false, .nils], .agg [.bool true, .lsl [.int .i64 (x)] 1 false]]
def sbznE (x : Int) : List EQ := [.eq (.bool (eqI x 0)) (.bool false), .eq (.bool (!leI 0 x)) (.bool false), .eq (.bool (leI 1000000000 x)) (.bool false), .eq (.agg [.bool false, .lsl [.int .i64 (x)] 1 false]) (.agg [.bool false, .lsl [.int .i64 (x)] 1 false]), .eq (.int .i64 (wrap .i64 (0 + x))) (.int .i64 (x)), .eq (.int .i64 (wrap .i64 (x + 0))) (.int .i64 (x)), .eq (.int .i64 (Int.tmod x 1000000000)) (.int .i64 (x)), .eq (.int .i64 (wrap .i64 (Int.tdiv x 1000000000))) (.int .i64 (0))]
def sbznZ : ZJ := [vj 100 0, vj 24 1, vj 2 2, vj 90 0, fj 42 4 3, vj 42 4, vj 1 5, vj 3 6, vj 4 7, vj 43 0]
theorem sbzne (x : Int) (hx : 0 < x) (hx' : x < 1000000000) : ∀ q ∈ sbznE x, q.Holds := fa_cons (beqF (by omega)) <| fa_cons (bnleF (by omega)) <| fa_cons (bleF (by omega)) <| fa_cons (rfl) <| fa_cons (wi64 (by omega) (by omega) (by omega)) <| fa_cons (wi64 (by omega) (by omega) (by omega)) <| fa_cons (vmod (by omega) (by omega) (by omega)) <| fa_cons (wi64 (tdiv_b (by omega) (by omega)) (by omega) (by omega)) <| fa_nil
theorem sbzn (x : Int) (hx : 0 < x) (hx' : x < 1000000000) (n0 : Nat) : runE EL (n0 + 1 + 100) 159 (sbznA x) = some (.tup [.agg [.bool false, .lsl [.int .i64 (x)] 1 false], .int .i64 0]) := by
  refine hypJ_ok (cs := []) (ds := []) (sbzne x hx hx') sbznZ (by rfl) (cast ?_ (inl_run (E := EL) (cs := []) (ds := []) (es := sbznE x) fa_nil (sbzne x hx hx') (n0 := n0) (fun _ _ c hc => by cases hc) 100 159 (sbznA x) sbznZ))
  kernel_rfl
def adppsA (x y : Int) : List V := [.agg [.bool false, .lsl [.int .i64 (x)] 1 false], .agg [.bool false, .lsl [.int .i64 (y)] 1 false]]
def adppsE (x y : Int) : List EQ := [.eq (.bool (eqI x 0)) (.bool false), .eq (.bool (!leI 0 x)) (.bool false), .eq (.bool (leI 1000000000 x)) (.bool false), .eq (.bool (eqI y 0)) (.bool false), .eq (.bool (!leI 0 y)) (.bool false), .eq (.bool (leI 1000000000 y)) (.bool false), .eq (.agg [.bool false, .lsl [.int .i64 (y)] 1 false]) (.agg [.bool false, .lsl [.int .i64 (y)] 1 false]), .eq (.int .i64 (wrap .i64 (x + y))) (.int .i64 ((x + y))), .eq (.int .i64 (wrap .i64 ((x + y) + 0))) (.int .i64 ((x + y))), .eq (.int .i64 (Int.tmod (x + y) 1000000000)) (.int .i64 ((x + y))), .eq (.int .i64 (wrap .i64 (Int.tdiv (x + y) 1000000000))) (.int .i64 (0)), .eq (.bool (eqI (x + y) 0)) (.bool false)]
def adppsZ : ZJ := [vj 50 0, vj 24 1, vj 2 2, vj 45 3, vj 24 4, vj 2 5, fj 74 4 6, vj 46 7, vj 1 8, vj 3 9, vj 4 10, vj 43 11]
theorem adppse (x y : Int) (hx : 0 < x) (hx' : x < 1000000000) (hy : 0 < y) (hy' : y < 1000000000) (hl : x + y < 1000000000) : ∀ q ∈ adppsE x y, q.Holds := fa_cons (beqF (by omega)) <| fa_cons (bnleF (by omega)) <| fa_cons (bleF (by omega)) <| fa_cons (beqF (by omega)) <| fa_cons (bnleF (by omega)) <| fa_cons (bleF (by omega)) <| fa_cons (rfl) <| fa_cons (wi64 (by omega) (by omega) (by omega)) <| fa_cons (wi64 (by omega) (by omega) (by omega)) <| fa_cons (vmod (by omega) (by omega) (by omega)) <| fa_cons (wi64 (tdiv_b (by omega) (by omega)) (by omega) (by omega)) <| fa_cons (beqF (by omega)) <| fa_nil
theorem adpps (x y : Int) (hx : 0 < x) (hx' : x < 1000000000) (hy : 0 < y) (hy' : y < 1000000000) (hl : x + y < 1000000000) (n0 : Nat) : runE EL (n0 + 1 + 100) 158 (adppsA x y) = some (.tup [.agg [.bool false, .lsl [.int .i64 ((x + y))] 1 false], .int .i64 0]) := by
  refine hypJ_ok (cs := []) (ds := []) (adppse x y hx hx' hy hy' hl) adppsZ (by rfl) (cast ?_ (inl_run (E := EL) (cs := []) (ds := []) (es := adppsE x y) fa_nil (adppse x y hx hx' hy hy' hl) (n0 := n0) (fun _ _ c hc => by cases hc) 100 158 (adppsA x y) adppsZ))
  kernel_rfl
def adnzA (x : Int) : List V := [.agg [.bool true, .lsl [.int .i64 (x)] 1 false], .agg [.bool false, .nils]]
def adnzE (x : Int) : List EQ := [.eq (.bool (eqI x 0)) (.bool false), .eq (.bool (!leI 0 x)) (.bool false), .eq (.bool (leI 1000000000 x)) (.bool false), .eq (.int .i64 (x)) (.int .i64 (x)), .eq (.int .i64 (wrap .i64 (x - 0))) (.int .i64 (x))]
def adnzZ : ZJ := [vj 50 0, vj 24 1, vj 2 2, fj 213 3 3, vj 0 4, vj 0 4, vj 3 1, vj 21 0, vj 20 0]
theorem adnze (x : Int) (hx : 0 < x) (hx' : x < 1000000000) : ∀ q ∈ adnzE x, q.Holds := fa_cons (beqF (by omega)) <| fa_cons (bnleF (by omega)) <| fa_cons (bleF (by omega)) <| fa_cons (rfl) <| fa_cons (wi64 (by omega) (by omega) (by omega)) <| fa_nil
theorem adnz (x : Int) (hx : 0 < x) (hx' : x < 1000000000) (n0 : Nat) : runE EL (n0 + 1 + 100) 158 (adnzA x) = some (.tup [.agg [.bool true, .lsl [.int .i64 (x)] 1 false], .int .i64 0]) := by
  refine hypJ_ok (cs := []) (ds := []) (adnze x hx hx') adnzZ (by rfl) (cast ?_ (inl_run (E := EL) (cs := []) (ds := []) (es := adnzE x) fa_nil (adnze x hx hx') (n0 := n0) (fun _ _ c hc => by cases hc) 100 158 (adnzA x) adnzZ))
  kernel_rfl
def muppmA (x y : Int) : List V := [.agg [.bool false, .lsl [.int .i64 (x)] 1 false], .agg [.bool false, .lsl [.int .i64 (y)] 1 false]]
def muppmE (x y : Int) : List EQ := [.eq (.bool (eqI x 0)) (.bool false), .eq (.bool (!leI 0 x)) (.bool false), .eq (.bool (leI 1000000000 x)) (.bool false), .eq (.bool (eqI y 0)) (.bool false), .eq (.bool (!leI 0 y)) (.bool false), .eq (.bool (leI 1000000000 y)) (.bool false), .eq (.agg [.bool false, .lsl [.int .i64 (y)] 1 false]) (.agg [.bool false, .lsl [.int .i64 (y)] 1 false]), .eq (.int .i64 (wrap .i64 (x * y))) (.int .i64 ((x * y))), .eq (.int .i64 (wrap .i64 (0 + (x * y)))) (.int .i64 ((x * y))), .eq (.int .i64 (wrap .i64 ((x * y) + 0))) (.int .i64 ((x * y))), .eq (.int .i64 (Int.tmod (x * y) 1000000000)) (.int .i64 ((x * y))), .eq (.int .i64 (wrap .i64 (Int.tdiv (x * y) 1000000000))) (.int .i64 (0)), .eq (.bool (eqI (x * y) 0)) (.bool false)]
def muppmZ : ZJ := [vj 50 0, vj 24 1, vj 2 2, vj 45 3, vj 24 4, vj 2 5, fj 72 7 6, vj 87 7, vj 0 8, vj 0 9, vj 9 10, vj 3 11, vj 31 12, vj 20 12]
theorem muppme (x y : Int) (hx : 0 < x) (hx' : x < 1000000000) (hy : 0 < y) (hy' : y < 1000000000) (hl : x * y < 1000000000) (hm : 0 < x * y) : ∀ q ∈ muppmE x y, q.Holds := fa_cons (beqF (by omega)) <| fa_cons (bnleF (by omega)) <| fa_cons (bleF (by omega)) <| fa_cons (beqF (by omega)) <| fa_cons (bnleF (by omega)) <| fa_cons (bleF (by omega)) <| fa_cons (rfl) <| fa_cons (wi64 (by first | rfl | omega) (by omega) (by omega)) <| fa_cons (wi64 (by first | rfl | omega) (by omega) (by omega)) <| fa_cons (wi64 (by first | rfl | omega) (by omega) (by omega)) <| fa_cons (vmod (by omega) (by omega) (by omega)) <| fa_cons (wi64 (tdiv_b (by omega) (by omega)) (by omega) (by omega)) <| fa_cons (beqF (by omega)) <| fa_nil
theorem muppm (x y : Int) (hx : 0 < x) (hx' : x < 1000000000) (hy : 0 < y) (hy' : y < 1000000000) (hl : x * y < 1000000000) (hm : 0 < x * y) (n0 : Nat) : runE EL (n0 + 1 + 100) 160 (muppmA x y) = some (.tup [.agg [.bool false, .lsl [.int .i64 ((x * y))] 1 false], .int .i64 0]) := by
  refine hypJ_ok (cs := []) (ds := []) (muppme x y hx hx' hy hy' hl hm) muppmZ (by rfl) (cast ?_ (inl_run (E := EL) (cs := []) (ds := []) (es := muppmE x y) fa_nil (muppme x y hx hx' hy hy' hl hm) (n0 := n0) (fun _ _ c hc => by cases hc) 100 160 (muppmA x y) muppmZ))
  kernel_rfl
def m1zzA  : List V := [.agg [.bool false, .nils], .agg [.bool false, .nils]]
def m1zzE  : List EQ := []
def m1zzZ : ZJ := []
theorem m1zze   : ∀ q ∈ m1zzE , q.Holds := fa_nil
theorem m1zz   (n0 : Nat) : runE EL (n0 + 1 + 100) 12 (m1zzA ) = some (.tup [.agg [.bool false, .nils], .int .i64 0]) := by
  refine hypJ_ok (cs := []) (ds := []) (m1zze ) m1zzZ (by rfl) (cast ?_ (inl_run (E := EL) (cs := []) (ds := []) (es := m1zzE ) fa_nil (m1zze ) (n0 := n0) (fun _ _ c hc => by cases hc) 100 12 (m1zzA ) m1zzZ))
  kernel_rfl
end
end Go.AM.E15
end
section
set_option maxRecDepth 100000
namespace Go.AM.E15
open Go
noncomputable section
def f9pA (x : Int) : List V := [.int .i64 (x)]
def f9pE (x : Int) : List EQ := [.eq (.bool (!leI 0 x)) (.bool false), .eq (.bool (!eqI x 0)) (.bool true), .eq (.int .i64 (Int.tmod x 1000000000)) (.int .i64 (x)), .eq (.int .i64 (wrap .i64 (Int.tdiv x 1000000000))) (.int .i64 (0))]
def f9pZ : ZJ := [vj 3 0, vj 3 1, vj 1 2, vj 2 0, vj 8 3]
theorem f9pe (x : Int) (hx : 0 < x) (hx' : x < 1000000000) : ∀ q ∈ f9pE x, q.Holds := fa_cons (bnleF (by omega)) <| fa_cons (bneT (by omega)) <| fa_cons (vmod (by omega) (by omega) (by omega)) <| fa_cons (wi64 (tdiv_b (by omega) (by omega)) (by omega) (by omega)) <| fa_nil
theorem f9p (x : Int) (hx : 0 < x) (hx' : x < 1000000000) (n0 : Nat) : runE EL (n0 + 1 + 100) 40 (f9pA x) = some (.agg [.bool false, .lsl [.int .i64 (x)] 1 false]) := by
  refine hypJ_ok (cs := []) (ds := []) (f9pe x hx hx') f9pZ (by rfl) (cast ?_ (inl_run (E := EL) (cs := []) (ds := []) (es := f9pE x) fa_nil (f9pe x hx hx') (n0 := n0) (fun _ _ c hc => by cases hc) 100 40 (f9pA x) f9pZ))
  kernel_rfl
def vczA  : List V := [.agg [.int .i64 2, .int .i64 0, .bool false, .nils, .str [], .nils, .nils]]
def vczE  : List EQ := []
def vczZ : ZJ := []
theorem vcze   : ∀ q ∈ vczE , q.Holds := fa_nil
theorem vcz   (n0 : Nat) : runE EL (n0 + 1 + 100) 80 (vczA ) = some (.int .i64 0) := by
  refine hypJ_ok (cs := []) (ds := []) (vcze ) vczZ (by rfl) (cast ?_ (inl_run (E := EL) (cs := []) (ds := []) (es := vczE ) fa_nil (vcze ) (n0 := n0) (fun _ _ c hc => by cases hc) 100 80 (vczA ) vczZ))
  kernel_rfl
def ncpA (x : Int) : List V := [.agg [.bool false, .lsl [.int .i64 (x)] 1 false]]
def ncpE (x : Int) : List EQ := [.eq (.bool (eqI x 0)) (.bool false), .eq (.bool (!leI 0 x)) (.bool false), .eq (.bool (leI 1000000000 x)) (.bool false)]
def ncpZ : ZJ := [vj 24 0, vj 24 1, vj 2 2]
theorem ncpe (x : Int) (hx : 0 < x) (hx' : x < 1000000000) : ∀ q ∈ ncpE x, q.Holds := fa_cons (beqF (by omega)) <| fa_cons (bnleF (by omega)) <| fa_cons (bleF (by omega)) <| fa_nil
theorem ncp (x : Int) (hx : 0 < x) (hx' : x < 1000000000) (n0 : Nat) : runE EL (n0 + 1 + 100) 263 (ncpA x) = some (.int .i64 0) := by
  refine hypJ_ok (cs := []) (ds := []) (ncpe x hx hx') ncpZ (by rfl) (cast ?_ (inl_run (E := EL) (cs := []) (ds := []) (es := ncpE x) fa_nil (ncpe x hx hx') (n0 := n0) (fun _ _ c hc => by cases hc) 100 263 (ncpA x) ncpZ))
  kernel_rfl
def lsppgA (x y : Int) : List V := [.agg [.bool false, .lsl [.int .i64 (x)] 1 false], .agg [.bool false, .lsl [.int .i64 (y)] 1 false]]
def lsppgE (x y : Int) : List EQ := [.eq (.agg [.bool false, .lsl [.int .i64 (y)] 1 false]) (.agg [.bool false, .lsl [.int .i64 (y)] 1 false]), .eq (.bool (!eqI x x)) (.bool false), .eq (.bool (!eqI y y)) (.bool false), .eq (.bool (!leI y x)) (.bool false), .eq (.bool (!leI x y)) (.bool true)]
def lsppgZ : ZJ := [fj 28 2 0, vj 77 1, vj 7 2, vj 6 3, vj 2 4]
theorem lsppge (x y : Int) (hx : 0 < x) (hx' : x < 1000000000) (hy : 0 < y) (hy' : y < 1000000000) (hl : y < x) : ∀ q ∈ lsppgE x y, q.Holds := fa_cons (rfl) <| fa_cons (bneF (by omega)) <| fa_cons (bneF (by omega)) <| fa_cons (bnleF (by omega)) <| fa_cons (bnleT (by omega)) <| fa_nil
theorem lsppg (x y : Int) (hx : 0 < x) (hx' : x < 1000000000) (hy : 0 < y) (hy' : y < 1000000000) (hl : y < x) (n0 : Nat) : runE EL (n0 + 1 + 100) 188 (lsppgA x y) = some (.bool false) := by
  refine hypJ_ok (cs := []) (ds := []) (lsppge x y hx hx' hy hy' hl) lsppgZ (by rfl) (cast ?_ (inl_run (E := EL) (cs := []) (ds := []) (es := lsppgE x y) fa_nil (lsppge x y hx hx' hy hy' hl) (n0 := n0) (fun _ _ c hc => by cases hc) 100 188 (lsppgA x y) lsppgZ))
  kernel_rfl
def lspnA (x y : Int) : List V := [.agg [.bool false, .lsl [.int .i64 (x)] 1 false], .agg [.bool true, .lsl [.int .i64 (y)] 1 false]]
def lspnE (x y : Int) : List EQ := []
def lspnZ : ZJ := []
theorem lspne (x y : Int) (hx : 0 < x) (hx' : x < 1000000000) (hy : 0 < y) (hy' : y < 1000000000) : ∀ q ∈ lspnE x y, q.Holds := fa_nil
theorem lspn (x y : Int) (hx : 0 < x) (hx' : x < 1000000000) (hy : 0 < y) (hy' : y < 1000000000) (n0 : Nat) : runE EL (n0 + 1 + 100) 188 (lspnA x y) = some (.bool false) := by
  refine hypJ_ok (cs := []) (ds := []) (lspne x y hx hx' hy hy') lspnZ (by rfl) (cast ?_ (inl_run (E := EL) (cs := []) (ds := []) (es := lspnE x y) fa_nil (lspne x y hx hx' hy hy') (n0 := n0) (fun _ _ c hc => by cases hc) 100 188 (lspnA x y) lspnZ))
  kernel_rfl
def lszpA (x : Int) : List V := [.agg [.bool false, .nils], .agg [.bool false, .lsl [.int .i64 (x)] 1 false]]
def lszpE (x : Int) : List EQ := [.eq (.agg [.bool false, .lsl [.int .i64 (x)] 1 false]) (.agg [.bool false, .lsl [.int .i64 (x)] 1 false])]
def lszpZ : ZJ := [fj 28 2 0]
theorem lszpe (x : Int) (hx : 0 < x) (hx' : x < 1000000000) : ∀ q ∈ lszpE x, q.Holds := fa_cons (rfl) <| fa_nil
theorem lszp (x : Int) (hx : 0 < x) (hx' : x < 1000000000) (n0 : Nat) : runE EL (n0 + 1 + 100) 188 (lszpA x) = some (.bool true) := by
  refine hypJ_ok (cs := []) (ds := []) (lszpe x hx hx') lszpZ (by rfl) (cast ?_ (inl_run (E := EL) (cs := []) (ds := []) (es := lszpE x) fa_nil (lszpe x hx hx') (n0 := n0) (fun _ _ c hc => by cases hc) 100 188 (lszpA x) lszpZ))
  kernel_rfl
def sbppeA (x : Int) : List V := [.agg [.bool false, .lsl [.int .i64 (x)] 1 false], .agg [.bool false, .lsl [.int .i64 (x)] 1 false]]
def sbppeE (x : Int) : List EQ := [.eq (.bool (eqI x 0)) (.bool false), .eq (.bool (!leI 0 x)) (.bool false), .eq (.bool (leI 1000000000 x)) (.bool false), .eq (.agg [.bool false, .lsl [.int .i64 (x)] 1 false]) (.agg [.bool false, .lsl [.int .i64 (x)] 1 false]), .eq (.agg [.bool true, .lsl [.int .i64 (x)] 1 false]) (.agg [.bool true, .lsl [.int .i64 (x)] 1 false]), .eq (.bool (!eqI x x)) (.bool false), .eq (.bool (!leI x x)) (.bool false), .eq (.int .i64 (x)) (.int .i64 (x)), .eq (.int .i64 (wrap .i64 (x - x))) (.int .i64 (0))]
def sbppeZ : ZJ := [vj 50 0, vj 24 1, vj 2 2, vj 45 0, vj 24 1, vj 2 2, vj 90 0, fj 22 0 3, fj 17 2 4, vj 77 5, vj 7 5, vj 6 6, vj 2 6, fj 23 4 4, fj 35 3 7, vj 0 8]
theorem sbppee (x : Int) (hx : 0 < x) (hx' : x < 1000000000) : ∀ q ∈ sbppeE x, q.Holds := fa_cons (beqF (by omega)) <| fa_cons (bnleF (by omega)) <| fa_cons (bleF (by omega)) <| fa_cons (rfl) <| fa_cons (rfl) <| fa_cons (bneF (by omega)) <| fa_cons (bnleF (by omega)) <| fa_cons (rfl) <| fa_cons (wi64 (by omega) (by omega) (by omega)) <| fa_nil
theorem sbppe (x : Int) (hx : 0 < x) (hx' : x < 1000000000) (n0 : Nat) : runE EL (n0 + 1 + 100) 159 (sbppeA x) = some (.tup [.agg [.bool false, .nils], .int .i64 0]) := by
  refine hypJ_ok (cs := []) (ds := []) (sbppee x hx hx') sbppeZ (by rfl) (cast ?_ (inl_run (E := EL) (cs := []) (ds := []) (es := sbppeE x) fa_nil (sbppee x hx hx') (n0 := n0) (fun _ _ c hc => by cases hc) 100 159 (sbppeA x) sbppeZ))
  kernel_rfl
def sbzzA  : List V := [.agg [.bool false, .nils], .agg [.bool false, .nils]]
def sbzzE  : List EQ := []
def sbzzZ : ZJ := []
theorem sbzze   : ∀ q ∈ sbzzE , q.Holds := fa_nil
theorem sbzz   (n0 : Nat) : runE EL (n0 + 1 + 100) 159 (sbzzA ) = some (.tup [.agg [.bool false, .nils], .int .i64 0]) := by
  refine hypJ_ok (cs := []) (ds := []) (sbzze ) sbzzZ (by rfl) (cast ?_ (inl_run (E := EL) (cs := []) (ds := []) (es := sbzzE ) fa_nil (sbzze ) (n0 := n0) (fun _ _ c hc => by cases hc) 100 159 (sbzzA ) sbzzZ))
  kernel_rfl
def adpzA (x : Int) : List V := [.agg [.bool false, .lsl [.int .i64 (x)] 1 false], .agg [.bool false, .nils]]
def adpzE (x : Int) : List EQ := [.eq (.bool (eqI x 0)) (.bool false), .eq (.bool (!leI 0 x)) (.bool false), .eq (.bool (leI 1000000000 x)) (.bool false), .eq (.int .i64 (wrap .i64 (x + 0))) (.int .i64 (x)), .eq (.int .i64 (Int.tmod x 1000000000)) (.int .i64 (x)), .eq (.int .i64 (wrap .i64 (Int.tdiv x 1000000000))) (.int .i64 (0))]
def adpzZ : ZJ := [vj 50 0, vj 24 1, vj 2 2, vj 167 3, vj 1 3, vj 3 4, vj 4 5, vj 43 0]
theorem adpze (x : Int) (hx : 0 < x) (hx' : x < 1000000000) : ∀ q ∈ adpzE x, q.Holds := fa_cons (beqF (by omega)) <| fa_cons (bnleF (by omega)) <| fa_cons (bleF (by omega)) <| fa_cons (wi64 (by omega) (by omega) (by omega)) <| fa_cons (vmod (by omega) (by omega) (by omega)) <| fa_cons (wi64 (tdiv_b (by omega) (by omega)) (by omega) (by omega)) <| fa_nil
theorem adpz (x : Int) (hx : 0 < x) (hx' : x < 1000000000) (n0 : Nat) : runE EL (n0 + 1 + 100) 158 (adpzA x) = some (.tup [.agg [.bool false, .lsl [.int .i64 (x)] 1 false], .int .i64 0]) := by
  refine hypJ_ok (cs := []) (ds := []) (adpze x hx hx') adpzZ (by rfl) (cast ?_ (inl_run (E := EL) (cs := []) (ds := []) (es := adpzE x) fa_nil (adpze x hx hx') (n0 := n0) (fun _ _ c hc => by cases hc) 100 158 (adpzA x) adpzZ))
  kernel_rfl
def adnpgA (x y : Int) : List V := [.agg [.bool true, .lsl [.int .i64 (x)] 1 false], .agg [.bool false, .lsl [.int .i64 (y)] 1 false]]
def adnpgE (x y : Int) : List EQ := [.eq (.bool (eqI x 0)) (.bool false), .eq (.bool (!leI 0 x)) (.bool false), .eq (.bool (leI 1000000000 x)) (.bool false), .eq (.bool (eqI y 0)) (.bool false), .eq (.bool (!leI 0 y)) (.bool false), .eq (.bool (leI 1000000000 y)) (.bool false), .eq (.agg [.bool false, .lsl [.int .i64 (y)] 1 false]) (.agg [.bool false, .lsl [.int .i64 (y)] 1 false]), .eq (.bool (!eqI x x)) (.bool false), .eq (.bool (!eqI y y)) (.bool false), .eq (.bool (!leI y x)) (.bool false), .eq (.bool (!leI x y)) (.bool true), .eq (.int .i64 (x)) (.int .i64 (x)), .eq (.int .i64 (wrap .i64 (x - y))) (.int .i64 ((x - y))), .eq (.int .i64 (wrap .i64 ((x - y) - 0))) (.int .i64 ((x - y))), .eq (.bool (!leI 0 (x - y))) (.bool false), .eq (.bool (eqI (x - y) 0)) (.bool false)]
def adnpgZ : ZJ := [vj 50 0, vj 24 1, vj 2 2, vj 45 3, vj 24 4, vj 2 5, fj 72 2 6, vj 77 7, vj 7 8, vj 6 9, vj 2 10, fj 19 4 6, fj 35 3 11, vj 0 12, vj 0 13, vj 3 14, vj 21 15, vj 20 15]
theorem adnpge (x y : Int) (hx : 0 < x) (hx' : x < 1000000000) (hy : 0 < y) (hy' : y < 1000000000) (hl : y < x) : ∀ q ∈ adnpgE x y, q.Holds := fa_cons (beqF (by omega)) <| fa_cons (bnleF (by omega)) <| fa_cons (bleF (by omega)) <| fa_cons (beqF (by omega)) <| fa_cons (bnleF (by omega)) <| fa_cons (bleF (by omega)) <| fa_cons (rfl) <| fa_cons (bneF (by omega)) <| fa_cons (bneF (by omega)) <| fa_cons (bnleF (by omega)) <| fa_cons (bnleT (by omega)) <| fa_cons (rfl) <| fa_cons (wi64 (by omega) (by omega) (by omega)) <| fa_cons (wi64 (by omega) (by omega) (by omega)) <| fa_cons (bnleF (by omega)) <| fa_cons (beqF (by omega)) <| fa_nil
theorem adnpg (x y : Int) (hx : 0 < x) (hx' : x < 1000000000) (hy : 0 < y) (hy' : y < 1000000000) (hl : y < x) (n0 : Nat) : runE EL (n0 + 1 + 100) 158 (adnpgA x y) = some (.tup [.agg [.bool true, .lsl [.int .i64 ((x - y))] 1 false], .int .i64 0]) := by
  refine hypJ_ok (cs := []) (ds := []) (adnpge x y hx hx' hy hy' hl) adnpgZ (by rfl) (cast ?_ (inl_run (E := EL) (cs := []) (ds := []) (es := adnpgE x y) fa_nil (adnpge x y hx hx' hy hy' hl) (n0 := n0) (fun _ _ c hc => by cases hc) 100 158 (adnpgA x y) adnpgZ))
  kernel_rfl
def m1ppmA (x y : Int) : List V := [.agg [.bool false, .lsl [.int .i64 (x)] 1 false], .agg [.bool false, .lsl [.int .i64 (y)] 1 false]]
def m1ppmE (x y : Int) : List EQ := [.eq (.bool (eqI x 0)) (.bool false), .eq (.bool (!leI 0 x)) (.bool false), .eq (.bool (leI 1000000000 x)) (.bool false), .eq (.bool (eqI y 0)) (.bool false), .eq (.bool (!leI 0 y)) (.bool false), .eq (.bool (leI 1000000000 y)) (.bool false), .eq (.int .i64 (wrap .i64 (x * y))) (.int .i64 ((x * y))), .eq (.int .i64 (wrap .i64 (0 + (x * y)))) (.int .i64 ((x * y))), .eq (.int .i64 (wrap .i64 ((x * y) + 0))) (.int .i64 ((x * y))), .eq (.int .i64 (Int.tmod (x * y) 1000000000)) (.int .i64 ((x * y))), .eq (.int .i64 (wrap .i64 (Int.tdiv (x * y) 1000000000))) (.int .i64 (0)), .eq (.bool (eqI (x * y) 0)) (.bool false)]
def m1ppmZ : ZJ := [vj 36 0, vj 11 1, vj 6 2, vj 35 3, vj 11 4, vj 6 5, vj 61 6, vj 0 7, vj 1 8, vj 6 9, vj 3 10, vj 71 11, vj 29 11]
theorem m1ppme (x y : Int) (hx : 0 < x) (hx' : x < 1000000000) (hy : 0 < y) (hy' : y < 1000000000) (hl : x * y < 1000000000) (hm : 0 < x * y) : ∀ q ∈ m1ppmE x y, q.Holds := fa_cons (beqF (by omega)) <| fa_cons (bnleF (by omega)) <| fa_cons (bleF (by omega)) <| fa_cons (beqF (by omega)) <| fa_cons (bnleF (by omega)) <| fa_cons (bleF (by omega)) <| fa_cons (wi64 (by first | rfl | omega) (by omega) (by omega)) <| fa_cons (wi64 (by first | rfl | omega) (by omega) (by omega)) <| fa_cons (wi64 (by first | rfl | omega) (by omega) (by omega)) <| fa_cons (vmod (by omega) (by omega) (by omega)) <| fa_cons (wi64 (tdiv_b (by omega) (by omega)) (by omega) (by omega)) <| fa_cons (beqF (by omega)) <| fa_nil
theorem m1ppm (x y : Int) (hx : 0 < x) (hx' : x < 1000000000) (hy : 0 < y) (hy' : y < 1000000000) (hl : x * y < 1000000000) (hm : 0 < x * y) (n0 : Nat) : runE EL (n0 + 1 + 100) 12 (m1ppmA x y) = some (.tup [.agg [.bool false, .lsl [.int .i64 ((x * y))] 1 false], .int .i64 0]) := by
  refine hypJ_ok (cs := []) (ds := []) (m1ppme x y hx hx' hy hy' hl hm) m1ppmZ (by rfl) (cast ?_ (inl_run (E := EL) (cs := []) (ds := []) (es := m1ppmE x y) fa_nil (m1ppme x y hx hx' hy hy' hl hm) (n0 := n0) (fun _ _ c hc => by cases hc) 100 12 (m1ppmA x y) m1ppmZ))
  kernel_rfl
def sgzA  : List V := [.agg [.bool false, .nils]]
def sgzE  : List EQ := []
def sgzZ : ZJ := []
theorem sgze   : ∀ q ∈ sgzE , q.Holds := fa_nil
theorem sgz   (n0 : Nat) : runE EL (n0 + 1 + 100) 153 (sgzA ) = some (.int .i64 0) := by
  refine hypJ_ok (cs := []) (ds := []) (sgze ) sgzZ (by rfl) (cast ?_ (inl_run (E := EL) (cs := []) (ds := []) (es := sgzE ) fa_nil (sgze ) (n0 := n0) (fun _ _ c hc => by cases hc) 100 153 (sgzA ) sgzZ))
  kernel_rfl
end
end Go.AM.E15
end
section
set_option maxRecDepth 100000
namespace Go.AM.E15
open Go
noncomputable section
theorem intV_neg' {x : Int} (h : x < 0) (h' : -1000000000 < x) : intV x = nV (-x) := by
  have := intV_neg (x := -x) (by omega) (by omega)
  rw [Int.neg_neg] at this; exact this
theorem valV_neg' {x : Int} (h : x < 0) (h' : -1000000000 < x) : valV x = .agg [.int .i64 2, .int .i64 0, .bool true, .lsl [.int .i64 (-x)] 1 false, .str [], .nils, .nils] := by
  have := valV_neg (x := -x) (by omega) (by omega)
  rw [Int.neg_neg] at this; exact this
theorem j_fn {x : Int} (h : 0 ≤ x) (h' : x < 1000000000) (N : Nat) : runE EL (N + 1 + 100) 265 [.int .i64 x] = some (intV x) := by
  rcases Int.lt_or_eq_of_le h with h0 | h0
  · rw [intV_pos h0 h']; exact fnp x h0 h' N
  · subst h0; exact fnz N
theorem j_f1 {x : Int} (h : 0 ≤ x) (h' : x < 1000000000) (N : Nat) : runE EL (N + 1 + 100) 11 [.int .i64 x] = some (intV x) := by
  rcases Int.lt_or_eq_of_le h with h0 | h0
  · rw [intV_pos h0 h']; exact f1p x h0 h' N
  · subst h0; exact f1z N
theorem j_f9 {x : Int} (h : -1000000000 < x) (h' : x < 1000000000) (N : Nat) : runE EL (N + 1 + 100) 40 [.int .i64 x] = some (intV x) := by
  rcases Int.lt_trichotomy x 0 with h0 | h0 | h0
  · rw [intV_neg' h0 h]
    have := f9n x h0 h N
    rw [Int.zero_sub] at this; exact this
  · subst h0; exact f9z N
  · rw [intV_pos h0 h']; exact f9p x h0 h' N
theorem j_vc {x : Int} (h : -1000000000 < x) (h' : x < 1000000000) (N : Nat) : runE EL (N + 1 + 100) 80 [valV x] = some okV0 := by
  rcases Int.lt_trichotomy x 0 with h0 | h0 | h0
  · rw [valV_neg' h0 h]; exact vcn (-x) (by omega) (by omega) N
  · subst h0; exact vcz N
  · rw [valV_pos h0 h']; exact vcp x h0 h' N
theorem j_nc {x : Int} (h : -1000000000 < x) (h' : x < 1000000000) (N : Nat) : runE EL (N + 1 + 100) 263 [intV x] = some okV0 := by
  rcases Int.lt_trichotomy x 0 with h0 | h0 | h0
  · rw [intV_neg' h0 h]; exact ncn (-x) (by omega) (by omega) N
  · subst h0; exact ncz N
  · rw [intV_pos h0 h']; exact ncp x h0 h' N
theorem j_ls {x y : Int} (h : -1000000000 < x) (h' : x < 1000000000) (g : -1000000000 < y) (g' : y < 1000000000) (N : Nat) : runE EL (N + 1 + 100) 188 [intV x, intV y] = some (.bool (decide (x < y))) := by
  rcases Int.lt_trichotomy x 0 with h0 | h0 | h0 <;> rcases Int.lt_trichotomy y 0 with g0 | g0 | g0
  · rw [intV_neg' h0 h, intV_neg' g0 g]
    rcases Int.lt_trichotomy x y with k | k | k
    · rw [decide_eq_true k]; exact lsnng (-x) (-y) (by omega) (by omega) (by omega) (by omega) (by omega) N
    · subst k; rw [decide_eq_false (Int.lt_irrefl x)]; exact lsnne (-x) (by omega) (by omega) N
    · rw [decide_eq_false (by omega)]; exact lsnnl (-x) (-y) (by omega) (by omega) (by omega) (by omega) (by omega) N
  · subst g0; rw [intV_neg' h0 h, decide_eq_true h0]; exact lsnz (-x) (by omega) (by omega) N
  · rw [intV_neg' h0 h, intV_pos g0 g', decide_eq_true (by omega)]; exact lsnp (-x) y (by omega) (by omega) g0 g' N
  · subst h0; rw [intV_neg' g0 g, decide_eq_false (by omega)]; exact lszn (-y) (by omega) (by omega) N
  · subst h0; subst g0; exact lszz N
  · subst h0; rw [intV_pos g0 g', decide_eq_true g0]; exact lszp y g0 g' N
  · rw [intV_pos h0 h', intV_neg' g0 g, decide_eq_false (by omega)]; exact lspn x (-y) h0 h' (by omega) (by omega) N
  · subst g0; rw [intV_pos h0 h', decide_eq_false (by omega)]; exact lspz x h0 h' N
  · rw [intV_pos h0 h', intV_pos g0 g']
    rcases Int.lt_trichotomy x y with k | k | k
    · rw [decide_eq_true k]; exact lsppl x y h0 h' g0 g' k N
    · subst k; rw [decide_eq_false (Int.lt_irrefl x)]; exact lsppe x h0 h' N
    · rw [decide_eq_false (by omega)]; exact lsppg x y h0 h' g0 g' k N
theorem j_sb {x y : Int} (h : -100000000 < x) (h' : x < 100000000) (g : -100000000 < y) (g' : y < 100000000) (hk : y ≤ x) (N : Nat) : runE EL (N + 1 + 100) 159 [intV x, intV y] = some (.tup [intV (x - y), okV0]) := by
  rcases Int.lt_trichotomy x 0 with h0 | h0 | h0 <;> rcases Int.lt_trichotomy y 0 with g0 | g0 | g0
  · rw [intV_neg' h0 (by omega), intV_neg' g0 (by omega)]
    rcases Int.lt_or_eq_of_le hk with k | k
    · rw [intV_pos (x := x - y) (by omega) (by omega)]
      have := sbnnl (-x) (-y) (by omega) (by omega) (by omega) (by omega) (by omega) N
      rw [show -y - -x = x - y by omega] at this; exact this
    · subst k; rw [Int.sub_self]; exact sbnne (-y) (by omega) (by omega) N
  · omega
  · omega
  · subst h0; rw [intV_neg' g0 (by omega), Int.zero_sub, intV_pos (x := -y) (by omega) (by omega)]; exact sbzn (-y) (by omega) (by omega) N
  · subst h0; subst g0; exact sbzz N
  · omega
  · rw [intV_pos h0 (by omega), intV_neg' g0 (by omega), intV_pos (x := x - y) (by omega) (by omega)]
    have := sbpns x (-y) h0 (by omega) (by omega) (by omega) (by omega) N
    rw [show x + -y = x - y by omega] at this; exact this
  · subst g0; rw [Int.sub_zero, intV_pos h0 (by omega)]; exact sbpz x h0 (by omega) N
  · rw [intV_pos h0 (by omega), intV_pos g0 (by omega)]
    rcases Int.lt_or_eq_of_le hk with k | k
    · rw [intV_pos (x := x - y) (by omega) (by omega)]; exact sbppg x y h0 (by omega) g0 (by omega) k N
    · subst k; rw [Int.sub_self]; exact sbppe y h0 (by omega) N
theorem j_ad {x y : Int} (h : -100000000 < x) (h' : x < 100000000) (g : 0 ≤ y) (g' : y < 100000000) (N : Nat) : runE EL (N + 1 + 100) 158 [intV x, intV y] = some (.tup [intV (x + y), okV0]) := by
  rcases Int.lt_or_eq_of_le g with g0 | g0
  · rw [intV_pos g0 (by omega)]
    rcases Int.lt_trichotomy x 0 with h0 | h0 | h0
    · rw [intV_neg' h0 (by omega)]
      rcases Int.lt_trichotomy (-x) y with k | k | k
      · rw [intV_pos (x := x + y) (by omega) (by omega)]
        have := adnpl (-x) y (by omega) (by omega) g0 (by omega) k N
        rw [show y - -x = x + y by omega] at this; exact this
      · rw [show x + y = 0 by omega, ← k]; exact adnpe (-x) (by omega) (by omega) N
      · rw [intV_neg' (x := x + y) (by omega) (by omega)]
        have := adnpg (-x) y (by omega) (by omega) g0 (by omega) k N
        rw [show -x - y = -(x + y) by omega] at this; exact this
    · subst h0; rw [Int.zero_add, intV_pos g0 (by omega)]; exact adzp y g0 (by omega) N
    · rw [intV_pos h0 (by omega), intV_pos (x := x + y) (by omega) (by omega)]; exact adpps x y h0 (by omega) g0 (by omega) (by omega) N
  · subst g0
    rw [Int.add_zero]
    rcases Int.lt_trichotomy x 0 with h0 | h0 | h0
    · rw [intV_neg' h0 (by omega)]; exact adnz (-x) (by omega) (by omega) N
    · subst h0; exact adzz N
    · rw [intV_pos h0 (by omega)]; exact adpz x h0 (by omega) N
theorem j_mu {x y : Int} (h : 0 < x) (h' : x < 1000000000) (g : 0 < y) (g' : y < 1000000000) (k : x * y < 1000000000) (N : Nat) : runE EL (N + 1 + 100) 160 [intV x, intV y] = some (.tup [intV (x * y), okV0]) := by
  have hp := Int.mul_pos h g
  rw [intV_pos h h', intV_pos g g', intV_pos hp k]; exact muppm x y h h' g g' k hp N
theorem j_m1 {x y : Int} (h : 0 ≤ x) (h' : x < 1000000000) (g : 0 ≤ y) (g' : y < 1000000000) (k : x * y < 1000000000) (N : Nat) : runE EL (N + 1 + 100) 12 [intV x, intV y] = some (.tup [intV (x * y), okV0]) := by
  rcases Int.lt_or_eq_of_le h with h0 | h0 <;> rcases Int.lt_or_eq_of_le g with g0 | g0
  · have hp := Int.mul_pos h0 g0
    rw [intV_pos h0 h', intV_pos g0 g', intV_pos hp k]; exact m1ppm x y h0 h' g0 g' k hp N
  · subst g0; rw [Int.mul_zero, intV_pos h0 h']; exact m1pz x h0 h' N
  · subst h0; rw [Int.zero_mul, intV_pos g0 g']; exact m1zp y g0 g' N
  · subst h0; subst g0; exact m1zz N
theorem j_sg {x : Int} (h : 0 ≤ x) (h' : x < 1000000000) (N : Nat) : runE EL (N + 1 + 100) 153 [intV x] = some (.int .i64 (if x = 0 then 0 else 1)) := by
  rcases Int.lt_or_eq_of_le h with h0 | h0
  · rw [intV_pos h0 h', if_neg (by omega)]; exact sgp x h0 h' N
  · subst h0; exact sgz N
end
end Go.AM.E15
end
section
set_option maxRecDepth 100000
namespace Go.AM.E15
open Go
noncomputable section
def rp0A (x : Int) : List V := [.agg [.bool false, .lsl [.int .i64 (x)] 1 false], .agg [.bool false, .nils]]
def rp0E (x : Int) : List EQ := [.eq (.bool (eqI x 0)) (.bool false), .eq (.bool (!leI 0 x)) (.bool false), .eq (.bool (leI 1000000000 x)) (.bool false)]
def rp0Z : ZJ := [vj 36 0, vj 11 1, vj 6 2]
theorem rp0e (x : Int) (hx : 0 < x) (hx' : x < 1000000000) : ∀ q ∈ rp0E x, q.Holds := fa_cons (beqF (by omega)) <| fa_cons (bnleF (by omega)) <| fa_cons (bleF (by omega)) <| fa_nil
theorem rp0 (x : Int) (hx : 0 < x) (hx' : x < 1000000000) (n0 : Nat) : runE EL (n0 + 1 + 100) 10 (rp0A x) = some (.tup [.agg [.bool false, .lsl [.int .i64 1] 1 false], .int .i64 0]) := by
  refine hypJ_ok (cs := []) (ds := []) (rp0e x hx hx') rp0Z (by rfl) (cast ?_ (inl_run (E := EL) (cs := []) (ds := []) (es := rp0E x) fa_nil (rp0e x hx hx') (n0 := n0) (fun _ _ c hc => by cases hc) 100 10 (rp0A x) rp0Z))
  kernel_rfl
end
end Go.AM.E15
end
