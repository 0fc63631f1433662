import Derived.KernelRfl
import Derived.Test.YtkkbeakephmkdaaGreatDoorE15C0
import Derived.Test.YtkkbeakephmkdaaGreatDoorE15N1
import Derived.Test.YtkkbeakephmkdaaGreatDoorE15TI0
import Derived.Test.YtkkbeakephmkdaaGreatDoorE15TI1
import Derived.Test.YtkkbeakephmkdaaGreatDoorE15TI2
import Derived.Test.YtkkbeakephmkdaaGreatDoorE15TI3
import Derived.Test.YtkkbeakephmkdaaGreatDoorE15TI4
import Derived.Test.YtkkbeakephmkdaaGreatDoorE15TI5
import Derived.Test.YtkkbeakephmkdaaGreatDoorE15TI6
import Derived.Test.YtkkbeakephmkdaaGreatDoorE15TI7
import Derived.Test.YtkkbeakephmkdaaGreatDoorE15TI8
import Derived.Test.YtkkbeakephmkdaaGreatDoorE15L
import Derived.Test.YtkkbeakephmkdaaGreatDoorE15W3
import Derived.Test.YtkkbeakephmkdaaGreatDoorE15W4
set_option linter.all false
section
set_option maxRecDepth 100000
namespace Go.AM.E15
open Go
noncomputable section
def M0 : Nat := 400000
def conOK (c : Con) : Prop := ∀ n', M0 ≤ n' → ∀ ss, okS c.2.2.1 ss → (recN EL n').call c.1 c.2.1 ss = .ret c.2.2.2 ss false
theorem con_of {f : Nat} {A : List V} {v : V} (hm : EL.mode f = .E) (ho : EL.ov f = none) (hp : ∀ a ∈ A, Plain a) (h : ∀ N, 300000 ≤ N → runE EL N f A = some v) : conOK (f, A, none, v) := by
  intro n' hn' ss _
  obtain ⟨N, rfl⟩ : ∃ N, n' = N + 1 := ⟨n' - 1, by unfold M0 at hn'; omega⟩
  exact call_of hm ho hp (h N (by unfold M0 at hn'; omega)) ss
theorem at100 {f : Nat} {A : List V} {v : V} (h : ∀ N, runE EL (N + 1 + 100) f A = some v) : ∀ N, 300000 ≤ N → runE EL N f A = some v := by
  intro N hN
  obtain ⟨n, rfl⟩ : ∃ n, N = n + 1 + 100 := ⟨N - 101, by omega⟩
  exact h n
theorem mm265 : EL.mode 265 = .E := by kernel_rfl
theorem oo265 : EL.ov 265 = none := by kernel_rfl
theorem mm11 : EL.mode 11 = .E := by kernel_rfl
theorem oo11 : EL.ov 11 = none := by kernel_rfl
theorem mm40 : EL.mode 40 = .E := by kernel_rfl
theorem oo40 : EL.ov 40 = none := by kernel_rfl
theorem mm80 : EL.mode 80 = .E := by kernel_rfl
theorem oo80 : EL.ov 80 = none := by kernel_rfl
theorem mm263 : EL.mode 263 = .E := by kernel_rfl
theorem oo263 : EL.ov 263 = none := by kernel_rfl
theorem mm188 : EL.mode 188 = .E := by kernel_rfl
theorem oo188 : EL.ov 188 = none := by kernel_rfl
theorem mm159 : EL.mode 159 = .E := by kernel_rfl
theorem oo159 : EL.ov 159 = none := by kernel_rfl
theorem mm158 : EL.mode 158 = .E := by kernel_rfl
theorem oo158 : EL.ov 158 = none := by kernel_rfl
theorem mm160 : EL.mode 160 = .E := by kernel_rfl
theorem oo160 : EL.ov 160 = none := by kernel_rfl
theorem mm12 : EL.mode 12 = .E := by kernel_rfl
theorem oo12 : EL.ov 12 = none := by kernel_rfl
theorem mm153 : EL.mode 153 = .E := by kernel_rfl
theorem oo153 : EL.ov 153 = none := by kernel_rfl
theorem mm163 : EL.mode 163 = .E := by kernel_rfl
theorem oo163 : EL.ov 163 = none := by kernel_rfl
theorem mm68 : EL.mode 68 = .E := by kernel_rfl
theorem oo68 : EL.ov 68 = none := by kernel_rfl
theorem mm10 : EL.mode 10 = .E := by kernel_rfl
theorem oo10 : EL.ov 10 = none := by kernel_rfl
theorem k_fn {x : Int} (h : 0 ≤ x) (h' : x < 1000000000) : conOK (265, [.int .i64 x], none, intV x) := con_of mm265 oo265 (fa_cons (plain_i64 x) fa_nil) (at100 (j_fn h h'))
theorem k_f1 {x : Int} (h : 0 ≤ x) (h' : x < 1000000000) : conOK (11, [.int .i64 x], none, intV x) := con_of mm11 oo11 (fa_cons (plain_i64 x) fa_nil) (at100 (j_f1 h h'))
theorem k_f9 {x : Int} (h : -1000000000 < x) (h' : x < 1000000000) : conOK (40, [.int .i64 x], none, intV x) := con_of mm40 oo40 (fa_cons (plain_i64 x) fa_nil) (at100 (j_f9 h h'))
theorem k_vc {x : Int} (h : -1000000000 < x) (h' : x < 1000000000) : conOK (80, [valV x], none, okV0) := con_of mm80 oo80 (fa_cons (plain_val x) fa_nil) (at100 (j_vc h h'))
theorem k_nc {x : Int} (h : -1000000000 < x) (h' : x < 1000000000) : conOK (263, [intV x], none, okV0) := con_of mm263 oo263 (fa_cons (plain_int x) fa_nil) (at100 (j_nc h h'))
theorem plain2 (x y : Int) : ∀ a ∈ [intV x, intV y], Plain a := fa_cons (plain_int x) <| fa_cons (plain_int y) fa_nil
theorem k_lsT {x y : Int} (h : -100000000 < x) (h' : x < 100000000) (g : -100000000 < y) (g' : y < 100000000) (k : x < y) : conOK (188, [intV x, intV y], none, .bool true) := by
  have := con_of mm188 oo188 (plain2 x y) (at100 (j_ls (x := x) (y := y) (by omega) (by omega) (by omega) (by omega)))
  rw [decide_eq_true k] at this; exact this
theorem k_lsF {x y : Int} (h : -100000000 < x) (h' : x < 100000000) (g : -100000000 < y) (g' : y < 100000000) (k : y ≤ x) : conOK (188, [intV x, intV y], none, .bool false) := by
  have := con_of mm188 oo188 (plain2 x y) (at100 (j_ls (x := x) (y := y) (by omega) (by omega) (by omega) (by omega)))
  rw [decide_eq_false (by omega)] at this; exact this
theorem k_sb {x y : Int} (h : -100000000 < x) (h' : x < 100000000) (g : -100000000 < y) (g' : y < 100000000) (k : y ≤ x) : conOK (159, [intV x, intV y], none, .tup [intV (x - y), okV0]) := con_of mm159 oo159 (plain2 x y) (at100 (j_sb h h' g g' k))
theorem k_ad {x y : Int} (h : -100000000 < x) (h' : x < 100000000) (g : 0 ≤ y) (g' : y < 100000000) : conOK (158, [intV x, intV y], none, .tup [intV (x + y), okV0]) := con_of mm158 oo158 (plain2 x y) (at100 (j_ad h h' g g'))
theorem k_mu {x y : Int} (h : 0 < x) (h' : x < 1000000000) (g : 0 < y) (g' : y < 1000000000) (k : x * y < 1000000000) : conOK (160, [intV x, intV y], none, .tup [intV (x * y), okV0]) := con_of mm160 oo160 (plain2 x y) (at100 (j_mu h h' g g' k))
theorem k_m1 {x y : Int} (h : 0 ≤ x) (h' : x < 1000000000) (g : 0 ≤ y) (g' : y < 1000000000) (k : x * y < 1000000000) : conOK (12, [intV x, intV y], none, .tup [intV (x * y), okV0]) := con_of mm12 oo12 (plain2 x y) (at100 (j_m1 h h' g g' k))
theorem k_sg0 {x : Int} (h : x = 0) : conOK (153, [intV x], none, .int .i64 0) := by
  subst h; exact con_of mm153 oo153 (fa_cons (plain_int 0) fa_nil) (at100 (j_sg (x := 0) (by omega) (by omega)))
theorem k_sg1 {x : Int} (h : 0 < x) (h' : x < 1000000000) : conOK (153, [intV x], none, .int .i64 1) := by
  have := con_of mm153 oo153 (fa_cons (plain_int x) fa_nil) (at100 (j_sg (x := x) (by omega) h'))
  rw [if_neg (by omega)] at this; exact this
theorem ti_all {n : Nat} (h : n ≤ 900) {N : Nat} (hN : 201 ≤ N) : runE EL N 261 [intV (n : Int)] = some (.tup [nI n, okV0]) := by
  obtain ⟨n0, rfl⟩ : ∃ n0, N = n0 + 1 + 200 := ⟨N - 201, by omega⟩
  by_cases h0 : n < 15
  · exact andAll_at (ti_0 n0) (by omega) h0
  by_cases h15 : n < 30
  · exact andAll_at (ti_15 n0) (by omega) h15
  by_cases h30 : n < 45
  · exact andAll_at (ti_30 n0) (by omega) h30
  by_cases h45 : n < 60
  · exact andAll_at (ti_45 n0) (by omega) h45
  by_cases h60 : n < 75
  · exact andAll_at (ti_60 n0) (by omega) h60
  by_cases h75 : n < 90
  · exact andAll_at (ti_75 n0) (by omega) h75
  by_cases h90 : n < 105
  · exact andAll_at (ti_90 n0) (by omega) h90
  by_cases h105 : n < 120
  · exact andAll_at (ti_105 n0) (by omega) h105
  by_cases h120 : n < 135
  · exact andAll_at (ti_120 n0) (by omega) h120
  by_cases h135 : n < 150
  · exact andAll_at (ti_135 n0) (by omega) h135
  by_cases h150 : n < 165
  · exact andAll_at (ti_150 n0) (by omega) h150
  by_cases h165 : n < 180
  · exact andAll_at (ti_165 n0) (by omega) h165
  by_cases h180 : n < 195
  · exact andAll_at (ti_180 n0) (by omega) h180
  by_cases h195 : n < 210
  · exact andAll_at (ti_195 n0) (by omega) h195
  by_cases h210 : n < 225
  · exact andAll_at (ti_210 n0) (by omega) h210
  by_cases h225 : n < 240
  · exact andAll_at (ti_225 n0) (by omega) h225
  by_cases h240 : n < 255
  · exact andAll_at (ti_240 n0) (by omega) h240
  by_cases h255 : n < 270
  · exact andAll_at (ti_255 n0) (by omega) h255
  by_cases h270 : n < 285
  · exact andAll_at (ti_270 n0) (by omega) h270
  by_cases h285 : n < 300
  · exact andAll_at (ti_285 n0) (by omega) h285
  by_cases h300 : n < 315
  · exact andAll_at (ti_300 n0) (by omega) h300
  by_cases h315 : n < 330
  · exact andAll_at (ti_315 n0) (by omega) h315
  by_cases h330 : n < 345
  · exact andAll_at (ti_330 n0) (by omega) h330
  by_cases h345 : n < 360
  · exact andAll_at (ti_345 n0) (by omega) h345
  by_cases h360 : n < 375
  · exact andAll_at (ti_360 n0) (by omega) h360
  by_cases h375 : n < 390
  · exact andAll_at (ti_375 n0) (by omega) h375
  by_cases h390 : n < 405
  · exact andAll_at (ti_390 n0) (by omega) h390
  by_cases h405 : n < 420
  · exact andAll_at (ti_405 n0) (by omega) h405
  by_cases h420 : n < 435
  · exact andAll_at (ti_420 n0) (by omega) h420
  by_cases h435 : n < 450
  · exact andAll_at (ti_435 n0) (by omega) h435
  by_cases h450 : n < 465
  · exact andAll_at (ti_450 n0) (by omega) h450
  by_cases h465 : n < 480
  · exact andAll_at (ti_465 n0) (by omega) h465
  by_cases h480 : n < 495
  · exact andAll_at (ti_480 n0) (by omega) h480
  by_cases h495 : n < 510
  · exact andAll_at (ti_495 n0) (by omega) h495
  by_cases h510 : n < 525
  · exact andAll_at (ti_510 n0) (by omega) h510
  by_cases h525 : n < 540
  · exact andAll_at (ti_525 n0) (by omega) h525
  by_cases h540 : n < 555
  · exact andAll_at (ti_540 n0) (by omega) h540
  by_cases h555 : n < 570
  · exact andAll_at (ti_555 n0) (by omega) h555
  by_cases h570 : n < 585
  · exact andAll_at (ti_570 n0) (by omega) h570
  by_cases h585 : n < 600
  · exact andAll_at (ti_585 n0) (by omega) h585
  by_cases h600 : n < 615
  · exact andAll_at (ti_600 n0) (by omega) h600
  by_cases h615 : n < 630
  · exact andAll_at (ti_615 n0) (by omega) h615
  by_cases h630 : n < 645
  · exact andAll_at (ti_630 n0) (by omega) h630
  by_cases h645 : n < 660
  · exact andAll_at (ti_645 n0) (by omega) h645
  by_cases h660 : n < 675
  · exact andAll_at (ti_660 n0) (by omega) h660
  by_cases h675 : n < 690
  · exact andAll_at (ti_675 n0) (by omega) h675
  by_cases h690 : n < 705
  · exact andAll_at (ti_690 n0) (by omega) h690
  by_cases h705 : n < 720
  · exact andAll_at (ti_705 n0) (by omega) h705
  by_cases h720 : n < 735
  · exact andAll_at (ti_720 n0) (by omega) h720
  by_cases h735 : n < 750
  · exact andAll_at (ti_735 n0) (by omega) h735
  by_cases h750 : n < 765
  · exact andAll_at (ti_750 n0) (by omega) h750
  by_cases h765 : n < 780
  · exact andAll_at (ti_765 n0) (by omega) h765
  by_cases h780 : n < 795
  · exact andAll_at (ti_780 n0) (by omega) h780
  by_cases h795 : n < 810
  · exact andAll_at (ti_795 n0) (by omega) h795
  by_cases h810 : n < 825
  · exact andAll_at (ti_810 n0) (by omega) h810
  by_cases h825 : n < 840
  · exact andAll_at (ti_825 n0) (by omega) h825
  by_cases h840 : n < 855
  · exact andAll_at (ti_840 n0) (by omega) h840
  by_cases h855 : n < 870
  · exact andAll_at (ti_855 n0) (by omega) h855
  by_cases h870 : n < 885
  · exact andAll_at (ti_870 n0) (by omega) h870
  by_cases h885 : n < 900
  · exact andAll_at (ti_885 n0) (by omega) h885
  by_cases h900 : n < 901
  · exact andAll_at (ti_900 n0) (by omega) h900
  omega
theorem k_ti {x v : Int} (h : 0 ≤ x) (h' : x ≤ 900) (hv : x = v) : conOK (261, [intV x], none, .tup [.int .i64 v, okV0]) := by
  subst hv
  obtain ⟨n, rfl⟩ := Int.eq_ofNat_of_zero_le h
  exact con_of m261 o261 (fa_cons (plain_int _) fa_nil) fun N hN => ti_all (by omega) (by omega)
theorem pow_q {n : Nat} (q : Nat) (h : n ≤ q * 4) : 2 ^ n ≤ (2 ^ q) ^ 4 := by
  rw [← Nat.pow_mul]
  exact Nat.pow_le_pow_right (by decide) h
theorem pow_lt {a n : Nat} (ha : a ≤ 100) (hn : n ≤ 900) (h : n ≤ 40 ∨ a = 2) : a ^ n < BB ^ 40 := by
  rcases h with h | h
  · have h1 : a ^ n ≤ 100 ^ n := Nat.pow_le_pow_left ha n
    have h2 : 100 ^ n ≤ 100 ^ 40 := Nat.pow_le_pow_right (by decide) h
    exact Nat.lt_of_le_of_lt (Nat.le_trans h1 h2) (by decide)
  · subst h
    exact Nat.lt_of_le_of_lt (pow_q 225 (by omega)) (by decide)
theorem ipow_nat (a n : Nat) : ipow (a : Int) (n : Int) = ((a ^ n : Nat) : Int) := by
  unfold ipow
  rw [Int.toNat_natCast, Int.natCast_pow]
theorem po01 {f : Nat} {b : Int} (h0 : ∀ n0, andAll (runG n0 f (poA b) (poR b)) 21 0) (h1 : ∀ n0, andAll (runG n0 f (poA b) (poR b)) 20 21) {n N : Nat} (hn : n ≤ 40) (hN : 201 ≤ N) : runE EL N f [intV b, intV (n : Int)] = some (.tup [intV (ipow b (n : Int)), okV0]) := by
  obtain ⟨n0, rfl⟩ : ∃ n0, N = n0 + 1 + 200 := ⟨N - 201, by omega⟩
  by_cases h : n < 21
  · exact andAll_at (h0 n0) (Nat.zero_le _) (by omega)
  · exact andAll_at (h1 n0) (by omega) (by omega)
theorem k_po {x y v : Int} (hx : 0 ≤ x) (hx' : x ≤ 100) (hy : 0 ≤ y) (hy' : y ≤ 900) (h : y ≤ 40 ∨ x = 2) (hv : ipow x y = v) : conOK (163, [intV x, intV y], none, .tup [intV v, okV0]) := by
  subst hv
  obtain ⟨a, rfl⟩ := Int.eq_ofNat_of_zero_le hx
  obtain ⟨n, rfl⟩ := Int.eq_ofNat_of_zero_le hy
  refine con_of mm163 oo163 (plain2 _ _) fun N hN => ?_
  by_cases h2 : 2 ≤ a
  · rw [ipow_nat]
    exact pow_run (Nt := 201) h2 (by show a < 1000000000; omega) (by omega) (pow_lt (by omega) (by omega) (by omega)) (fun N hN => ti_all (by omega) hN) (by omega)
  · by_cases h1 : a = 1
    · subst h1; exact po01 po163_1_0 po163_1_21 (by omega) (by omega)
    · have h0 : a = 0 := by omega
      subst h0; exact po01 po163_0_0 po163_0_21 (by omega) (by omega)
theorem k_ci {x y : Int} (hx : 0 ≤ x) (he : x = y) (h : x.toNat < BB ^ 40) : conOK (68, [intV x, intV y], none, .int .i64 0) := by
  subst he
  obtain ⟨a, rfl⟩ := Int.eq_ofNat_of_zero_le hx
  exact con_of mm68 oo68 (plain2 _ _) fun N hN => ci_run (by rw [Int.toNat_natCast] at h; exact h) (by omega)
theorem k_rp {x y : Int} (hx : 0 ≤ x) (hx' : x ≤ 100) (hy : 0 ≤ y) (hy' : y ≤ 900) (h : y ≤ 40 ∨ x = 2) : conOK (10, [intV x, intV y], none, .tup [intV (ipow x y), okV0]) := by
  obtain ⟨a, rfl⟩ := Int.eq_ofNat_of_zero_le hx
  obtain ⟨n, rfl⟩ := Int.eq_ofNat_of_zero_le hy
  refine con_of mm10 oo10 (plain2 _ _) fun N hN => ?_
  by_cases h2 : 2 ≤ a
  · have ha' : a < BB := by show a < 1000000000; omega
    rcases Nat.eq_zero_or_pos n with hn | hn
    · subst hn
      obtain ⟨n0, rfl⟩ : ∃ n0, N = n0 + 1 + 100 := ⟨N - 101, by omega⟩
      rw [ipow_nat, intV_as (by omega) ha']
      exact rp0 (a : Int) (by omega) (by omega) n0
    · rw [ipow_nat, intV_as (by omega) ha', intV_as hn (by show n < 1000000000; omega), intV_nat (Nat.pow_pos (by omega))]
      exact rp_run h2 ha' hn (by omega) (pow_lt (by omega) (by omega) (by omega)) (by omega)
  · by_cases h1 : a = 1
    · subst h1; exact po01 po10_1_0 po10_1_21 (by omega) (by omega)
    · have h0 : a = 0 := by omega
      subst h0; exact po01 po10_0_0 po10_0_21 (by omega) (by omega)
end
end Go.AM.E15
end
section
set_option maxRecDepth 100000
namespace Go.AM.E15
open Go
noncomputable section
def IsTrue (i : Nat) (a n m k : Int) (n0 : Nat) : Prop :=
  ∃ s', doBody EL (recN EL (n0 + 1 + 400)) 8 ((match i with | 1 => lawA1 | 2 => lawA2 | 3 => lawA3 | _ => lawA4) a n m k) false none { (match i with | 1 => lawS1 | 2 => lawS2 | 3 => lawS3 | _ => lawS4) a n m k with lo := ((match i with | 1 => lawS1 | 2 => lawS2 | 3 => lawS3 | _ => lawS4) a n m k).next } = .ret (.bool true) s' false
theorem is_of {A : Int → Int → Int → Int → List V} {S0 : Int → Int → Int → Int → S} {cs : List Con} {ds : List V} {es : List EQ} {z : ZJ} {a n m k : Int} (w : PartP 400 A S0 cs ds es z a n m k) (ht : tabJ cs ds es z = true) (hd : ∀ d ∈ ds, oneV d = true) (he : ∀ q ∈ es, q.Holds) (hc : ∀ c ∈ cs, conOK c) {n0 : Nat} (h0 : M0 ≤ n0) :
    ∃ s', doBody EL (recN EL (n0 + 1 + 400)) 8 (A a n m k) false none { S0 a n m k with lo := (S0 a n m k).next } = .ret (.bool true) s' false :=
  hypJ_ok he z ht (w n0 hd he fun n' hn' c hcc ss hs => hc c hcc n' (Nat.le_trans h0 hn') ss hs)
theorem mul_le2 {x y X Y : Int} (hx : 0 ≤ x) (hx2 : x ≤ X) (hy : 0 ≤ y) (hy2 : y ≤ Y) : x * y ≤ X * Y := Int.mul_le_mul hx2 hy2 hy (by omega)
theorem ipow_nn {x y : Int} (h : 0 ≤ x) : 0 ≤ ipow x y := Int.pow_nonneg h
theorem ipow_lt {x y : Int} (h : 0 ≤ x) (h' : x ≤ 100) (g : 0 ≤ y) (g' : y ≤ 900) (hh : y ≤ 40 ∨ x = 2) : (ipow x y).toNat < BB ^ 40 := by
  obtain ⟨a, rfl⟩ := Int.eq_ofNat_of_zero_le h
  obtain ⟨n, rfl⟩ := Int.eq_ofNat_of_zero_le g
  rw [ipow_nat, Int.toNat_natCast]
  exact pow_lt (by omega) (by omega) (by omega)
theorem fa_app {α : Type} {P : α → Prop} {l : List α} (h' : ∀ x ∈ l, P x) {k : List α} (h : ∀ x ∈ k, P x) : ∀ x ∈ app k l, P x := by
  induction k with
  | nil => exact h'
  | cons y k ih => exact fa_cons (h y (List.mem_cons_self ..)) (ih fun x hx => h x (List.mem_cons_of_mem _ hx))
theorem fa_upL {α : Type} {P : α → Prop} {f : Nat → List α} {K : Nat} (hf : ∀ i, i < K → ∀ x ∈ f i, P x) : ∀ n i, i + n ≤ K → ∀ x ∈ upL f n i, P x
  | 0, _, _ => fa_nil
  | n + 1, i, h => fa_app (fa_upL hf n (i + 1) (by omega)) (hf i (by omega))
theorem fa_up0 {α : Type} {P : α → Prop} {f : Nat → List α} {K : Nat} (hf : ∀ i, i < K → ∀ x ∈ f i, P x) : ∀ x ∈ upL f K 0, P x := fa_upL hf K 0 (by omega)
end
end Go.AM.E15
end
section
set_option maxRecDepth 100000
namespace Go.AM.E15
open Go
noncomputable section
theorem p1p_true {a n m k : Int} (ha : -1000 ≤ a) (ha2 : a ≤ 1000) (hn : 0 ≤ n) (hn2 : n ≤ 900) (hm : 0 ≤ m) (hm2 : m ≤ 100) (hk : 0 ≤ k) (hk2 : k ≤ 40) (gn : 0 < n) {n0 : Nat} (h0 : M0 ≤ n0) : IsTrue 1 a n m k n0 := by
  have en : ((((a + n) - 1) - a) + 1) = n := by omega
  have pw : ipow 2 ((((a + n) - 1) - a) + 1) = ipow 2 ((((a + n) - 1) - a) + 1) := rfl
  have hc1 : ((ipow 2 ((((a + n) - 1) - a) + 1))) = ((ipow 2 n)) := by rw [en]
  have hc0 : 0 ≤ ((ipow 2 ((((a + n) - 1) - a) + 1))) := by rw [hc1]; exact ipow_nn (by omega)
  have hc2 : Int.toNat ((ipow 2 ((((a + n) - 1) - a) + 1))) < BB ^ 40 := by rw [hc1]; exact ipow_lt (by omega) (by omega) hn (by omega) (by omega)
  exact is_of (p1pw a n m k) (by kernel_rfl)
    (fa_cons (oneV_dig _) <|
    fa_cons (oneV_dig _) <|
    fa_cons (oneV_dig _) <|
    fa_cons (oneV_dig _) <|
    fa_cons (oneV_dig _) <| fa_nil)
    (fa_cons rfl <|
    fa_cons rfl <| fa_nil)
    (fa_cons (k_f9 (by omega) (by omega)) <|
    fa_cons (k_f9 (by omega) (by omega)) <|
    fa_cons (k_vc (by omega) (by omega)) <|
    fa_cons (k_vc (by omega) (by omega)) <|
    fa_cons (k_nc (by omega) (by omega)) <|
    fa_cons (k_nc (by omega) (by omega)) <|
    fa_cons (k_lsF (by omega) (by omega) (by omega) (by omega) (by omega)) <|
    fa_cons (k_sb (by omega) (by omega) (by omega) (by omega) (by omega)) <|
    fa_cons (k_fn (by omega) (by omega)) <|
    fa_cons (k_ad (by omega) (by omega) (by omega) (by omega)) <|
    fa_cons (k_fn (by omega) (by omega)) <|
    fa_cons (k_po (by omega) (by omega) (by omega) (by omega) (by omega) pw) <|
    fa_cons (k_ci hc0 hc1 hc2) <| fa_nil) h0
theorem p1z_true {a n m k : Int} (ha : -1000 ≤ a) (ha2 : a ≤ 1000) (hn : 0 ≤ n) (hn2 : n ≤ 900) (hm : 0 ≤ m) (hm2 : m ≤ 100) (hk : 0 ≤ k) (hk2 : k ≤ 40) (gn : n = 0) {n0 : Nat} (h0 : M0 ≤ n0) : IsTrue 1 a n m k n0 := by
  subst gn
  have pw : ipow 2 0 = 1 := by decide
  have hc1 : (1) = ipow 2 0 := pw.symm
  have hc0 : (0:Int) ≤ (1) := by omega
  have hc2 : Int.toNat (1) < BB ^ 40 := by decide
  exact is_of (p1zw a 0 m k) (by kernel_rfl)
    (fa_cons (oneV_dig _) <|
    fa_cons (oneV_dig _) <| fa_nil)
    (fa_cons rfl <|
    fa_cons rfl <| fa_nil)
    (fa_cons (k_f9 (by omega) (by omega)) <|
    fa_cons (k_f9 (by omega) (by omega)) <|
    fa_cons (k_vc (by omega) (by omega)) <|
    fa_cons (k_vc (by omega) (by omega)) <|
    fa_cons (k_nc (by omega) (by omega)) <|
    fa_cons (k_nc (by omega) (by omega)) <|
    fa_cons (k_lsT (by omega) (by omega) (by omega) (by omega) (by omega)) <|
    fa_cons (k_fn (by omega) (by omega)) <|
    fa_cons (k_fn (by omega) (by omega)) <|
    fa_cons (k_po (by omega) (by omega) (by omega) (by omega) (by omega) pw) <|
    fa_cons (k_ci hc0 hc1 hc2) <| fa_nil) h0
end
end Go.AM.E15
end
section
set_option maxRecDepth 100000
namespace Go.AM.E15
open Go
noncomputable section
theorem p20p_true {a n m k : Int} (ha : -1000 ≤ a) (ha2 : a ≤ 1000) (hn : 0 ≤ n) (hn2 : n ≤ 900) (hm : 0 ≤ m) (hm2 : m ≤ 100) (hk : 0 ≤ k) (hk2 : k ≤ 40) (gk : k = 0) (gm : 0 < m) {n0 : Nat} (h0 : M0 ≤ n0) : IsTrue 2 a n m k n0 := by
  have em : ((((a + m) - 1) - a) + 1) = m := by omega
  subst gk
  have pw : ipow ((((a + m) - 1) - a) + 1) 0 = ipow ((((a + m) - 1) - a) + 1) 0 := rfl
  have hc1 : ((ipow ((((a + m) - 1) - a) + 1) 0)) = ipow m 0 := by rw [em]
  have hc0 : 0 ≤ ((ipow ((((a + m) - 1) - a) + 1) 0)) := by rw [hc1]; exact ipow_nn (by omega)
  have hc2 : Int.toNat ((ipow ((((a + m) - 1) - a) + 1) 0)) < BB ^ 40 := by rw [hc1]; exact ipow_lt (by omega) (by omega) (by omega) (by omega) (by omega)
  exact is_of (p20pw a n m 0) (by kernel_rfl)
    (fa_cons (oneV_dig _) <|
    fa_cons (oneV_dig _) <|
    fa_cons (oneV_dig _) <|
    fa_cons (oneV_dig _) <|
    fa_cons (oneV_dig _) <|
    fa_cons (oneV_dig _) <| fa_nil)
    (fa_cons rfl <|
    fa_cons rfl <|
    fa_cons rfl <| fa_nil)
    (fa_cons (k_f9 (by omega) (by omega)) <|
    fa_cons (k_f9 (by omega) (by omega)) <|
    fa_cons (k_vc (by omega) (by omega)) <|
    fa_cons (k_vc (by omega) (by omega)) <|
    fa_cons (k_vc (by omega) (by omega)) <|
    fa_cons (k_nc (by omega) (by omega)) <|
    fa_cons (k_nc (by omega) (by omega)) <|
    fa_cons (k_nc (by omega) (by omega)) <|
    fa_cons (k_lsT (by omega) (by omega) (by omega) (by omega) (by omega)) <|
    fa_cons (k_fn (by omega) (by omega)) <|
    fa_cons (k_fn (by omega) (by omega)) <|
    fa_cons (k_lsF (by omega) (by omega) (by omega) (by omega) (by omega)) <|
    fa_cons (k_ti (by omega) (by omega) (by omega)) <|
    fa_cons (k_lsF (by omega) (by omega) (by omega) (by omega) (by omega)) <|
    fa_cons (k_sb (by omega) (by omega) (by omega) (by omega) (by omega)) <|
    fa_cons (k_fn (by omega) (by omega)) <|
    fa_cons (k_ad (by omega) (by omega) (by omega) (by omega)) <|
    fa_cons (k_po (by omega) (by omega) (by omega) (by omega) (by omega) pw) <|
    fa_cons (k_ci hc0 hc1 hc2) <| fa_nil) h0
theorem p20z_true {a n m k : Int} (ha : -1000 ≤ a) (ha2 : a ≤ 1000) (hn : 0 ≤ n) (hn2 : n ≤ 900) (hm : 0 ≤ m) (hm2 : m ≤ 100) (hk : 0 ≤ k) (hk2 : k ≤ 40) (gk : k = 0) (gm : m = 0) {n0 : Nat} (h0 : M0 ≤ n0) : IsTrue 2 a n m k n0 := by
  subst gk
  subst gm
  have pw : ipow 0 0 = 1 := by decide
  have hc1 : (1) = ipow 0 0 := pw.symm
  have hc0 : (0:Int) ≤ (1) := by omega
  have hc2 : Int.toNat (1) < BB ^ 40 := by decide
  exact is_of (p20zw a n 0 0) (by kernel_rfl)
    (fa_cons (oneV_dig _) <|
    fa_cons (oneV_dig _) <|
    fa_cons (oneV_dig _) <| fa_nil)
    (fa_cons rfl <|
    fa_cons rfl <|
    fa_cons rfl <| fa_nil)
    (fa_cons (k_f9 (by omega) (by omega)) <|
    fa_cons (k_f9 (by omega) (by omega)) <|
    fa_cons (k_vc (by omega) (by omega)) <|
    fa_cons (k_vc (by omega) (by omega)) <|
    fa_cons (k_vc (by omega) (by omega)) <|
    fa_cons (k_nc (by omega) (by omega)) <|
    fa_cons (k_nc (by omega) (by omega)) <|
    fa_cons (k_nc (by omega) (by omega)) <|
    fa_cons (k_lsT (by omega) (by omega) (by omega) (by omega) (by omega)) <|
    fa_cons (k_fn (by omega) (by omega)) <|
    fa_cons (k_fn (by omega) (by omega)) <|
    fa_cons (k_lsF (by omega) (by omega) (by omega) (by omega) (by omega)) <|
    fa_cons (k_ti (by omega) (by omega) (by omega)) <|
    fa_cons (k_lsT (by omega) (by omega) (by omega) (by omega) (by omega)) <|
    fa_cons (k_po (by omega) (by omega) (by omega) (by omega) (by omega) pw) <|
    fa_cons (k_ci hc0 hc1 hc2) <| fa_nil) h0
end
end Go.AM.E15
end
section
set_option maxRecDepth 100000
namespace Go.AM.E15
open Go
noncomputable section
theorem p3pp_true {a n m k : Int} (ha : -1000 ≤ a) (ha2 : a ≤ 1000) (hn : 0 ≤ n) (hn2 : n ≤ 900) (hm : 0 ≤ m) (hm2 : m ≤ 100) (hk : 0 ≤ k) (hk2 : k ≤ 40) (gn : 0 < n) (gm : 0 < m) {n0 : Nat} (h0 : M0 ≤ n0) : IsTrue 3 a n m k n0 := by
  have en : ((((a + n) - 1) - a) + 1) = n := by omega
  have em : ((((a + m) - 1) - a) + 1) = m := by omega
  have hnm : n * m ≤ 90000 := mul_le2 hn hn2 hm hm2
  have hnm0 : 0 ≤ n * m := Int.mul_nonneg hn hm
  have h3 : (0:Int) < n * m := Int.mul_pos gn gm
  have q2 : 1 * ((((a + n) - 1) - a) + 1) * ((((a + m) - 1) - a) + 1) = n * m := by rw [en, em, Int.one_mul]
  have q1 : (1:Int) * ((((a + n) - 1) - a) + 1) = n := by omega
  have hc1 : (((1 * ((((a + n) - 1) - a) + 1)) * ((((a + m) - 1) - a) + 1))) = ((n * m)) := by first | exact q3 | exact q2
  have hc0 : (0:Int) ≤ (((1 * ((((a + n) - 1) - a) + 1)) * ((((a + m) - 1) - a) + 1))) := by omega
  have hc2 : Int.toNat (((1 * ((((a + n) - 1) - a) + 1)) * ((((a + m) - 1) - a) + 1))) < BB ^ 40 := Nat.lt_of_lt_of_le (show Int.toNat (((1 * ((((a + n) - 1) - a) + 1)) * ((((a + m) - 1) - a) + 1))) < 3600001 by omega) (by decide)
  exact is_of (p3ppw a n m k) (by kernel_rfl)
    (fa_cons (oneV_dig _) <|
    fa_cons (oneV_dig _) <|
    fa_cons (oneV_dig _) <|
    fa_cons (oneV_dig _) <|
    fa_cons (oneV_dig _) <|
    fa_cons (oneV_dig _) <|
    fa_cons (oneV_dig _) <|
    fa_cons (oneV_dig _) <|
    fa_cons (oneV_dig _) <| fa_nil)
    (fa_cons rfl <|
    fa_cons rfl <|
    fa_cons rfl <|
    fa_cons rfl <| fa_nil)
    (fa_cons (k_f9 (by omega) (by omega)) <|
    fa_cons (k_f9 (by omega) (by omega)) <|
    fa_cons (k_vc (by omega) (by omega)) <|
    fa_cons (k_vc (by omega) (by omega)) <|
    fa_cons (k_vc (by omega) (by omega)) <|
    fa_cons (k_nc (by omega) (by omega)) <|
    fa_cons (k_nc (by omega) (by omega)) <|
    fa_cons (k_nc (by omega) (by omega)) <|
    fa_cons (k_lsF (by omega) (by omega) (by omega) (by omega) (by omega)) <|
    fa_cons (k_sb (by omega) (by omega) (by omega) (by omega) (by omega)) <|
    fa_cons (k_fn (by omega) (by omega)) <|
    fa_cons (k_ad (by omega) (by omega) (by omega) (by omega)) <|
    fa_cons (k_lsF (by omega) (by omega) (by omega) (by omega) (by omega)) <|
    fa_cons (k_sb (by omega) (by omega) (by omega) (by omega) (by omega)) <|
    fa_cons (k_ad (by omega) (by omega) (by omega) (by omega)) <|
    fa_cons (k_sg1 (by omega) (by omega)) <|
    fa_cons (k_sg1 (by omega) (by omega)) <|
    fa_cons (k_mu (by omega) (by omega) (by omega) (by omega) (by omega)) <|
    fa_cons (k_mu (by omega) (by omega) (by omega) (by omega) (by omega)) <|
    fa_cons (k_ci hc0 hc1 hc2) <| fa_nil) h0
theorem p3pz_true {a n m k : Int} (ha : -1000 ≤ a) (ha2 : a ≤ 1000) (hn : 0 ≤ n) (hn2 : n ≤ 900) (hm : 0 ≤ m) (hm2 : m ≤ 100) (hk : 0 ≤ k) (hk2 : k ≤ 40) (gn : 0 < n) (gm : m = 0) {n0 : Nat} (h0 : M0 ≤ n0) : IsTrue 3 a n m k n0 := by
  have en : ((((a + n) - 1) - a) + 1) = n := by omega
  have hnm : n * m ≤ 90000 := mul_le2 hn hn2 hm hm2
  have hnm0 : 0 ≤ n * m := Int.mul_nonneg hn hm
  have hc1 : (0:Int) = n * m := by rw [gm]; simp
  have hc0 : (0:Int) ≤ (0) := by omega
  have hc2 : Int.toNat (0) < BB ^ 40 := Nat.lt_of_lt_of_le (show Int.toNat (0) < 3600001 by omega) (by decide)
  exact is_of (p3pzw a n m k) (by kernel_rfl)
    (fa_cons (oneV_dig _) <|
    fa_cons (oneV_dig _) <|
    fa_cons (oneV_dig _) <|
    fa_cons (oneV_dig _) <|
    fa_cons (oneV_dig _) <| fa_nil)
    (fa_cons rfl <|
    fa_cons rfl <|
    fa_cons rfl <| fa_nil)
    (fa_cons (k_f9 (by omega) (by omega)) <|
    fa_cons (k_f9 (by omega) (by omega)) <|
    fa_cons (k_vc (by omega) (by omega)) <|
    fa_cons (k_vc (by omega) (by omega)) <|
    fa_cons (k_vc (by omega) (by omega)) <|
    fa_cons (k_nc (by omega) (by omega)) <|
    fa_cons (k_nc (by omega) (by omega)) <|
    fa_cons (k_nc (by omega) (by omega)) <|
    fa_cons (k_lsF (by omega) (by omega) (by omega) (by omega) (by omega)) <|
    fa_cons (k_sb (by omega) (by omega) (by omega) (by omega) (by omega)) <|
    fa_cons (k_fn (by omega) (by omega)) <|
    fa_cons (k_ad (by omega) (by omega) (by omega) (by omega)) <|
    fa_cons (k_lsT (by omega) (by omega) (by omega) (by omega) (by omega)) <|
    fa_cons (k_fn (by omega) (by omega)) <|
    fa_cons (k_sg1 (by omega) (by omega)) <|
    fa_cons (k_sg0 (by omega)) <|
    fa_cons (k_ci hc0 hc1 hc2) <| fa_nil) h0
theorem p3zp_true {a n m k : Int} (ha : -1000 ≤ a) (ha2 : a ≤ 1000) (hn : 0 ≤ n) (hn2 : n ≤ 900) (hm : 0 ≤ m) (hm2 : m ≤ 100) (hk : 0 ≤ k) (hk2 : k ≤ 40) (gn : n = 0) (gm : 0 < m) {n0 : Nat} (h0 : M0 ≤ n0) : IsTrue 3 a n m k n0 := by
  have em : ((((a + m) - 1) - a) + 1) = m := by omega
  have hnm : n * m ≤ 90000 := mul_le2 hn hn2 hm hm2
  have hnm0 : 0 ≤ n * m := Int.mul_nonneg hn hm
  have hc1 : (0:Int) = n * m := by rw [gn]; simp
  have hc0 : (0:Int) ≤ (0) := by omega
  have hc2 : Int.toNat (0) < BB ^ 40 := Nat.lt_of_lt_of_le (show Int.toNat (0) < 3600001 by omega) (by decide)
  exact is_of (p3zpw a n m k) (by kernel_rfl)
    (fa_cons (oneV_dig _) <|
    fa_cons (oneV_dig _) <|
    fa_cons (oneV_dig _) <|
    fa_cons (oneV_dig _) <|
    fa_cons (oneV_dig _) <| fa_nil)
    (fa_cons rfl <|
    fa_cons rfl <|
    fa_cons rfl <| fa_nil)
    (fa_cons (k_f9 (by omega) (by omega)) <|
    fa_cons (k_f9 (by omega) (by omega)) <|
    fa_cons (k_vc (by omega) (by omega)) <|
    fa_cons (k_vc (by omega) (by omega)) <|
    fa_cons (k_vc (by omega) (by omega)) <|
    fa_cons (k_nc (by omega) (by omega)) <|
    fa_cons (k_nc (by omega) (by omega)) <|
    fa_cons (k_nc (by omega) (by omega)) <|
    fa_cons (k_lsT (by omega) (by omega) (by omega) (by omega) (by omega)) <|
    fa_cons (k_fn (by omega) (by omega)) <|
    fa_cons (k_lsF (by omega) (by omega) (by omega) (by omega) (by omega)) <|
    fa_cons (k_sb (by omega) (by omega) (by omega) (by omega) (by omega)) <|
    fa_cons (k_fn (by omega) (by omega)) <|
    fa_cons (k_ad (by omega) (by omega) (by omega) (by omega)) <|
    fa_cons (k_sg0 (by omega)) <|
    fa_cons (k_ci hc0 hc1 hc2) <| fa_nil) h0
theorem p3zz_true {a n m k : Int} (ha : -1000 ≤ a) (ha2 : a ≤ 1000) (hn : 0 ≤ n) (hn2 : n ≤ 900) (hm : 0 ≤ m) (hm2 : m ≤ 100) (hk : 0 ≤ k) (hk2 : k ≤ 40) (gn : n = 0) (gm : m = 0) {n0 : Nat} (h0 : M0 ≤ n0) : IsTrue 3 a n m k n0 := by
  have hnm : n * m ≤ 90000 := mul_le2 hn hn2 hm hm2
  have hnm0 : 0 ≤ n * m := Int.mul_nonneg hn hm
  have hc1 : (0:Int) = n * m := by rw [gn]; simp
  have hc0 : (0:Int) ≤ (0) := by omega
  have hc2 : Int.toNat (0) < BB ^ 40 := Nat.lt_of_lt_of_le (show Int.toNat (0) < 3600001 by omega) (by decide)
  exact is_of (p3zzw a n m k) (by kernel_rfl)
    (fa_cons (oneV_dig _) <|
    fa_cons (oneV_dig _) <|
    fa_cons (oneV_dig _) <| fa_nil)
    (fa_cons rfl <|
    fa_cons rfl <|
    fa_cons rfl <| fa_nil)
    (fa_cons (k_f9 (by omega) (by omega)) <|
    fa_cons (k_f9 (by omega) (by omega)) <|
    fa_cons (k_vc (by omega) (by omega)) <|
    fa_cons (k_vc (by omega) (by omega)) <|
    fa_cons (k_vc (by omega) (by omega)) <|
    fa_cons (k_nc (by omega) (by omega)) <|
    fa_cons (k_nc (by omega) (by omega)) <|
    fa_cons (k_nc (by omega) (by omega)) <|
    fa_cons (k_lsT (by omega) (by omega) (by omega) (by omega) (by omega)) <|
    fa_cons (k_fn (by omega) (by omega)) <|
    fa_cons (k_lsT (by omega) (by omega) (by omega) (by omega) (by omega)) <|
    fa_cons (k_fn (by omega) (by omega)) <|
    fa_cons (k_sg0 (by omega)) <|
    fa_cons (k_ci hc0 hc1 hc2) <| fa_nil) h0
end
end Go.AM.E15
end
section
set_option maxRecDepth 100000
namespace Go.AM.E15
open Go
noncomputable section
theorem p4ppp_true {a n m k : Int} (ha : -1000 ≤ a) (ha2 : a ≤ 1000) (hn : 0 ≤ n) (hn2 : n ≤ 900) (hm : 0 ≤ m) (hm2 : m ≤ 100) (hk : 0 ≤ k) (hk2 : k ≤ 40) (gn : 0 < n) (gm : 0 < m) (gk : 0 < k) {n0 : Nat} (h0 : M0 ≤ n0) : IsTrue 4 a n m k n0 := by
  have en : ((((a + n) - 1) - a) + 1) = n := by omega
  have em : ((((a + m) - 1) - a) + 1) = m := by omega
  have ek : ((((a + k) - 1) - a) + 1) = k := by omega
  have hnm : n * m ≤ 90000 := mul_le2 hn hn2 hm hm2
  have hnm0 : 0 ≤ n * m := Int.mul_nonneg hn hm
  have hnmk : n * m * k ≤ 3600000 := mul_le2 hnm0 hnm hk hk2
  have h3 : (0:Int) < n * m := Int.mul_pos gn gm
  have q2 : 1 * ((((a + n) - 1) - a) + 1) * ((((a + m) - 1) - a) + 1) = n * m := by rw [en, em, Int.one_mul]
  have h4 : (0:Int) < n * m * k := Int.mul_pos h3 gk
  have q3 : 1 * ((((a + n) - 1) - a) + 1) * ((((a + m) - 1) - a) + 1) * ((((a + k) - 1) - a) + 1) = n * m * k := by rw [q2, ek]
  have q1 : (1:Int) * ((((a + n) - 1) - a) + 1) = n := by omega
  have hc1 : ((((1 * ((((a + n) - 1) - a) + 1)) * ((((a + m) - 1) - a) + 1)) * ((((a + k) - 1) - a) + 1))) = (((n * m) * k)) := by first | exact q3 | exact q2
  have hc0 : (0:Int) ≤ ((((1 * ((((a + n) - 1) - a) + 1)) * ((((a + m) - 1) - a) + 1)) * ((((a + k) - 1) - a) + 1))) := by omega
  have hc2 : Int.toNat ((((1 * ((((a + n) - 1) - a) + 1)) * ((((a + m) - 1) - a) + 1)) * ((((a + k) - 1) - a) + 1))) < BB ^ 40 := Nat.lt_of_lt_of_le (show Int.toNat ((((1 * ((((a + n) - 1) - a) + 1)) * ((((a + m) - 1) - a) + 1)) * ((((a + k) - 1) - a) + 1))) < 3600001 by omega) (by decide)
  exact is_of (p4pppw a n m k) (by kernel_rfl)
    (fa_cons (oneV_dig _) <|
    fa_cons (oneV_dig _) <|
    fa_cons (oneV_dig _) <|
    fa_cons (oneV_dig _) <|
    fa_cons (oneV_dig _) <|
    fa_cons (oneV_dig _) <|
    fa_cons (oneV_dig _) <|
    fa_cons (oneV_dig _) <|
    fa_cons (oneV_dig _) <|
    fa_cons (oneV_dig _) <|
    fa_cons (oneV_dig _) <|
    fa_cons (oneV_dig _) <|
    fa_cons (oneV_dig _) <| fa_nil)
    (fa_cons rfl <|
    fa_cons rfl <|
    fa_cons rfl <|
    fa_cons rfl <|
    fa_cons rfl <|
    fa_cons rfl <| fa_nil)
    (fa_cons (k_f9 (by omega) (by omega)) <|
    fa_cons (k_f9 (by omega) (by omega)) <|
    fa_cons (k_vc (by omega) (by omega)) <|
    fa_cons (k_vc (by omega) (by omega)) <|
    fa_cons (k_vc (by omega) (by omega)) <|
    fa_cons (k_vc (by omega) (by omega)) <|
    fa_cons (k_nc (by omega) (by omega)) <|
    fa_cons (k_nc (by omega) (by omega)) <|
    fa_cons (k_nc (by omega) (by omega)) <|
    fa_cons (k_nc (by omega) (by omega)) <|
    fa_cons (k_fn (by omega) (by omega)) <|
    fa_cons (k_fn (by omega) (by omega)) <|
    fa_cons (k_fn (by omega) (by omega)) <|
    fa_cons (k_lsF (by omega) (by omega) (by omega) (by omega) (by omega)) <|
    fa_cons (k_sb (by omega) (by omega) (by omega) (by omega) (by omega)) <|
    fa_cons (k_ad (by omega) (by omega) (by omega) (by omega)) <|
    fa_cons (k_lsF (by omega) (by omega) (by omega) (by omega) (by omega)) <|
    fa_cons (k_sb (by omega) (by omega) (by omega) (by omega) (by omega)) <|
    fa_cons (k_ad (by omega) (by omega) (by omega) (by omega)) <|
    fa_cons (k_lsF (by omega) (by omega) (by omega) (by omega) (by omega)) <|
    fa_cons (k_sb (by omega) (by omega) (by omega) (by omega) (by omega)) <|
    fa_cons (k_ad (by omega) (by omega) (by omega) (by omega)) <|
    fa_cons (k_sg1 (by omega) (by omega)) <|
    fa_cons (k_sg1 (by omega) (by omega)) <|
    fa_cons (k_sg1 (by omega) (by omega)) <|
    fa_cons (k_mu (by omega) (by omega) (by omega) (by omega) (by omega)) <|
    fa_cons (k_mu (by omega) (by omega) (by omega) (by omega) (by omega)) <|
    fa_cons (k_mu (by omega) (by omega) (by omega) (by omega) (by omega)) <|
    fa_cons (k_ci hc0 hc1 hc2) <| fa_nil) h0
theorem p4ppz_true {a n m k : Int} (ha : -1000 ≤ a) (ha2 : a ≤ 1000) (hn : 0 ≤ n) (hn2 : n ≤ 900) (hm : 0 ≤ m) (hm2 : m ≤ 100) (hk : 0 ≤ k) (hk2 : k ≤ 40) (gn : 0 < n) (gm : 0 < m) (gk : k = 0) {n0 : Nat} (h0 : M0 ≤ n0) : IsTrue 4 a n m k n0 := by
  have en : ((((a + n) - 1) - a) + 1) = n := by omega
  have em : ((((a + m) - 1) - a) + 1) = m := by omega
  have hnm : n * m ≤ 90000 := mul_le2 hn hn2 hm hm2
  have hnm0 : 0 ≤ n * m := Int.mul_nonneg hn hm
  have hnmk : n * m * k ≤ 3600000 := mul_le2 hnm0 hnm hk hk2
  have hc1 : (0:Int) = n * m * k := by rw [gk]; simp
  have hc0 : (0:Int) ≤ (0) := by omega
  have hc2 : Int.toNat (0) < BB ^ 40 := Nat.lt_of_lt_of_le (show Int.toNat (0) < 3600001 by omega) (by decide)
  exact is_of (p4ppzw a n m k) (by kernel_rfl)
    (fa_cons (oneV_dig _) <|
    fa_cons (oneV_dig _) <|
    fa_cons (oneV_dig _) <|
    fa_cons (oneV_dig _) <|
    fa_cons (oneV_dig _) <|
    fa_cons (oneV_dig _) <|
    fa_cons (oneV_dig _) <|
    fa_cons (oneV_dig _) <| fa_nil)
    (fa_cons rfl <|
    fa_cons rfl <|
    fa_cons rfl <|
    fa_cons rfl <| fa_nil)
    (fa_cons (k_f9 (by omega) (by omega)) <|
    fa_cons (k_f9 (by omega) (by omega)) <|
    fa_cons (k_vc (by omega) (by omega)) <|
    fa_cons (k_vc (by omega) (by omega)) <|
    fa_cons (k_vc (by omega) (by omega)) <|
    fa_cons (k_vc (by omega) (by omega)) <|
    fa_cons (k_nc (by omega) (by omega)) <|
    fa_cons (k_nc (by omega) (by omega)) <|
    fa_cons (k_nc (by omega) (by omega)) <|
    fa_cons (k_nc (by omega) (by omega)) <|
    fa_cons (k_fn (by omega) (by omega)) <|
    fa_cons (k_fn (by omega) (by omega)) <|
    fa_cons (k_fn (by omega) (by omega)) <|
    fa_cons (k_lsF (by omega) (by omega) (by omega) (by omega) (by omega)) <|
    fa_cons (k_sb (by omega) (by omega) (by omega) (by omega) (by omega)) <|
    fa_cons (k_ad (by omega) (by omega) (by omega) (by omega)) <|
    fa_cons (k_lsF (by omega) (by omega) (by omega) (by omega) (by omega)) <|
    fa_cons (k_sb (by omega) (by omega) (by omega) (by omega) (by omega)) <|
    fa_cons (k_ad (by omega) (by omega) (by omega) (by omega)) <|
    fa_cons (k_lsT (by omega) (by omega) (by omega) (by omega) (by omega)) <|
    fa_cons (k_fn (by omega) (by omega)) <|
    fa_cons (k_sg1 (by omega) (by omega)) <|
    fa_cons (k_sg1 (by omega) (by omega)) <|
    fa_cons (k_sg0 (by omega)) <|
    fa_cons (k_ci hc0 hc1 hc2) <| fa_nil) h0
theorem p4pzp_true {a n m k : Int} (ha : -1000 ≤ a) (ha2 : a ≤ 1000) (hn : 0 ≤ n) (hn2 : n ≤ 900) (hm : 0 ≤ m) (hm2 : m ≤ 100) (hk : 0 ≤ k) (hk2 : k ≤ 40) (gn : 0 < n) (gm : m = 0) (gk : 0 < k) {n0 : Nat} (h0 : M0 ≤ n0) : IsTrue 4 a n m k n0 := by
  have en : ((((a + n) - 1) - a) + 1) = n := by omega
  have ek : ((((a + k) - 1) - a) + 1) = k := by omega
  have hnm : n * m ≤ 90000 := mul_le2 hn hn2 hm hm2
  have hnm0 : 0 ≤ n * m := Int.mul_nonneg hn hm
  have hnmk : n * m * k ≤ 3600000 := mul_le2 hnm0 hnm hk hk2
  have hc1 : (0:Int) = n * m * k := by rw [gm]; simp
  have hc0 : (0:Int) ≤ (0) := by omega
  have hc2 : Int.toNat (0) < BB ^ 40 := Nat.lt_of_lt_of_le (show Int.toNat (0) < 3600001 by omega) (by decide)
  exact is_of (p4pzpw a n m k) (by kernel_rfl)
    (fa_cons (oneV_dig _) <|
    fa_cons (oneV_dig _) <|
    fa_cons (oneV_dig _) <|
    fa_cons (oneV_dig _) <|
    fa_cons (oneV_dig _) <|
    fa_cons (oneV_dig _) <|
    fa_cons (oneV_dig _) <|
    fa_cons (oneV_dig _) <| fa_nil)
    (fa_cons rfl <|
    fa_cons rfl <|
    fa_cons rfl <|
    fa_cons rfl <| fa_nil)
    (fa_cons (k_f9 (by omega) (by omega)) <|
    fa_cons (k_f9 (by omega) (by omega)) <|
    fa_cons (k_vc (by omega) (by omega)) <|
    fa_cons (k_vc (by omega) (by omega)) <|
    fa_cons (k_vc (by omega) (by omega)) <|
    fa_cons (k_vc (by omega) (by omega)) <|
    fa_cons (k_nc (by omega) (by omega)) <|
    fa_cons (k_nc (by omega) (by omega)) <|
    fa_cons (k_nc (by omega) (by omega)) <|
    fa_cons (k_nc (by omega) (by omega)) <|
    fa_cons (k_fn (by omega) (by omega)) <|
    fa_cons (k_fn (by omega) (by omega)) <|
    fa_cons (k_fn (by omega) (by omega)) <|
    fa_cons (k_lsF (by omega) (by omega) (by omega) (by omega) (by omega)) <|
    fa_cons (k_sb (by omega) (by omega) (by omega) (by omega) (by omega)) <|
    fa_cons (k_ad (by omega) (by omega) (by omega) (by omega)) <|
    fa_cons (k_lsT (by omega) (by omega) (by omega) (by omega) (by omega)) <|
    fa_cons (k_fn (by omega) (by omega)) <|
    fa_cons (k_lsF (by omega) (by omega) (by omega) (by omega) (by omega)) <|
    fa_cons (k_sb (by omega) (by omega) (by omega) (by omega) (by omega)) <|
    fa_cons (k_ad (by omega) (by omega) (by omega) (by omega)) <|
    fa_cons (k_sg1 (by omega) (by omega)) <|
    fa_cons (k_sg0 (by omega)) <|
    fa_cons (k_ci hc0 hc1 hc2) <| fa_nil) h0
theorem p4pzz_true {a n m k : Int} (ha : -1000 ≤ a) (ha2 : a ≤ 1000) (hn : 0 ≤ n) (hn2 : n ≤ 900) (hm : 0 ≤ m) (hm2 : m ≤ 100) (hk : 0 ≤ k) (hk2 : k ≤ 40) (gn : 0 < n) (gm : m = 0) (gk : k = 0) {n0 : Nat} (h0 : M0 ≤ n0) : IsTrue 4 a n m k n0 := by
  have en : ((((a + n) - 1) - a) + 1) = n := by omega
  have hnm : n * m ≤ 90000 := mul_le2 hn hn2 hm hm2
  have hnm0 : 0 ≤ n * m := Int.mul_nonneg hn hm
  have hnmk : n * m * k ≤ 3600000 := mul_le2 hnm0 hnm hk hk2
  have hc1 : (0:Int) = n * m * k := by rw [gm]; simp
  have hc0 : (0:Int) ≤ (0) := by omega
  have hc2 : Int.toNat (0) < BB ^ 40 := Nat.lt_of_lt_of_le (show Int.toNat (0) < 3600001 by omega) (by decide)
  exact is_of (p4pzzw a n m k) (by kernel_rfl)
    (fa_cons (oneV_dig _) <|
    fa_cons (oneV_dig _) <|
    fa_cons (oneV_dig _) <|
    fa_cons (oneV_dig _) <|
    fa_cons (oneV_dig _) <|
    fa_cons (oneV_dig _) <| fa_nil)
    (fa_cons rfl <|
    fa_cons rfl <|
    fa_cons rfl <|
    fa_cons rfl <| fa_nil)
    (fa_cons (k_f9 (by omega) (by omega)) <|
    fa_cons (k_f9 (by omega) (by omega)) <|
    fa_cons (k_vc (by omega) (by omega)) <|
    fa_cons (k_vc (by omega) (by omega)) <|
    fa_cons (k_vc (by omega) (by omega)) <|
    fa_cons (k_vc (by omega) (by omega)) <|
    fa_cons (k_nc (by omega) (by omega)) <|
    fa_cons (k_nc (by omega) (by omega)) <|
    fa_cons (k_nc (by omega) (by omega)) <|
    fa_cons (k_nc (by omega) (by omega)) <|
    fa_cons (k_fn (by omega) (by omega)) <|
    fa_cons (k_fn (by omega) (by omega)) <|
    fa_cons (k_fn (by omega) (by omega)) <|
    fa_cons (k_lsF (by omega) (by omega) (by omega) (by omega) (by omega)) <|
    fa_cons (k_sb (by omega) (by omega) (by omega) (by omega) (by omega)) <|
    fa_cons (k_ad (by omega) (by omega) (by omega) (by omega)) <|
    fa_cons (k_lsT (by omega) (by omega) (by omega) (by omega) (by omega)) <|
    fa_cons (k_fn (by omega) (by omega)) <|
    fa_cons (k_lsT (by omega) (by omega) (by omega) (by omega) (by omega)) <|
    fa_cons (k_sg1 (by omega) (by omega)) <|
    fa_cons (k_sg0 (by omega)) <|
    fa_cons (k_ci hc0 hc1 hc2) <| fa_nil) h0
theorem p4zpp_true {a n m k : Int} (ha : -1000 ≤ a) (ha2 : a ≤ 1000) (hn : 0 ≤ n) (hn2 : n ≤ 900) (hm : 0 ≤ m) (hm2 : m ≤ 100) (hk : 0 ≤ k) (hk2 : k ≤ 40) (gn : n = 0) (gm : 0 < m) (gk : 0 < k) {n0 : Nat} (h0 : M0 ≤ n0) : IsTrue 4 a n m k n0 := by
  have em : ((((a + m) - 1) - a) + 1) = m := by omega
  have ek : ((((a + k) - 1) - a) + 1) = k := by omega
  have hnm : n * m ≤ 90000 := mul_le2 hn hn2 hm hm2
  have hnm0 : 0 ≤ n * m := Int.mul_nonneg hn hm
  have hnmk : n * m * k ≤ 3600000 := mul_le2 hnm0 hnm hk hk2
  have hc1 : (0:Int) = n * m * k := by rw [gn]; simp
  have hc0 : (0:Int) ≤ (0) := by omega
  have hc2 : Int.toNat (0) < BB ^ 40 := Nat.lt_of_lt_of_le (show Int.toNat (0) < 3600001 by omega) (by decide)
  exact is_of (p4zppw a n m k) (by kernel_rfl)
    (fa_cons (oneV_dig _) <|
    fa_cons (oneV_dig _) <|
    fa_cons (oneV_dig _) <|
    fa_cons (oneV_dig _) <|
    fa_cons (oneV_dig _) <|
    fa_cons (oneV_dig _) <|
    fa_cons (oneV_dig _) <|
    fa_cons (oneV_dig _) <| fa_nil)
    (fa_cons rfl <|
    fa_cons rfl <|
    fa_cons rfl <|
    fa_cons rfl <| fa_nil)
    (fa_cons (k_f9 (by omega) (by omega)) <|
    fa_cons (k_f9 (by omega) (by omega)) <|
    fa_cons (k_vc (by omega) (by omega)) <|
    fa_cons (k_vc (by omega) (by omega)) <|
    fa_cons (k_vc (by omega) (by omega)) <|
    fa_cons (k_vc (by omega) (by omega)) <|
    fa_cons (k_nc (by omega) (by omega)) <|
    fa_cons (k_nc (by omega) (by omega)) <|
    fa_cons (k_nc (by omega) (by omega)) <|
    fa_cons (k_nc (by omega) (by omega)) <|
    fa_cons (k_fn (by omega) (by omega)) <|
    fa_cons (k_fn (by omega) (by omega)) <|
    fa_cons (k_fn (by omega) (by omega)) <|
    fa_cons (k_lsT (by omega) (by omega) (by omega) (by omega) (by omega)) <|
    fa_cons (k_fn (by omega) (by omega)) <|
    fa_cons (k_lsF (by omega) (by omega) (by omega) (by omega) (by omega)) <|
    fa_cons (k_sb (by omega) (by omega) (by omega) (by omega) (by omega)) <|
    fa_cons (k_ad (by omega) (by omega) (by omega) (by omega)) <|
    fa_cons (k_lsF (by omega) (by omega) (by omega) (by omega) (by omega)) <|
    fa_cons (k_sb (by omega) (by omega) (by omega) (by omega) (by omega)) <|
    fa_cons (k_ad (by omega) (by omega) (by omega) (by omega)) <|
    fa_cons (k_sg0 (by omega)) <|
    fa_cons (k_ci hc0 hc1 hc2) <| fa_nil) h0
theorem p4zpz_true {a n m k : Int} (ha : -1000 ≤ a) (ha2 : a ≤ 1000) (hn : 0 ≤ n) (hn2 : n ≤ 900) (hm : 0 ≤ m) (hm2 : m ≤ 100) (hk : 0 ≤ k) (hk2 : k ≤ 40) (gn : n = 0) (gm : 0 < m) (gk : k = 0) {n0 : Nat} (h0 : M0 ≤ n0) : IsTrue 4 a n m k n0 := by
  have em : ((((a + m) - 1) - a) + 1) = m := by omega
  have hnm : n * m ≤ 90000 := mul_le2 hn hn2 hm hm2
  have hnm0 : 0 ≤ n * m := Int.mul_nonneg hn hm
  have hnmk : n * m * k ≤ 3600000 := mul_le2 hnm0 hnm hk hk2
  have hc1 : (0:Int) = n * m * k := by rw [gn]; simp
  have hc0 : (0:Int) ≤ (0) := by omega
  have hc2 : Int.toNat (0) < BB ^ 40 := Nat.lt_of_lt_of_le (show Int.toNat (0) < 3600001 by omega) (by decide)
  exact is_of (p4zpzw a n m k) (by kernel_rfl)
    (fa_cons (oneV_dig _) <|
    fa_cons (oneV_dig _) <|
    fa_cons (oneV_dig _) <|
    fa_cons (oneV_dig _) <|
    fa_cons (oneV_dig _) <|
    fa_cons (oneV_dig _) <| fa_nil)
    (fa_cons rfl <|
    fa_cons rfl <|
    fa_cons rfl <|
    fa_cons rfl <| fa_nil)
    (fa_cons (k_f9 (by omega) (by omega)) <|
    fa_cons (k_f9 (by omega) (by omega)) <|
    fa_cons (k_vc (by omega) (by omega)) <|
    fa_cons (k_vc (by omega) (by omega)) <|
    fa_cons (k_vc (by omega) (by omega)) <|
    fa_cons (k_vc (by omega) (by omega)) <|
    fa_cons (k_nc (by omega) (by omega)) <|
    fa_cons (k_nc (by omega) (by omega)) <|
    fa_cons (k_nc (by omega) (by omega)) <|
    fa_cons (k_nc (by omega) (by omega)) <|
    fa_cons (k_fn (by omega) (by omega)) <|
    fa_cons (k_fn (by omega) (by omega)) <|
    fa_cons (k_fn (by omega) (by omega)) <|
    fa_cons (k_lsT (by omega) (by omega) (by omega) (by omega) (by omega)) <|
    fa_cons (k_fn (by omega) (by omega)) <|
    fa_cons (k_lsF (by omega) (by omega) (by omega) (by omega) (by omega)) <|
    fa_cons (k_sb (by omega) (by omega) (by omega) (by omega) (by omega)) <|
    fa_cons (k_ad (by omega) (by omega) (by omega) (by omega)) <|
    fa_cons (k_lsT (by omega) (by omega) (by omega) (by omega) (by omega)) <|
    fa_cons (k_sg0 (by omega)) <|
    fa_cons (k_ci hc0 hc1 hc2) <| fa_nil) h0
theorem p4zzp_true {a n m k : Int} (ha : -1000 ≤ a) (ha2 : a ≤ 1000) (hn : 0 ≤ n) (hn2 : n ≤ 900) (hm : 0 ≤ m) (hm2 : m ≤ 100) (hk : 0 ≤ k) (hk2 : k ≤ 40) (gn : n = 0) (gm : m = 0) (gk : 0 < k) {n0 : Nat} (h0 : M0 ≤ n0) : IsTrue 4 a n m k n0 := by
  have ek : ((((a + k) - 1) - a) + 1) = k := by omega
  have hnm : n * m ≤ 90000 := mul_le2 hn hn2 hm hm2
  have hnm0 : 0 ≤ n * m := Int.mul_nonneg hn hm
  have hnmk : n * m * k ≤ 3600000 := mul_le2 hnm0 hnm hk hk2
  have hc1 : (0:Int) = n * m * k := by rw [gn]; simp
  have hc0 : (0:Int) ≤ (0) := by omega
  have hc2 : Int.toNat (0) < BB ^ 40 := Nat.lt_of_lt_of_le (show Int.toNat (0) < 3600001 by omega) (by decide)
  exact is_of (p4zzpw a n m k) (by kernel_rfl)
    (fa_cons (oneV_dig _) <|
    fa_cons (oneV_dig _) <|
    fa_cons (oneV_dig _) <|
    fa_cons (oneV_dig _) <|
    fa_cons (oneV_dig _) <|
    fa_cons (oneV_dig _) <| fa_nil)
    (fa_cons rfl <|
    fa_cons rfl <|
    fa_cons rfl <|
    fa_cons rfl <| fa_nil)
    (fa_cons (k_f9 (by omega) (by omega)) <|
    fa_cons (k_f9 (by omega) (by omega)) <|
    fa_cons (k_vc (by omega) (by omega)) <|
    fa_cons (k_vc (by omega) (by omega)) <|
    fa_cons (k_vc (by omega) (by omega)) <|
    fa_cons (k_vc (by omega) (by omega)) <|
    fa_cons (k_nc (by omega) (by omega)) <|
    fa_cons (k_nc (by omega) (by omega)) <|
    fa_cons (k_nc (by omega) (by omega)) <|
    fa_cons (k_nc (by omega) (by omega)) <|
    fa_cons (k_fn (by omega) (by omega)) <|
    fa_cons (k_fn (by omega) (by omega)) <|
    fa_cons (k_fn (by omega) (by omega)) <|
    fa_cons (k_lsT (by omega) (by omega) (by omega) (by omega) (by omega)) <|
    fa_cons (k_fn (by omega) (by omega)) <|
    fa_cons (k_lsT (by omega) (by omega) (by omega) (by omega) (by omega)) <|
    fa_cons (k_lsF (by omega) (by omega) (by omega) (by omega) (by omega)) <|
    fa_cons (k_sb (by omega) (by omega) (by omega) (by omega) (by omega)) <|
    fa_cons (k_ad (by omega) (by omega) (by omega) (by omega)) <|
    fa_cons (k_sg0 (by omega)) <|
    fa_cons (k_ci hc0 hc1 hc2) <| fa_nil) h0
theorem p4zzz_true {a n m k : Int} (ha : -1000 ≤ a) (ha2 : a ≤ 1000) (hn : 0 ≤ n) (hn2 : n ≤ 900) (hm : 0 ≤ m) (hm2 : m ≤ 100) (hk : 0 ≤ k) (hk2 : k ≤ 40) (gn : n = 0) (gm : m = 0) (gk : k = 0) {n0 : Nat} (h0 : M0 ≤ n0) : IsTrue 4 a n m k n0 := by
  have hnm : n * m ≤ 90000 := mul_le2 hn hn2 hm hm2
  have hnm0 : 0 ≤ n * m := Int.mul_nonneg hn hm
  have hnmk : n * m * k ≤ 3600000 := mul_le2 hnm0 hnm hk hk2
  have hc1 : (0:Int) = n * m * k := by rw [gn]; simp
  have hc0 : (0:Int) ≤ (0) := by omega
  have hc2 : Int.toNat (0) < BB ^ 40 := Nat.lt_of_lt_of_le (show Int.toNat (0) < 3600001 by omega) (by decide)
  exact is_of (p4zzzw a n m k) (by kernel_rfl)
    (fa_cons (oneV_dig _) <|
    fa_cons (oneV_dig _) <|
    fa_cons (oneV_dig _) <|
    fa_cons (oneV_dig _) <| fa_nil)
    (fa_cons rfl <|
    fa_cons rfl <|
    fa_cons rfl <|
    fa_cons rfl <| fa_nil)
    (fa_cons (k_f9 (by omega) (by omega)) <|
    fa_cons (k_f9 (by omega) (by omega)) <|
    fa_cons (k_vc (by omega) (by omega)) <|
    fa_cons (k_vc (by omega) (by omega)) <|
    fa_cons (k_vc (by omega) (by omega)) <|
    fa_cons (k_vc (by omega) (by omega)) <|
    fa_cons (k_nc (by omega) (by omega)) <|
    fa_cons (k_nc (by omega) (by omega)) <|
    fa_cons (k_nc (by omega) (by omega)) <|
    fa_cons (k_nc (by omega) (by omega)) <|
    fa_cons (k_fn (by omega) (by omega)) <|
    fa_cons (k_fn (by omega) (by omega)) <|
    fa_cons (k_fn (by omega) (by omega)) <|
    fa_cons (k_lsT (by omega) (by omega) (by omega) (by omega) (by omega)) <|
    fa_cons (k_fn (by omega) (by omega)) <|
    fa_cons (k_lsT (by omega) (by omega) (by omega) (by omega) (by omega)) <|
    fa_cons (k_lsT (by omega) (by omega) (by omega) (by omega) (by omega)) <|
    fa_cons (k_sg0 (by omega)) <|
    fa_cons (k_ci hc0 hc1 hc2) <| fa_nil) h0
end
end Go.AM.E15
end
