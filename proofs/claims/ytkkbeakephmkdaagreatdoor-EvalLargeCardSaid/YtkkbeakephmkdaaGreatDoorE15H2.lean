import Derived.KernelRfl
import Derived.Test.YtkkbeakephmkdaaGreatDoorE15J2
import Derived.Test.YtkkbeakephmkdaaGreatDoorE15W2P0
import Derived.Test.YtkkbeakephmkdaaGreatDoorE15W2P1
import Derived.Test.YtkkbeakephmkdaaGreatDoorE15W2P2
import Derived.Test.YtkkbeakephmkdaaGreatDoorE15W2P3
import Derived.Test.YtkkbeakephmkdaaGreatDoorE15W2P4
import Derived.Test.YtkkbeakephmkdaaGreatDoorE15W2P5
import Derived.Test.YtkkbeakephmkdaaGreatDoorE15W2P6
import Derived.Test.YtkkbeakephmkdaaGreatDoorE15W2P7
import Derived.Test.YtkkbeakephmkdaaGreatDoorE15W2Z0
import Derived.Test.YtkkbeakephmkdaaGreatDoorE15W2Z1
import Derived.Test.YtkkbeakephmkdaaGreatDoorE15W2Z2
import Derived.Test.YtkkbeakephmkdaaGreatDoorE15W2Z3
import Derived.Test.YtkkbeakephmkdaaGreatDoorE15W2Z4
import Derived.Test.YtkkbeakephmkdaaGreatDoorE15W2Z5
import Derived.Test.YtkkbeakephmkdaaGreatDoorE15W2Z6
import Derived.Test.YtkkbeakephmkdaaGreatDoorE15W2Z7
import Derived.Test.YtkkbeakephmkdaaGreatDoorE15L
set_option linter.all false
section
set_option maxRecDepth 100000
namespace Go.AM.E15
open Go
noncomputable section
theorem p2p_all {K : Nat} (h : 1 ≤ K) (h2 : K ≤ 40) : p2pP K ∧ ∀ a n m : Int, tabJ (p2pC a n m K) (p2pD a n m K) (p2pE a n m K) (p2pZ K) = true := by
  by_cases h1 : K = 1
  · subst h1; exact ⟨p2p_1, fun a n m => by kernel_rfl⟩
  by_cases h2 : K = 2
  · subst h2; exact ⟨p2p_2, fun a n m => by kernel_rfl⟩
  by_cases h3 : K = 3
  · subst h3; exact ⟨p2p_3, fun a n m => by kernel_rfl⟩
  by_cases h4 : K = 4
  · subst h4; exact ⟨p2p_4, fun a n m => by kernel_rfl⟩
  by_cases h5 : K = 5
  · subst h5; exact ⟨p2p_5, fun a n m => by kernel_rfl⟩
  by_cases h6 : K = 6
  · subst h6; exact ⟨p2p_6, fun a n m => by kernel_rfl⟩
  by_cases h7 : K = 7
  · subst h7; exact ⟨p2p_7, fun a n m => by kernel_rfl⟩
  by_cases h8 : K = 8
  · subst h8; exact ⟨p2p_8, fun a n m => by kernel_rfl⟩
  by_cases h9 : K = 9
  · subst h9; exact ⟨p2p_9, fun a n m => by kernel_rfl⟩
  by_cases h10 : K = 10
  · subst h10; exact ⟨p2p_10, fun a n m => by kernel_rfl⟩
  by_cases h11 : K = 11
  · subst h11; exact ⟨p2p_11, fun a n m => by kernel_rfl⟩
  by_cases h12 : K = 12
  · subst h12; exact ⟨p2p_12, fun a n m => by kernel_rfl⟩
  by_cases h13 : K = 13
  · subst h13; exact ⟨p2p_13, fun a n m => by kernel_rfl⟩
  by_cases h14 : K = 14
  · subst h14; exact ⟨p2p_14, fun a n m => by kernel_rfl⟩
  by_cases h15 : K = 15
  · subst h15; exact ⟨p2p_15, fun a n m => by kernel_rfl⟩
  by_cases h16 : K = 16
  · subst h16; exact ⟨p2p_16, fun a n m => by kernel_rfl⟩
  by_cases h17 : K = 17
  · subst h17; exact ⟨p2p_17, fun a n m => by kernel_rfl⟩
  by_cases h18 : K = 18
  · subst h18; exact ⟨p2p_18, fun a n m => by kernel_rfl⟩
  by_cases h19 : K = 19
  · subst h19; exact ⟨p2p_19, fun a n m => by kernel_rfl⟩
  by_cases h20 : K = 20
  · subst h20; exact ⟨p2p_20, fun a n m => by kernel_rfl⟩
  by_cases h21 : K = 21
  · subst h21; exact ⟨p2p_21, fun a n m => by kernel_rfl⟩
  by_cases h22 : K = 22
  · subst h22; exact ⟨p2p_22, fun a n m => by kernel_rfl⟩
  by_cases h23 : K = 23
  · subst h23; exact ⟨p2p_23, fun a n m => by kernel_rfl⟩
  by_cases h24 : K = 24
  · subst h24; exact ⟨p2p_24, fun a n m => by kernel_rfl⟩
  by_cases h25 : K = 25
  · subst h25; exact ⟨p2p_25, fun a n m => by kernel_rfl⟩
  by_cases h26 : K = 26
  · subst h26; exact ⟨p2p_26, fun a n m => by kernel_rfl⟩
  by_cases h27 : K = 27
  · subst h27; exact ⟨p2p_27, fun a n m => by kernel_rfl⟩
  by_cases h28 : K = 28
  · subst h28; exact ⟨p2p_28, fun a n m => by kernel_rfl⟩
  by_cases h29 : K = 29
  · subst h29; exact ⟨p2p_29, fun a n m => by kernel_rfl⟩
  by_cases h30 : K = 30
  · subst h30; exact ⟨p2p_30, fun a n m => by kernel_rfl⟩
  by_cases h31 : K = 31
  · subst h31; exact ⟨p2p_31, fun a n m => by kernel_rfl⟩
  by_cases h32 : K = 32
  · subst h32; exact ⟨p2p_32, fun a n m => by kernel_rfl⟩
  by_cases h33 : K = 33
  · subst h33; exact ⟨p2p_33, fun a n m => by kernel_rfl⟩
  by_cases h34 : K = 34
  · subst h34; exact ⟨p2p_34, fun a n m => by kernel_rfl⟩
  by_cases h35 : K = 35
  · subst h35; exact ⟨p2p_35, fun a n m => by kernel_rfl⟩
  by_cases h36 : K = 36
  · subst h36; exact ⟨p2p_36, fun a n m => by kernel_rfl⟩
  by_cases h37 : K = 37
  · subst h37; exact ⟨p2p_37, fun a n m => by kernel_rfl⟩
  by_cases h38 : K = 38
  · subst h38; exact ⟨p2p_38, fun a n m => by kernel_rfl⟩
  by_cases h39 : K = 39
  · subst h39; exact ⟨p2p_39, fun a n m => by kernel_rfl⟩
  by_cases h40 : K = 40
  · subst h40; exact ⟨p2p_40, fun a n m => by kernel_rfl⟩
  omega
theorem p2z_all {K : Nat} (h : 1 ≤ K) (h2 : K ≤ 40) : p2zP K ∧ ∀ a n m : Int, tabJ (p2zC a n m K) (p2zD a n m K) (p2zE a n m K) (p2zZ K) = true := by
  by_cases h1 : K = 1
  · subst h1; exact ⟨p2z_1, fun a n m => by kernel_rfl⟩
  by_cases h2 : K = 2
  · subst h2; exact ⟨p2z_2, fun a n m => by kernel_rfl⟩
  by_cases h3 : K = 3
  · subst h3; exact ⟨p2z_3, fun a n m => by kernel_rfl⟩
  by_cases h4 : K = 4
  · subst h4; exact ⟨p2z_4, fun a n m => by kernel_rfl⟩
  by_cases h5 : K = 5
  · subst h5; exact ⟨p2z_5, fun a n m => by kernel_rfl⟩
  by_cases h6 : K = 6
  · subst h6; exact ⟨p2z_6, fun a n m => by kernel_rfl⟩
  by_cases h7 : K = 7
  · subst h7; exact ⟨p2z_7, fun a n m => by kernel_rfl⟩
  by_cases h8 : K = 8
  · subst h8; exact ⟨p2z_8, fun a n m => by kernel_rfl⟩
  by_cases h9 : K = 9
  · subst h9; exact ⟨p2z_9, fun a n m => by kernel_rfl⟩
  by_cases h10 : K = 10
  · subst h10; exact ⟨p2z_10, fun a n m => by kernel_rfl⟩
  by_cases h11 : K = 11
  · subst h11; exact ⟨p2z_11, fun a n m => by kernel_rfl⟩
  by_cases h12 : K = 12
  · subst h12; exact ⟨p2z_12, fun a n m => by kernel_rfl⟩
  by_cases h13 : K = 13
  · subst h13; exact ⟨p2z_13, fun a n m => by kernel_rfl⟩
  by_cases h14 : K = 14
  · subst h14; exact ⟨p2z_14, fun a n m => by kernel_rfl⟩
  by_cases h15 : K = 15
  · subst h15; exact ⟨p2z_15, fun a n m => by kernel_rfl⟩
  by_cases h16 : K = 16
  · subst h16; exact ⟨p2z_16, fun a n m => by kernel_rfl⟩
  by_cases h17 : K = 17
  · subst h17; exact ⟨p2z_17, fun a n m => by kernel_rfl⟩
  by_cases h18 : K = 18
  · subst h18; exact ⟨p2z_18, fun a n m => by kernel_rfl⟩
  by_cases h19 : K = 19
  · subst h19; exact ⟨p2z_19, fun a n m => by kernel_rfl⟩
  by_cases h20 : K = 20
  · subst h20; exact ⟨p2z_20, fun a n m => by kernel_rfl⟩
  by_cases h21 : K = 21
  · subst h21; exact ⟨p2z_21, fun a n m => by kernel_rfl⟩
  by_cases h22 : K = 22
  · subst h22; exact ⟨p2z_22, fun a n m => by kernel_rfl⟩
  by_cases h23 : K = 23
  · subst h23; exact ⟨p2z_23, fun a n m => by kernel_rfl⟩
  by_cases h24 : K = 24
  · subst h24; exact ⟨p2z_24, fun a n m => by kernel_rfl⟩
  by_cases h25 : K = 25
  · subst h25; exact ⟨p2z_25, fun a n m => by kernel_rfl⟩
  by_cases h26 : K = 26
  · subst h26; exact ⟨p2z_26, fun a n m => by kernel_rfl⟩
  by_cases h27 : K = 27
  · subst h27; exact ⟨p2z_27, fun a n m => by kernel_rfl⟩
  by_cases h28 : K = 28
  · subst h28; exact ⟨p2z_28, fun a n m => by kernel_rfl⟩
  by_cases h29 : K = 29
  · subst h29; exact ⟨p2z_29, fun a n m => by kernel_rfl⟩
  by_cases h30 : K = 30
  · subst h30; exact ⟨p2z_30, fun a n m => by kernel_rfl⟩
  by_cases h31 : K = 31
  · subst h31; exact ⟨p2z_31, fun a n m => by kernel_rfl⟩
  by_cases h32 : K = 32
  · subst h32; exact ⟨p2z_32, fun a n m => by kernel_rfl⟩
  by_cases h33 : K = 33
  · subst h33; exact ⟨p2z_33, fun a n m => by kernel_rfl⟩
  by_cases h34 : K = 34
  · subst h34; exact ⟨p2z_34, fun a n m => by kernel_rfl⟩
  by_cases h35 : K = 35
  · subst h35; exact ⟨p2z_35, fun a n m => by kernel_rfl⟩
  by_cases h36 : K = 36
  · subst h36; exact ⟨p2z_36, fun a n m => by kernel_rfl⟩
  by_cases h37 : K = 37
  · subst h37; exact ⟨p2z_37, fun a n m => by kernel_rfl⟩
  by_cases h38 : K = 38
  · subst h38; exact ⟨p2z_38, fun a n m => by kernel_rfl⟩
  by_cases h39 : K = 39
  · subst h39; exact ⟨p2z_39, fun a n m => by kernel_rfl⟩
  by_cases h40 : K = 40
  · subst h40; exact ⟨p2z_40, fun a n m => by kernel_rfl⟩
  omega
theorem p2p_true {a n m : Int} (ha : -1000 ≤ a) (ha2 : a ≤ 1000) (hm : 0 ≤ m) (hm2 : m ≤ 100) (gm : 0 < m) {K : Nat} (hk : 1 ≤ K) (hk2 : K ≤ 40) {n0 : Nat} (h0 : M0 ≤ n0) : IsTrue 2 a n m (Int.ofNat K) n0 := by
  have hK : Int.ofNat K = (K : Int) := rfl
  have em : ((((a + m) - 1) - a) + 1) = m := by omega
  have pw : ipow ((((a + m) - 1) - a) + 1) (Int.ofNat K) = ipow ((((a + m) - 1) - a) + 1) (Int.ofNat K) := rfl
  have hc1 : ((ipow ((((a + m) - 1) - a) + 1) (Int.ofNat K))) = ((ipow m (Int.ofNat K))) := by rw [em]
  have hc0 : 0 ≤ ((ipow ((((a + m) - 1) - a) + 1) (Int.ofNat K))) := by rw [hc1]; exact ipow_nn (by omega)
  have hc2 : Int.toNat ((ipow ((((a + m) - 1) - a) + 1) (Int.ofNat K))) < BB ^ 40 := by rw [hc1]; exact ipow_lt (by omega) (by omega) (by omega) (by omega) (by omega)
  exact is_of ((p2p_all hk hk2).1 a n m) ((p2p_all hk hk2).2 a n m)
    (fa_app (P := fun d => oneV d = true) (fa_up0 (P := fun d => oneV d = true) fun i hi => fa_cons (oneV_dig _) fa_nil) (fa_cons (oneV_dig _) <|
    fa_cons (oneV_dig _) <|
    fa_cons (oneV_dig _) <|
    fa_cons (oneV_dig _) <|
    fa_cons (oneV_dig _) <|
    fa_cons (oneV_dig _) <|
    fa_cons (oneV_dig _) <|
    fa_cons (oneV_dig _) <| fa_nil))
    (fa_cons rfl <|
    fa_cons rfl <|
    fa_cons rfl <|
    fa_cons rfl <| fa_nil)
    (fa_app (P := conOK) (fa_up0 (P := conOK) fun i hi => by
      have hI : Int.ofNat i = (i : Int) := rfl
      exact fa_cons (k_fn (by omega) (by omega)) <| fa_cons (k_ad (by omega) (by omega) (by omega) (by omega)) <| fa_cons (k_vc (by omega) (by omega)) fa_nil) (fa_cons (k_f9 (by omega) (by omega)) <|
    fa_cons (k_f9 (by omega) (by omega)) <|
    fa_cons (k_vc (by omega) (by omega)) <|
    fa_cons (k_vc (by omega) (by omega)) <|
    fa_cons (k_vc (by omega) (by omega)) <|
    fa_cons (k_nc (by omega) (by omega)) <|
    fa_cons (k_nc (by omega) (by omega)) <|
    fa_cons (k_nc (by omega) (by omega)) <|
    fa_cons (k_lsF (by omega) (by omega) (by omega) (by omega) (by omega)) <|
    fa_cons (k_sb (by omega) (by omega) (by omega) (by omega) (by omega)) <|
    fa_cons (k_fn (by omega) (by omega)) <|
    fa_cons (k_ad (by omega) (by omega) (by omega) (by omega)) <|
    fa_cons (k_fn (by omega) (by omega)) <|
    fa_cons (k_lsF (by omega) (by omega) (by omega) (by omega) (by omega)) <|
    fa_cons (k_ti (by omega) (by omega) (by omega)) <|
    fa_cons (k_lsF (by omega) (by omega) (by omega) (by omega) (by omega)) <|
    fa_cons (k_sb (by omega) (by omega) (by omega) (by omega) (by omega)) <|
    fa_cons (k_ad (by omega) (by omega) (by omega) (by omega)) <|
    fa_cons (k_fn (by omega) (by omega)) <|
    fa_cons (k_po (by omega) (by omega) (by omega) (by omega) (by omega) pw) <|
    fa_cons (k_ci hc0 hc1 hc2) <| fa_nil)) h0
theorem p2z_true {a n m : Int} (ha : -1000 ≤ a) (ha2 : a ≤ 1000) (hm : 0 ≤ m) (hm2 : m ≤ 100) (gm : m = 0) {K : Nat} (hk : 1 ≤ K) (hk2 : K ≤ 40) {n0 : Nat} (h0 : M0 ≤ n0) : IsTrue 2 a n m (Int.ofNat K) n0 := by
  have hK : Int.ofNat K = (K : Int) := rfl
  subst gm
  have pw : ipow 0 (Int.ofNat K) = 0 := by unfold ipow; exact Int.zero_pow (by rw [hK, Int.toNat_natCast]; omega)
  have hc1 : (0:Int) = ipow 0 (Int.ofNat K) := pw.symm
  have hc0 : (0:Int) ≤ 0 := Int.le_refl 0
  have hc2 : Int.toNat 0 < BB ^ 40 := by decide
  exact is_of ((p2z_all hk hk2).1 a n 0) ((p2z_all hk hk2).2 a n 0)
    (fa_app (P := fun d => oneV d = true) (fa_up0 (P := fun d => oneV d = true) fun i hi => fa_cons (oneV_dig _) fa_nil) (fa_cons (oneV_dig _) <|
    fa_cons (oneV_dig _) <|
    fa_cons (oneV_dig _) <|
    fa_cons (oneV_dig _) <|
    fa_cons (oneV_dig _) <| fa_nil))
    (fa_cons rfl <|
    fa_cons rfl <|
    fa_cons rfl <|
    fa_cons rfl <| fa_nil)
    (fa_app (P := conOK) (fa_up0 (P := conOK) fun i hi => by
      have hI : Int.ofNat i = (i : Int) := rfl
      exact fa_cons (k_fn (by omega) (by omega)) <| fa_cons (k_ad (by omega) (by omega) (by omega) (by omega)) <| fa_cons (k_vc (by omega) (by omega)) fa_nil) (fa_cons (k_f9 (by omega) (by omega)) <|
    fa_cons (k_f9 (by omega) (by omega)) <|
    fa_cons (k_vc (by omega) (by omega)) <|
    fa_cons (k_vc (by omega) (by omega)) <|
    fa_cons (k_vc (by omega) (by omega)) <|
    fa_cons (k_nc (by omega) (by omega)) <|
    fa_cons (k_nc (by omega) (by omega)) <|
    fa_cons (k_nc (by omega) (by omega)) <|
    fa_cons (k_lsF (by omega) (by omega) (by omega) (by omega) (by omega)) <|
    fa_cons (k_sb (by omega) (by omega) (by omega) (by omega) (by omega)) <|
    fa_cons (k_fn (by omega) (by omega)) <|
    fa_cons (k_ad (by omega) (by omega) (by omega) (by omega)) <|
    fa_cons (k_fn (by omega) (by omega)) <|
    fa_cons (k_lsF (by omega) (by omega) (by omega) (by omega) (by omega)) <|
    fa_cons (k_ti (by omega) (by omega) (by omega)) <|
    fa_cons (k_lsT (by omega) (by omega) (by omega) (by omega) (by omega)) <|
    fa_cons (k_fn (by omega) (by omega)) <|
    fa_cons (k_fn (by omega) (by omega)) <|
    fa_cons (k_po (by omega) (by omega) (by omega) (by omega) (by omega) pw) <|
    fa_cons (k_ci hc0 hc1 hc2) <| fa_nil)) h0
end
end Go.AM.E15
end
section
set_option maxRecDepth 100000
namespace Go.AM.E15
open Go
noncomputable section
def M1 : Nat := 401000
theorem m1 : M1 = M0 + 1000 := rfl
theorem call8 (A : List V) (N : Nat) (s : S) : (recN EL (N + 1)).call 8 A s = backR (live s.heap) s (doBody EL (recN EL N) 8 A false none { s with lo := s.next }) := by kernel_rfl
theorem rsvk_b (h : Tr B) (k : Nat → Bool) (b : Bool) : rsvN h k deep false (.bool b) = some (.bool b) := by kernel_rfl
def conO1 (c : Con) : Prop := ∀ n', M1 ≤ n' → ∀ ss, okS c.2.2.1 ss → (recN EL n').call c.1 c.2.1 ss = .ret c.2.2.2 ss false
theorem conO1_of {c : Con} (h : conOK c) : conO1 c := fun n' hn => h n' (by rw [m1] at hn; omega)
theorem call_is {A : List V} {S1 : S} (h : ∀ n0, M0 ≤ n0 → ∃ s', doBody EL (recN EL (n0 + 1 + 400)) 8 A false none { S1 with lo := S1.next } = .ret (.bool true) s' false) : conO1 (8, A, some S1, .bool true) := by
  intro n' hn ss hs
  have hs : ss = S1 := hs
  subst hs
  obtain ⟨n0, rfl⟩ : ∃ n0, n' = n0 + 1 + 400 + 1 := ⟨n' - 402, by rw [m1] at hn; omega⟩
  obtain ⟨s', h⟩ := h n0 (by rw [m1] at hn; omega)
  show (recN EL (n0 + 1 + 400 + 1)).call 8 A ss = _
  rw [call8, h]
  show retV (rsvN s'.heap (live ss.heap) deep false (.bool true)) ss = _
  rw [rsvk_b]; rfl
theorem is1 {a n m k : Int} (ha : -1000 ≤ a) (ha2 : a ≤ 1000) (hn : 0 ≤ n) (hn2 : n ≤ 900) (hm : 0 ≤ m) (hm2 : m ≤ 100) (hk : 0 ≤ k) (hk2 : k ≤ 40) : conO1 (8, lawA1 a n m k, some (lawS1 a n m k), .bool true) := by
  refine call_is fun n0 h0 => ?_
  rcases Int.lt_or_eq_of_le hn with g | g
  · exact p1p_true ha ha2 hn hn2 hm hm2 hk hk2 g h0
  · exact p1z_true ha ha2 hn hn2 hm hm2 hk hk2 g.symm h0
theorem is2 {a n m k : Int} (ha : -1000 ≤ a) (ha2 : a ≤ 1000) (hn : 0 ≤ n) (hn2 : n ≤ 900) (hm : 0 ≤ m) (hm2 : m ≤ 100) (hk : 0 ≤ k) (hk2 : k ≤ 40) : conO1 (8, lawA2 a n m k, some (lawS2 a n m k), .bool true) := by
  refine call_is fun n0 h0 => ?_
  rcases Int.lt_or_eq_of_le hk with g | g
  · obtain ⟨K, rfl⟩ := Int.eq_ofNat_of_zero_le hk
    rcases Int.lt_or_eq_of_le hm with g2 | g2
    · exact p2p_true ha ha2 hm hm2 g2 (by omega) (by omega) h0
    · exact p2z_true ha ha2 hm hm2 g2.symm (by omega) (by omega) h0
  · rcases Int.lt_or_eq_of_le hm with g2 | g2
    · exact p20p_true ha ha2 hn hn2 hm hm2 hk hk2 g.symm g2 h0
    · exact p20z_true ha ha2 hn hn2 hm hm2 hk hk2 g.symm g2.symm h0
theorem is3 {a n m k : Int} (ha : -1000 ≤ a) (ha2 : a ≤ 1000) (hn : 0 ≤ n) (hn2 : n ≤ 900) (hm : 0 ≤ m) (hm2 : m ≤ 100) (hk : 0 ≤ k) (hk2 : k ≤ 40) : conO1 (8, lawA3 a n m k, some (lawS3 a n m k), .bool true) := by
  refine call_is fun n0 h0 => ?_
  rcases Int.lt_or_eq_of_le hn with g | g <;> rcases Int.lt_or_eq_of_le hm with g2 | g2
  · exact p3pp_true ha ha2 hn hn2 hm hm2 hk hk2 g g2 h0
  · exact p3pz_true ha ha2 hn hn2 hm hm2 hk hk2 g g2.symm h0
  · exact p3zp_true ha ha2 hn hn2 hm hm2 hk hk2 g.symm g2 h0
  · exact p3zz_true ha ha2 hn hn2 hm hm2 hk hk2 g.symm g2.symm h0
theorem is4 {a n m k : Int} (ha : -1000 ≤ a) (ha2 : a ≤ 1000) (hn : 0 ≤ n) (hn2 : n ≤ 900) (hm : 0 ≤ m) (hm2 : m ≤ 100) (hk : 0 ≤ k) (hk2 : k ≤ 40) : conO1 (8, lawA4 a n m k, some (lawS4 a n m k), .bool true) := by
  refine call_is fun n0 h0 => ?_
  rcases Int.lt_or_eq_of_le hn with g | g <;> rcases Int.lt_or_eq_of_le hm with g2 | g2 <;> rcases Int.lt_or_eq_of_le hk with g3 | g3
  · exact p4ppp_true ha ha2 hn hn2 hm hm2 hk hk2 g g2 g3 h0
  · exact p4ppz_true ha ha2 hn hn2 hm hm2 hk hk2 g g2 g3.symm h0
  · exact p4pzp_true ha ha2 hn hn2 hm hm2 hk hk2 g g2.symm g3 h0
  · exact p4pzz_true ha ha2 hn hn2 hm hm2 hk hk2 g g2.symm g3.symm h0
  · exact p4zpp_true ha ha2 hn hn2 hm hm2 hk hk2 g.symm g2 g3 h0
  · exact p4zpz_true ha ha2 hn hn2 hm hm2 hk hk2 g.symm g2 g3.symm h0
  · exact p4zzp_true ha ha2 hn hn2 hm hm2 hk hk2 g.symm g2.symm g3 h0
  · exact p4zzz_true ha ha2 hn hn2 hm hm2 hk hk2 g.symm g2.symm g3.symm h0
theorem grd0_true {a n m k : Int}  (g : a < -1000) {n0 : Nat} (h0 : M1 ≤ n0) : ∃ s', doBody EL (recN EL (n0 + 1 + 60)) 3 [.int .i64 a, .int .i64 n, .int .i64 m, .int .i64 k] false none s0 = .ret (.bool true) s' false := by
  have hC : ∀ c ∈ grd0C a n m k, conO1 c := fa_nil
  have hD : ∀ d ∈ grd0D a n m k, oneV d = true := fa_nil
  have hE : ∀ q ∈ grd0E a n m k, q.Holds := fa_cons (bnleT (by omega)) <| fa_nil
  exact hypJ_ok hE grd0Z (by kernel_rfl) (grd0w a n m k hD hE fun n' hn' c hcc ss hs => hC c hcc n' (Nat.le_trans h0 hn') ss hs)
theorem grd1_true {a n m k : Int} (h0 : -1000 ≤ a) (g : 1000 < a) {n0 : Nat} (h0 : M1 ≤ n0) : ∃ s', doBody EL (recN EL (n0 + 1 + 60)) 3 [.int .i64 a, .int .i64 n, .int .i64 m, .int .i64 k] false none s0 = .ret (.bool true) s' false := by
  have hC : ∀ c ∈ grd1C a n m k, conO1 c := fa_nil
  have hD : ∀ d ∈ grd1D a n m k, oneV d = true := fa_nil
  have hE : ∀ q ∈ grd1E a n m k, q.Holds := fa_cons (bnleF (by omega)) <|
    fa_cons (bnleT (by omega)) <| fa_nil
  exact hypJ_ok hE grd1Z (by kernel_rfl) (grd1w a n m k hD hE fun n' hn' c hcc ss hs => hC c hcc n' (Nat.le_trans h0 hn') ss hs)
theorem grd2_true {a n m k : Int} (h0 : -1000 ≤ a) (h1 : a ≤ 1000) (g : n < 0) {n0 : Nat} (h0 : M1 ≤ n0) : ∃ s', doBody EL (recN EL (n0 + 1 + 60)) 3 [.int .i64 a, .int .i64 n, .int .i64 m, .int .i64 k] false none s0 = .ret (.bool true) s' false := by
  have hC : ∀ c ∈ grd2C a n m k, conO1 c := fa_nil
  have hD : ∀ d ∈ grd2D a n m k, oneV d = true := fa_nil
  have hE : ∀ q ∈ grd2E a n m k, q.Holds := fa_cons (bnleF (by omega)) <|
    fa_cons (bnleF (by omega)) <|
    fa_cons (bnleT (by omega)) <| fa_nil
  exact hypJ_ok hE grd2Z (by kernel_rfl) (grd2w a n m k hD hE fun n' hn' c hcc ss hs => hC c hcc n' (Nat.le_trans h0 hn') ss hs)
theorem grd3_true {a n m k : Int} (h0 : -1000 ≤ a) (h1 : a ≤ 1000) (h2 : 0 ≤ n) (g : 900 < n) {n0 : Nat} (h0 : M1 ≤ n0) : ∃ s', doBody EL (recN EL (n0 + 1 + 60)) 3 [.int .i64 a, .int .i64 n, .int .i64 m, .int .i64 k] false none s0 = .ret (.bool true) s' false := by
  have hC : ∀ c ∈ grd3C a n m k, conO1 c := fa_nil
  have hD : ∀ d ∈ grd3D a n m k, oneV d = true := fa_nil
  have hE : ∀ q ∈ grd3E a n m k, q.Holds := fa_cons (bnleF (by omega)) <|
    fa_cons (bnleF (by omega)) <|
    fa_cons (bnleF (by omega)) <|
    fa_cons (bnleT (by omega)) <| fa_nil
  exact hypJ_ok hE grd3Z (by kernel_rfl) (grd3w a n m k hD hE fun n' hn' c hcc ss hs => hC c hcc n' (Nat.le_trans h0 hn') ss hs)
theorem grd4_true {a n m k : Int} (h0 : -1000 ≤ a) (h1 : a ≤ 1000) (h2 : 0 ≤ n) (h3 : n ≤ 900) (g : m < 0) {n0 : Nat} (h0 : M1 ≤ n0) : ∃ s', doBody EL (recN EL (n0 + 1 + 60)) 3 [.int .i64 a, .int .i64 n, .int .i64 m, .int .i64 k] false none s0 = .ret (.bool true) s' false := by
  have hC : ∀ c ∈ grd4C a n m k, conO1 c := fa_nil
  have hD : ∀ d ∈ grd4D a n m k, oneV d = true := fa_nil
  have hE : ∀ q ∈ grd4E a n m k, q.Holds := fa_cons (bnleF (by omega)) <|
    fa_cons (bnleF (by omega)) <|
    fa_cons (bnleF (by omega)) <|
    fa_cons (bnleF (by omega)) <|
    fa_cons (bnleT (by omega)) <| fa_nil
  exact hypJ_ok hE grd4Z (by kernel_rfl) (grd4w a n m k hD hE fun n' hn' c hcc ss hs => hC c hcc n' (Nat.le_trans h0 hn') ss hs)
theorem grd5_true {a n m k : Int} (h0 : -1000 ≤ a) (h1 : a ≤ 1000) (h2 : 0 ≤ n) (h3 : n ≤ 900) (h4 : 0 ≤ m) (g : 100 < m) {n0 : Nat} (h0 : M1 ≤ n0) : ∃ s', doBody EL (recN EL (n0 + 1 + 60)) 3 [.int .i64 a, .int .i64 n, .int .i64 m, .int .i64 k] false none s0 = .ret (.bool true) s' false := by
  have hC : ∀ c ∈ grd5C a n m k, conO1 c := fa_nil
  have hD : ∀ d ∈ grd5D a n m k, oneV d = true := fa_nil
  have hE : ∀ q ∈ grd5E a n m k, q.Holds := fa_cons (bnleF (by omega)) <|
    fa_cons (bnleF (by omega)) <|
    fa_cons (bnleF (by omega)) <|
    fa_cons (bnleF (by omega)) <|
    fa_cons (bnleF (by omega)) <|
    fa_cons (bnleT (by omega)) <| fa_nil
  exact hypJ_ok hE grd5Z (by kernel_rfl) (grd5w a n m k hD hE fun n' hn' c hcc ss hs => hC c hcc n' (Nat.le_trans h0 hn') ss hs)
theorem grd6_true {a n m k : Int} (h0 : -1000 ≤ a) (h1 : a ≤ 1000) (h2 : 0 ≤ n) (h3 : n ≤ 900) (h4 : 0 ≤ m) (h5 : m ≤ 100) (g : k < 0) {n0 : Nat} (h0 : M1 ≤ n0) : ∃ s', doBody EL (recN EL (n0 + 1 + 60)) 3 [.int .i64 a, .int .i64 n, .int .i64 m, .int .i64 k] false none s0 = .ret (.bool true) s' false := by
  have hC : ∀ c ∈ grd6C a n m k, conO1 c := fa_nil
  have hD : ∀ d ∈ grd6D a n m k, oneV d = true := fa_nil
  have hE : ∀ q ∈ grd6E a n m k, q.Holds := fa_cons (bnleF (by omega)) <|
    fa_cons (bnleF (by omega)) <|
    fa_cons (bnleF (by omega)) <|
    fa_cons (bnleF (by omega)) <|
    fa_cons (bnleF (by omega)) <|
    fa_cons (bnleF (by omega)) <|
    fa_cons (bnleT (by omega)) <| fa_nil
  exact hypJ_ok hE grd6Z (by kernel_rfl) (grd6w a n m k hD hE fun n' hn' c hcc ss hs => hC c hcc n' (Nat.le_trans h0 hn') ss hs)
theorem grd7_true {a n m k : Int} (h0 : -1000 ≤ a) (h1 : a ≤ 1000) (h2 : 0 ≤ n) (h3 : n ≤ 900) (h4 : 0 ≤ m) (h5 : m ≤ 100) (h6 : 0 ≤ k) (g : 40 < k) {n0 : Nat} (h0 : M1 ≤ n0) : ∃ s', doBody EL (recN EL (n0 + 1 + 60)) 3 [.int .i64 a, .int .i64 n, .int .i64 m, .int .i64 k] false none s0 = .ret (.bool true) s' false := by
  have hC : ∀ c ∈ grd7C a n m k, conO1 c := fa_nil
  have hD : ∀ d ∈ grd7D a n m k, oneV d = true := fa_nil
  have hE : ∀ q ∈ grd7E a n m k, q.Holds := fa_cons (bnleF (by omega)) <|
    fa_cons (bnleF (by omega)) <|
    fa_cons (bnleF (by omega)) <|
    fa_cons (bnleF (by omega)) <|
    fa_cons (bnleF (by omega)) <|
    fa_cons (bnleF (by omega)) <|
    fa_cons (bnleF (by omega)) <|
    fa_cons (bnleT (by omega)) <| fa_nil
  exact hypJ_ok hE grd7Z (by kernel_rfl) (grd7w a n m k hD hE fun n' hn' c hcc ss hs => hC c hcc n' (Nat.le_trans h0 hn') ss hs)
theorem law0_true {a n m k : Int} (ha : -1000 ≤ a) (ha2 : a ≤ 1000) (hn : 0 ≤ n) (hn2 : n ≤ 900) (hm : 0 ≤ m) (hm2 : m ≤ 100) (hk : 0 ≤ k) (hk2 : k ≤ 40) {n0 : Nat} (h0 : M1 ≤ n0) : ∃ s', doBody EL (recN EL (n0 + 1 + 60)) 3 [.int .i64 a, .int .i64 n, .int .i64 m, .int .i64 k] false none s0 = .ret (.bool true) s' false := by
  have hnm : n * m ≤ 90000 := mul_le2 hn hn2 hm hm2
  have hnm0 : 0 ≤ n * m := Int.mul_nonneg hn hm
  have hnmk : n * m * k ≤ 3600000 := mul_le2 hnm0 hnm hk hk2
  have hC : ∀ c ∈ law0C a n m k, conO1 c := fa_cons (conO1_of (k_f1 (by omega) (by omega))) <|
    fa_cons (conO1_of (k_f1 (by omega) (by omega))) <|
    fa_cons (conO1_of (k_rp (by omega) (by omega) (by omega) (by omega) (by omega))) <|
    fa_cons (conO1_of (k_f1 (by omega) (by omega))) <|
    fa_cons (conO1_of (k_f1 (by omega) (by omega))) <|
    fa_cons (conO1_of (k_rp (by omega) (by omega) (by omega) (by omega) (by omega))) <|
    fa_cons (conO1_of (k_m1 (by omega) (by omega) (by omega) (by omega) (by omega))) <|
    fa_cons (conO1_of (k_m1 (by omega) (by omega) (by omega) (by omega) (by omega))) <|
    fa_cons (conO1_of (k_f9 (by omega) (by omega))) <|
    fa_cons (conO1_of (k_f9 (by omega) (by omega))) <|
    fa_cons (conO1_of (k_f9 (by omega) (by omega))) <|
    fa_cons (is1 ha ha2 hn hn2 hm hm2 hk hk2) <|
    fa_cons (conO1_of (k_f9 (by omega) (by omega))) <|
    fa_cons (is2 ha ha2 hn hn2 hm hm2 hk hk2) <|
    fa_cons (is3 ha ha2 hn hn2 hm hm2 hk hk2) <|
    fa_cons (is4 ha ha2 hn hn2 hm hm2 hk hk2) <| fa_nil
  have hD : ∀ d ∈ law0D a n m k, oneV d = true := fa_cons (oneV_dig _) <|
    fa_cons (oneV_dig _) <|
    fa_cons (oneV_dig _) <|
    fa_cons (oneV_dig _) <|
    fa_cons (oneV_dig _) <|
    fa_cons (oneV_dig _) <|
    fa_cons (oneV_dig _) <|
    fa_cons (oneV_dig _) <| fa_nil
  have hE : ∀ q ∈ law0E a n m k, q.Holds := fa_cons (bnleF (by omega)) <|
    fa_cons (bnleF (by omega)) <|
    fa_cons (bnleF (by omega)) <|
    fa_cons (bnleF (by omega)) <|
    fa_cons (bnleF (by omega)) <|
    fa_cons (bnleF (by omega)) <|
    fa_cons (bnleF (by omega)) <|
    fa_cons (bnleF (by omega)) <|
    fa_cons (wi64 rfl (by omega) (by omega)) <|
    fa_cons (wi64 rfl (by omega) (by omega)) <|
    fa_cons (wi64 rfl (by omega) (by omega)) <|
    fa_cons (wi64 rfl (by omega) (by omega)) <|
    fa_cons rfl <|
    fa_cons (wi64 rfl (by omega) (by omega)) <|
    fa_cons (wi64 rfl (by omega) (by omega)) <|
    fa_cons rfl <|
    fa_cons rfl <|
    fa_cons rfl <| fa_nil
  exact hypJ_ok hE law0Z (by kernel_rfl) (law0w a n m k hD hE fun n' hn' c hcc ss hs => hC c hcc n' (Nat.le_trans h0 hn') ss hs)
theorem law_true (a n m k : Int) {n0 : Nat} (h0 : M1 ≤ n0) : ∃ s', doBody EL (recN EL (n0 + 1 + 60)) 3 [.int .i64 a, .int .i64 n, .int .i64 m, .int .i64 k] false none s0 = .ret (.bool true) s' false := by
  by_cases h0_ : -1000 ≤ a
  rotate_left
  · exact grd0_true  (by omega) h0
  by_cases h1 : a ≤ 1000
  rotate_left
  · exact grd1_true h0_ (by omega) h0
  by_cases h2 : 0 ≤ n
  rotate_left
  · exact grd2_true h0_ h1 (by omega) h0
  by_cases h3 : n ≤ 900
  rotate_left
  · exact grd3_true h0_ h1 h2 (by omega) h0
  by_cases h4 : 0 ≤ m
  rotate_left
  · exact grd4_true h0_ h1 h2 h3 (by omega) h0
  by_cases h5 : m ≤ 100
  rotate_left
  · exact grd5_true h0_ h1 h2 h3 h4 (by omega) h0
  by_cases h6 : 0 ≤ k
  rotate_left
  · exact grd6_true h0_ h1 h2 h3 h4 h5 (by omega) h0
  by_cases h7 : k ≤ 40
  rotate_left
  · exact grd7_true h0_ h1 h2 h3 h4 h5 h6 (by omega) h0
  exact law0_true h0_ h1 h2 h3 h4 h5 h6 h7 h0
end
end Go.AM.E15
end
