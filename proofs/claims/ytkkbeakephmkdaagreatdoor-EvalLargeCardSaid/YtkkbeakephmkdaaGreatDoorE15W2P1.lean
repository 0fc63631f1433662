import Derived.KernelRfl
import Derived.Test.YtkkbeakephmkdaaGreatDoorE15L
set_option linter.all false
set_option maxRecDepth 100000
namespace Go.AM.E15
open Go
noncomputable section
theorem p2p_1 : p2pP 1 := by
  intro a n m n0 hd he hc
  refine cast ?_ (inl_ex (E := EL) (cs := p2pC a n m 1) (ds := p2pD a n m 1) (es := p2pE a n m 1) hd he hc 400 8 (lawA2 a n m (Int.ofNat 1)) { lawS2 a n m (Int.ofNat 1) with lo := (lawS2 a n m (Int.ofNat 1)).next } (p2pZ 1))
  kernel_rfl
theorem p2p_9 : p2pP 9 := by
  intro a n m n0 hd he hc
  refine cast ?_ (inl_ex (E := EL) (cs := p2pC a n m 9) (ds := p2pD a n m 9) (es := p2pE a n m 9) hd he hc 400 8 (lawA2 a n m (Int.ofNat 9)) { lawS2 a n m (Int.ofNat 9) with lo := (lawS2 a n m (Int.ofNat 9)).next } (p2pZ 9))
  kernel_rfl
theorem p2p_17 : p2pP 17 := by
  intro a n m n0 hd he hc
  refine cast ?_ (inl_ex (E := EL) (cs := p2pC a n m 17) (ds := p2pD a n m 17) (es := p2pE a n m 17) hd he hc 400 8 (lawA2 a n m (Int.ofNat 17)) { lawS2 a n m (Int.ofNat 17) with lo := (lawS2 a n m (Int.ofNat 17)).next } (p2pZ 17))
  kernel_rfl
theorem p2p_25 : p2pP 25 := by
  intro a n m n0 hd he hc
  refine cast ?_ (inl_ex (E := EL) (cs := p2pC a n m 25) (ds := p2pD a n m 25) (es := p2pE a n m 25) hd he hc 400 8 (lawA2 a n m (Int.ofNat 25)) { lawS2 a n m (Int.ofNat 25) with lo := (lawS2 a n m (Int.ofNat 25)).next } (p2pZ 25))
  kernel_rfl
theorem p2p_33 : p2pP 33 := by
  intro a n m n0 hd he hc
  refine cast ?_ (inl_ex (E := EL) (cs := p2pC a n m 33) (ds := p2pD a n m 33) (es := p2pE a n m 33) hd he hc 400 8 (lawA2 a n m (Int.ofNat 33)) { lawS2 a n m (Int.ofNat 33) with lo := (lawS2 a n m (Int.ofNat 33)).next } (p2pZ 33))
  kernel_rfl
end
end Go.AM.E15
