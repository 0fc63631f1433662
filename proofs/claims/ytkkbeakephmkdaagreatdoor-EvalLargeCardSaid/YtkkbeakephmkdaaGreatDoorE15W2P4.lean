import Derived.KernelRfl
import Derived.Test.YtkkbeakephmkdaaGreatDoorE15L
set_option linter.all false
set_option maxRecDepth 100000
namespace Go.AM.E15
open Go
noncomputable section
theorem p2p_4 : p2pP 4 := by
  intro a n m n0 hd he hc
  refine cast ?_ (inl_ex (E := EL) (cs := p2pC a n m 4) (ds := p2pD a n m 4) (es := p2pE a n m 4) hd he hc 400 8 (lawA2 a n m (Int.ofNat 4)) { lawS2 a n m (Int.ofNat 4) with lo := (lawS2 a n m (Int.ofNat 4)).next } (p2pZ 4))
  kernel_rfl
theorem p2p_12 : p2pP 12 := by
  intro a n m n0 hd he hc
  refine cast ?_ (inl_ex (E := EL) (cs := p2pC a n m 12) (ds := p2pD a n m 12) (es := p2pE a n m 12) hd he hc 400 8 (lawA2 a n m (Int.ofNat 12)) { lawS2 a n m (Int.ofNat 12) with lo := (lawS2 a n m (Int.ofNat 12)).next } (p2pZ 12))
  kernel_rfl
theorem p2p_20 : p2pP 20 := by
  intro a n m n0 hd he hc
  refine cast ?_ (inl_ex (E := EL) (cs := p2pC a n m 20) (ds := p2pD a n m 20) (es := p2pE a n m 20) hd he hc 400 8 (lawA2 a n m (Int.ofNat 20)) { lawS2 a n m (Int.ofNat 20) with lo := (lawS2 a n m (Int.ofNat 20)).next } (p2pZ 20))
  kernel_rfl
theorem p2p_28 : p2pP 28 := by
  intro a n m n0 hd he hc
  refine cast ?_ (inl_ex (E := EL) (cs := p2pC a n m 28) (ds := p2pD a n m 28) (es := p2pE a n m 28) hd he hc 400 8 (lawA2 a n m (Int.ofNat 28)) { lawS2 a n m (Int.ofNat 28) with lo := (lawS2 a n m (Int.ofNat 28)).next } (p2pZ 28))
  kernel_rfl
theorem p2p_36 : p2pP 36 := by
  intro a n m n0 hd he hc
  refine cast ?_ (inl_ex (E := EL) (cs := p2pC a n m 36) (ds := p2pD a n m 36) (es := p2pE a n m 36) hd he hc 400 8 (lawA2 a n m (Int.ofNat 36)) { lawS2 a n m (Int.ofNat 36) with lo := (lawS2 a n m (Int.ofNat 36)).next } (p2pZ 36))
  kernel_rfl
end
end Go.AM.E15
