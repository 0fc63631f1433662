import Derived.KernelRfl
import Derived.Test.YtkkbeakephmkdaaGreatDoorE15L
set_option linter.all false
set_option maxRecDepth 100000
namespace Go.AM.E15
open Go
noncomputable section
theorem p2p_7 : p2pP 7 := by
  intro a n m n0 hd he hc
  refine cast ?_ (inl_ex (E := EL) (cs := p2pC a n m 7) (ds := p2pD a n m 7) (es := p2pE a n m 7) hd he hc 400 8 (lawA2 a n m (Int.ofNat 7)) { lawS2 a n m (Int.ofNat 7) with lo := (lawS2 a n m (Int.ofNat 7)).next } (p2pZ 7))
  kernel_rfl
theorem p2p_15 : p2pP 15 := by
  intro a n m n0 hd he hc
  refine cast ?_ (inl_ex (E := EL) (cs := p2pC a n m 15) (ds := p2pD a n m 15) (es := p2pE a n m 15) hd he hc 400 8 (lawA2 a n m (Int.ofNat 15)) { lawS2 a n m (Int.ofNat 15) with lo := (lawS2 a n m (Int.ofNat 15)).next } (p2pZ 15))
  kernel_rfl
theorem p2p_23 : p2pP 23 := by
  intro a n m n0 hd he hc
  refine cast ?_ (inl_ex (E := EL) (cs := p2pC a n m 23) (ds := p2pD a n m 23) (es := p2pE a n m 23) hd he hc 400 8 (lawA2 a n m (Int.ofNat 23)) { lawS2 a n m (Int.ofNat 23) with lo := (lawS2 a n m (Int.ofNat 23)).next } (p2pZ 23))
  kernel_rfl
theorem p2p_31 : p2pP 31 := by
  intro a n m n0 hd he hc
  refine cast ?_ (inl_ex (E := EL) (cs := p2pC a n m 31) (ds := p2pD a n m 31) (es := p2pE a n m 31) hd he hc 400 8 (lawA2 a n m (Int.ofNat 31)) { lawS2 a n m (Int.ofNat 31) with lo := (lawS2 a n m (Int.ofNat 31)).next } (p2pZ 31))
  kernel_rfl
theorem p2p_39 : p2pP 39 := by
  intro a n m n0 hd he hc
  refine cast ?_ (inl_ex (E := EL) (cs := p2pC a n m 39) (ds := p2pD a n m 39) (es := p2pE a n m 39) hd he hc 400 8 (lawA2 a n m (Int.ofNat 39)) { lawS2 a n m (Int.ofNat 39) with lo := (lawS2 a n m (Int.ofNat 39)).next } (p2pZ 39))
  kernel_rfl
end
end Go.AM.E15
