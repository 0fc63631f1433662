import Derived.KernelRfl
import Derived.Test.YtkkbeakephmkdaaGreatDoorE15L
set_option linter.all false
set_option maxRecDepth 100000
namespace Go.AM.E15
open Go
noncomputable section
theorem p2p_2 : p2pP 2 := by
  intro a n m n0 hd he hc
  refine cast ?_ (inl_ex (E := EL) (cs := p2pC a n m 2) (ds := p2pD a n m 2) (es := p2pE a n m 2) hd he hc 400 8 (lawA2 a n m (Int.ofNat 2)) { lawS2 a n m (Int.ofNat 2) with lo := (lawS2 a n m (Int.ofNat 2)).next } (p2pZ 2))
  kernel_rfl
theorem p2p_10 : p2pP 10 := by
  intro a n m n0 hd he hc
  refine cast ?_ (inl_ex (E := EL) (cs := p2pC a n m 10) (ds := p2pD a n m 10) (es := p2pE a n m 10) hd he hc 400 8 (lawA2 a n m (Int.ofNat 10)) { lawS2 a n m (Int.ofNat 10) with lo := (lawS2 a n m (Int.ofNat 10)).next } (p2pZ 10))
  kernel_rfl
theorem p2p_18 : p2pP 18 := by
  intro a n m n0 hd he hc
  refine cast ?_ (inl_ex (E := EL) (cs := p2pC a n m 18) (ds := p2pD a n m 18) (es := p2pE a n m 18) hd he hc 400 8 (lawA2 a n m (Int.ofNat 18)) { lawS2 a n m (Int.ofNat 18) with lo := (lawS2 a n m (Int.ofNat 18)).next } (p2pZ 18))
  kernel_rfl
theorem p2p_26 : p2pP 26 := by
  intro a n m n0 hd he hc
  refine cast ?_ (inl_ex (E := EL) (cs := p2pC a n m 26) (ds := p2pD a n m 26) (es := p2pE a n m 26) hd he hc 400 8 (lawA2 a n m (Int.ofNat 26)) { lawS2 a n m (Int.ofNat 26) with lo := (lawS2 a n m (Int.ofNat 26)).next } (p2pZ 26))
  kernel_rfl
theorem p2p_34 : p2pP 34 := by
  intro a n m n0 hd he hc
  refine cast ?_ (inl_ex (E := EL) (cs := p2pC a n m 34) (ds := p2pD a n m 34) (es := p2pE a n m 34) hd he hc 400 8 (lawA2 a n m (Int.ofNat 34)) { lawS2 a n m (Int.ofNat 34) with lo := (lawS2 a n m (Int.ofNat 34)).next } (p2pZ 34))
  kernel_rfl
end
end Go.AM.E15
