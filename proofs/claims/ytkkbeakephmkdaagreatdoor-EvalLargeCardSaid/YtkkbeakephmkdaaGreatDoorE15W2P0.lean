import Derived.KernelRfl
import Derived.Test.YtkkbeakephmkdaaGreatDoorE15L
set_option linter.all false
set_option maxRecDepth 100000
namespace Go.AM.E15
open Go
noncomputable section
theorem p2p_8 : p2pP 8 := by
  intro a n m n0 hd he hc
  refine cast ?_ (inl_ex (E := EL) (cs := p2pC a n m 8) (ds := p2pD a n m 8) (es := p2pE a n m 8) hd he hc 400 8 (lawA2 a n m (Int.ofNat 8)) { lawS2 a n m (Int.ofNat 8) with lo := (lawS2 a n m (Int.ofNat 8)).next } (p2pZ 8))
  kernel_rfl
theorem p2p_16 : p2pP 16 := by
  intro a n m n0 hd he hc
  refine cast ?_ (inl_ex (E := EL) (cs := p2pC a n m 16) (ds := p2pD a n m 16) (es := p2pE a n m 16) hd he hc 400 8 (lawA2 a n m (Int.ofNat 16)) { lawS2 a n m (Int.ofNat 16) with lo := (lawS2 a n m (Int.ofNat 16)).next } (p2pZ 16))
  kernel_rfl
theorem p2p_24 : p2pP 24 := by
  intro a n m n0 hd he hc
  refine cast ?_ (inl_ex (E := EL) (cs := p2pC a n m 24) (ds := p2pD a n m 24) (es := p2pE a n m 24) hd he hc 400 8 (lawA2 a n m (Int.ofNat 24)) { lawS2 a n m (Int.ofNat 24) with lo := (lawS2 a n m (Int.ofNat 24)).next } (p2pZ 24))
  kernel_rfl
theorem p2p_32 : p2pP 32 := by
  intro a n m n0 hd he hc
  refine cast ?_ (inl_ex (E := EL) (cs := p2pC a n m 32) (ds := p2pD a n m 32) (es := p2pE a n m 32) hd he hc 400 8 (lawA2 a n m (Int.ofNat 32)) { lawS2 a n m (Int.ofNat 32) with lo := (lawS2 a n m (Int.ofNat 32)).next } (p2pZ 32))
  kernel_rfl
theorem p2p_40 : p2pP 40 := by
  intro a n m n0 hd he hc
  refine cast ?_ (inl_ex (E := EL) (cs := p2pC a n m 40) (ds := p2pD a n m 40) (es := p2pE a n m 40) hd he hc 400 8 (lawA2 a n m (Int.ofNat 40)) { lawS2 a n m (Int.ofNat 40) with lo := (lawS2 a n m (Int.ofNat 40)).next } (p2pZ 40))
  kernel_rfl
end
end Go.AM.E15
