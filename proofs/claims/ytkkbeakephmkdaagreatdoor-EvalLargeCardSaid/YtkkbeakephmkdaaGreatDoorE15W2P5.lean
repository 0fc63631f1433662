import Derived.KernelRfl
import Derived.Test.YtkkbeakephmkdaaGreatDoorE15L
set_option linter.all false
set_option maxRecDepth 100000
namespace Go.AM.E15
open Go
noncomputable section
theorem p2p_5 : p2pP 5 := by
  intro a n m n0 hd he hc
  refine cast ?_ (inl_ex (E := EL) (cs := p2pC a n m 5) (ds := p2pD a n m 5) (es := p2pE a n m 5) hd he hc 400 8 (lawA2 a n m (Int.ofNat 5)) { lawS2 a n m (Int.ofNat 5) with lo := (lawS2 a n m (Int.ofNat 5)).next } (p2pZ 5))
  kernel_rfl
theorem p2p_13 : p2pP 13 := by
  intro a n m n0 hd he hc
  refine cast ?_ (inl_ex (E := EL) (cs := p2pC a n m 13) (ds := p2pD a n m 13) (es := p2pE a n m 13) hd he hc 400 8 (lawA2 a n m (Int.ofNat 13)) { lawS2 a n m (Int.ofNat 13) with lo := (lawS2 a n m (Int.ofNat 13)).next } (p2pZ 13))
  kernel_rfl
theorem p2p_21 : p2pP 21 := by
  intro a n m n0 hd he hc
  refine cast ?_ (inl_ex (E := EL) (cs := p2pC a n m 21) (ds := p2pD a n m 21) (es := p2pE a n m 21) hd he hc 400 8 (lawA2 a n m (Int.ofNat 21)) { lawS2 a n m (Int.ofNat 21) with lo := (lawS2 a n m (Int.ofNat 21)).next } (p2pZ 21))
  kernel_rfl
theorem p2p_29 : p2pP 29 := by
  intro a n m n0 hd he hc
  refine cast ?_ (inl_ex (E := EL) (cs := p2pC a n m 29) (ds := p2pD a n m 29) (es := p2pE a n m 29) hd he hc 400 8 (lawA2 a n m (Int.ofNat 29)) { lawS2 a n m (Int.ofNat 29) with lo := (lawS2 a n m (Int.ofNat 29)).next } (p2pZ 29))
  kernel_rfl
theorem p2p_37 : p2pP 37 := by
  intro a n m n0 hd he hc
  refine cast ?_ (inl_ex (E := EL) (cs := p2pC a n m 37) (ds := p2pD a n m 37) (es := p2pE a n m 37) hd he hc 400 8 (lawA2 a n m (Int.ofNat 37)) { lawS2 a n m (Int.ofNat 37) with lo := (lawS2 a n m (Int.ofNat 37)).next } (p2pZ 37))
  kernel_rfl
end
end Go.AM.E15
