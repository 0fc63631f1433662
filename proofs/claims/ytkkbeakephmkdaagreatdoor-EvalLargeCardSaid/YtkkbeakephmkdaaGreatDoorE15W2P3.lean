import Derived.KernelRfl
import Derived.Test.YtkkbeakephmkdaaGreatDoorE15L
set_option linter.all false
set_option maxRecDepth 100000
namespace Go.AM.E15
open Go
noncomputable section
theorem p2p_3 : p2pP 3 := by
  intro a n m n0 hd he hc
  refine cast ?_ (inl_ex (E := EL) (cs := p2pC a n m 3) (ds := p2pD a n m 3) (es := p2pE a n m 3) hd he hc 400 8 (lawA2 a n m (Int.ofNat 3)) { lawS2 a n m (Int.ofNat 3) with lo := (lawS2 a n m (Int.ofNat 3)).next } (p2pZ 3))
  kernel_rfl
theorem p2p_11 : p2pP 11 := by
  intro a n m n0 hd he hc
  refine cast ?_ (inl_ex (E := EL) (cs := p2pC a n m 11) (ds := p2pD a n m 11) (es := p2pE a n m 11) hd he hc 400 8 (lawA2 a n m (Int.ofNat 11)) { lawS2 a n m (Int.ofNat 11) with lo := (lawS2 a n m (Int.ofNat 11)).next } (p2pZ 11))
  kernel_rfl
theorem p2p_19 : p2pP 19 := by
  intro a n m n0 hd he hc
  refine cast ?_ (inl_ex (E := EL) (cs := p2pC a n m 19) (ds := p2pD a n m 19) (es := p2pE a n m 19) hd he hc 400 8 (lawA2 a n m (Int.ofNat 19)) { lawS2 a n m (Int.ofNat 19) with lo := (lawS2 a n m (Int.ofNat 19)).next } (p2pZ 19))
  kernel_rfl
theorem p2p_27 : p2pP 27 := by
  intro a n m n0 hd he hc
  refine cast ?_ (inl_ex (E := EL) (cs := p2pC a n m 27) (ds := p2pD a n m 27) (es := p2pE a n m 27) hd he hc 400 8 (lawA2 a n m (Int.ofNat 27)) { lawS2 a n m (Int.ofNat 27) with lo := (lawS2 a n m (Int.ofNat 27)).next } (p2pZ 27))
  kernel_rfl
theorem p2p_35 : p2pP 35 := by
  intro a n m n0 hd he hc
  refine cast ?_ (inl_ex (E := EL) (cs := p2pC a n m 35) (ds := p2pD a n m 35) (es := p2pE a n m 35) hd he hc 400 8 (lawA2 a n m (Int.ofNat 35)) { lawS2 a n m (Int.ofNat 35) with lo := (lawS2 a n m (Int.ofNat 35)).next } (p2pZ 35))
  kernel_rfl
end
end Go.AM.E15
