import Derived.KernelRfl
import Derived.Test.YtkkbeakephmkdaaGreatDoorE15L
set_option linter.all false
set_option maxRecDepth 100000
namespace Go.AM.E15
open Go
noncomputable section
theorem p2z_1 : p2zP 1 := by
  intro a n m n0 hd he hc
  refine cast ?_ (inl_ex (E := EL) (cs := p2zC a n m 1) (ds := p2zD a n m 1) (es := p2zE a n m 1) hd he hc 400 8 (lawA2 a n m (Int.ofNat 1)) { lawS2 a n m (Int.ofNat 1) with lo := (lawS2 a n m (Int.ofNat 1)).next } (p2zZ 1))
  kernel_rfl
theorem p2z_9 : p2zP 9 := by
  intro a n m n0 hd he hc
  refine cast ?_ (inl_ex (E := EL) (cs := p2zC a n m 9) (ds := p2zD a n m 9) (es := p2zE a n m 9) hd he hc 400 8 (lawA2 a n m (Int.ofNat 9)) { lawS2 a n m (Int.ofNat 9) with lo := (lawS2 a n m (Int.ofNat 9)).next } (p2zZ 9))
  kernel_rfl
theorem p2z_17 : p2zP 17 := by
  intro a n m n0 hd he hc
  refine cast ?_ (inl_ex (E := EL) (cs := p2zC a n m 17) (ds := p2zD a n m 17) (es := p2zE a n m 17) hd he hc 400 8 (lawA2 a n m (Int.ofNat 17)) { lawS2 a n m (Int.ofNat 17) with lo := (lawS2 a n m (Int.ofNat 17)).next } (p2zZ 17))
  kernel_rfl
theorem p2z_25 : p2zP 25 := by
  intro a n m n0 hd he hc
  refine cast ?_ (inl_ex (E := EL) (cs := p2zC a n m 25) (ds := p2zD a n m 25) (es := p2zE a n m 25) hd he hc 400 8 (lawA2 a n m (Int.ofNat 25)) { lawS2 a n m (Int.ofNat 25) with lo := (lawS2 a n m (Int.ofNat 25)).next } (p2zZ 25))
  kernel_rfl
theorem p2z_33 : p2zP 33 := by
  intro a n m n0 hd he hc
  refine cast ?_ (inl_ex (E := EL) (cs := p2zC a n m 33) (ds := p2zD a n m 33) (es := p2zE a n m 33) hd he hc 400 8 (lawA2 a n m (Int.ofNat 33)) { lawS2 a n m (Int.ofNat 33) with lo := (lawS2 a n m (Int.ofNat 33)).next } (p2zZ 33))
  kernel_rfl
end
end Go.AM.E15
