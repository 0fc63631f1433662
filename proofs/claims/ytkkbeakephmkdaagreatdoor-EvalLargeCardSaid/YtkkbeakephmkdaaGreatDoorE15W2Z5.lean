import Derived.KernelRfl
import Derived.Test.YtkkbeakephmkdaaGreatDoorE15L
set_option linter.all false
set_option maxRecDepth 100000
namespace Go.AM.E15
open Go
noncomputable section
theorem p2z_5 : p2zP 5 := by
  intro a n m n0 hd he hc
  refine cast ?_ (inl_ex (E := EL) (cs := p2zC a n m 5) (ds := p2zD a n m 5) (es := p2zE a n m 5) hd he hc 400 8 (lawA2 a n m (Int.ofNat 5)) { lawS2 a n m (Int.ofNat 5) with lo := (lawS2 a n m (Int.ofNat 5)).next } (p2zZ 5))
  kernel_rfl
theorem p2z_13 : p2zP 13 := by
  intro a n m n0 hd he hc
  refine cast ?_ (inl_ex (E := EL) (cs := p2zC a n m 13) (ds := p2zD a n m 13) (es := p2zE a n m 13) hd he hc 400 8 (lawA2 a n m (Int.ofNat 13)) { lawS2 a n m (Int.ofNat 13) with lo := (lawS2 a n m (Int.ofNat 13)).next } (p2zZ 13))
  kernel_rfl
theorem p2z_21 : p2zP 21 := by
  intro a n m n0 hd he hc
  refine cast ?_ (inl_ex (E := EL) (cs := p2zC a n m 21) (ds := p2zD a n m 21) (es := p2zE a n m 21) hd he hc 400 8 (lawA2 a n m (Int.ofNat 21)) { lawS2 a n m (Int.ofNat 21) with lo := (lawS2 a n m (Int.ofNat 21)).next } (p2zZ 21))
  kernel_rfl
theorem p2z_29 : p2zP 29 := by
  intro a n m n0 hd he hc
  refine cast ?_ (inl_ex (E := EL) (cs := p2zC a n m 29) (ds := p2zD a n m 29) (es := p2zE a n m 29) hd he hc 400 8 (lawA2 a n m (Int.ofNat 29)) { lawS2 a n m (Int.ofNat 29) with lo := (lawS2 a n m (Int.ofNat 29)).next } (p2zZ 29))
  kernel_rfl
theorem p2z_37 : p2zP 37 := by
  intro a n m n0 hd he hc
  refine cast ?_ (inl_ex (E := EL) (cs := p2zC a n m 37) (ds := p2zD a n m 37) (es := p2zE a n m 37) hd he hc 400 8 (lawA2 a n m (Int.ofNat 37)) { lawS2 a n m (Int.ofNat 37) with lo := (lawS2 a n m (Int.ofNat 37)).next } (p2zZ 37))
  kernel_rfl
end
end Go.AM.E15
