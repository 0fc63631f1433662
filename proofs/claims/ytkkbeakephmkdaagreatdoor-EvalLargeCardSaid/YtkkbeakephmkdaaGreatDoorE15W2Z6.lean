import Derived.KernelRfl
import Derived.Test.YtkkbeakephmkdaaGreatDoorE15L
set_option linter.all false
set_option maxRecDepth 100000
namespace Go.AM.E15
open Go
noncomputable section
theorem p2z_6 : p2zP 6 := by
  intro a n m n0 hd he hc
  refine cast ?_ (inl_ex (E := EL) (cs := p2zC a n m 6) (ds := p2zD a n m 6) (es := p2zE a n m 6) hd he hc 400 8 (lawA2 a n m (Int.ofNat 6)) { lawS2 a n m (Int.ofNat 6) with lo := (lawS2 a n m (Int.ofNat 6)).next } (p2zZ 6))
  kernel_rfl
theorem p2z_14 : p2zP 14 := by
  intro a n m n0 hd he hc
  refine cast ?_ (inl_ex (E := EL) (cs := p2zC a n m 14) (ds := p2zD a n m 14) (es := p2zE a n m 14) hd he hc 400 8 (lawA2 a n m (Int.ofNat 14)) { lawS2 a n m (Int.ofNat 14) with lo := (lawS2 a n m (Int.ofNat 14)).next } (p2zZ 14))
  kernel_rfl
theorem p2z_22 : p2zP 22 := by
  intro a n m n0 hd he hc
  refine cast ?_ (inl_ex (E := EL) (cs := p2zC a n m 22) (ds := p2zD a n m 22) (es := p2zE a n m 22) hd he hc 400 8 (lawA2 a n m (Int.ofNat 22)) { lawS2 a n m (Int.ofNat 22) with lo := (lawS2 a n m (Int.ofNat 22)).next } (p2zZ 22))
  kernel_rfl
theorem p2z_30 : p2zP 30 := by
  intro a n m n0 hd he hc
  refine cast ?_ (inl_ex (E := EL) (cs := p2zC a n m 30) (ds := p2zD a n m 30) (es := p2zE a n m 30) hd he hc 400 8 (lawA2 a n m (Int.ofNat 30)) { lawS2 a n m (Int.ofNat 30) with lo := (lawS2 a n m (Int.ofNat 30)).next } (p2zZ 30))
  kernel_rfl
theorem p2z_38 : p2zP 38 := by
  intro a n m n0 hd he hc
  refine cast ?_ (inl_ex (E := EL) (cs := p2zC a n m 38) (ds := p2zD a n m 38) (es := p2zE a n m 38) hd he hc 400 8 (lawA2 a n m (Int.ofNat 38)) { lawS2 a n m (Int.ofNat 38) with lo := (lawS2 a n m (Int.ofNat 38)).next } (p2zZ 38))
  kernel_rfl
end
end Go.AM.E15
