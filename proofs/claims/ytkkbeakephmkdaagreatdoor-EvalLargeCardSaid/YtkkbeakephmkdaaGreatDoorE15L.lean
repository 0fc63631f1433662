import Derived.KernelRfl
import Derived.Test.YtkkbeakephmkdaaGreatDoorE15Ext
set_option linter.all false
section
set_option maxRecDepth 100000
namespace Go.AM.E15
open Go
noncomputable section
def y0 : Option B := some (.cells true 33 [.int .i64 46, .int .i64 10, .nils, .int .i64 0, .int .i64 0, .bool false, .nils, .str [], .nils, .nils, .sl 38 0 2 11 (some 2)])
def y1 : Option B := some (.cells true 33 [.int .i64 46, .int .i64 10, .nils, .int .i64 0, .int .i64 0, .bool false, .nils, .str [], .nils, .nils, .sl 14 0 2 11 (some 2)])
def y2 : Option B := some (.cells true 33 [.int .i64 25, .int .i64 0, .nils, .int .i64 0, .int .i64 0, .bool false, .nils, .str [], .nils, .nils, .sl 43 0 1 11 (some 1)])
def y3 (a : Int) (m : Int) : Option B := some (.cells true 33 [.int .i64 1, .int .i64 0, .nils, .int .i64 2, .int .i64 0, .bool (neg (((a + m) - 1))), dig (((a + m) - 1)), .str [], .nils, .nils, .nils])
def y4 (n : Int) (m : Int) : Option B := some (.cells true 27 [.bool (neg ((n * m))), dig ((n * m))])
def y5 (a : Int) (n : Int) : Option B := some (.cells true 33 [.int .i64 1, .int .i64 0, .nils, .int .i64 2, .int .i64 0, .bool (neg (((a + n) - 1))), dig (((a + n) - 1)), .str [], .nils, .nils, .nils])
def y6 (a : Int) : Option B := some (.cells true 33 [.int .i64 1, .int .i64 0, .nils, .int .i64 2, .int .i64 0, .bool (neg (a)), dig (a), .str [], .nils, .nils, .nils])
def y7 : Option B := some (.cells true 33 [.int .i64 46, .int .i64 17, .nils, .int .i64 0, .int .i64 0, .bool false, .nils, .str [], .nils, .nils, .sl 49 0 1 11 (some 1)])
def y8 : Option B := some (.cells true 0 [.int .i64 46, .int .i64 10, .nils, .int .i64 0, .int .i64 0, .bool false, .nils, .str [], .nils, .nils, .sl 38 0 2 11 (some 2)])
def y9 : Option B := some (.cells true 33 [.int .i64 46, .int .i64 10, .nils, .int .i64 0, .int .i64 0, .bool false, .nils, .str [], .nils, .nils, .sl 25 0 2 11 (some 2)])
def y10 (n : Int) : Option B := some (.cells true 27 [.bool (neg ((ipow 2 n))), dig ((ipow 2 n))])
def y11 : Option B := some (.cells true 0 [.int .i64 25, .int .i64 0, .nils, .int .i64 0, .int .i64 0, .bool false, .nils, .str [], .nils, .nils, .sl 43 0 1 11 (some 1)])
def y12 (a : Int) (m : Int) : Option B := some (.cells true 0 [.int .i64 1, .int .i64 0, .nils, .int .i64 2, .int .i64 0, .bool (neg (a)), dig (a), .str [], .nils, .nils, .nils, .int .i64 1, .int .i64 0, .nils, .int .i64 2, .int .i64 0, .bool (neg (((a + m) - 1))), dig (((a + m) - 1)), .str [], .nils, .nils, .nils])
def y13 : Option B := some (.cells true 0 [.str [97], .str [98]])
def y14 (a : Int) (n : Int) : Option B := some (.cells true 30 [.int .i64 2, .int .i64 0, .bool (neg (((a + n) - 1))), dig (((a + n) - 1)), .str [], .nils, .nils])
def y15 (a : Int) : Option B := some (.cells true 30 [.int .i64 2, .int .i64 0, .bool (neg (a)), dig (a), .str [], .nils, .nils])
def y16 : Option B := some (.cells true 33 [.int .i64 36, .int .i64 0, .sl 5 0 2 1 (some 2), .int .i64 0, .int .i64 0, .bool false, .nils, .str [], .nils, .nils, .sl 28 0 2 11 (some 2)])
def y17 (a : Int) : Option B := some (.cells true 4 [.int .i64 (a)])
def y18 (a : Int) (m : Int) : Option B := some (.cells true 30 [.int .i64 2, .int .i64 0, .bool (neg (((a + m) - 1))), dig (((a + m) - 1)), .str [], .nils, .nils])
def y19 (n : Int) (m : Int) (k : Int) : Option B := some (.cells true 27 [.bool (neg (((n * m) * k))), dig (((n * m) * k))])
def y20 : Option B := some (.cells true 0 [.int .i64 46, .int .i64 10, .nils, .int .i64 0, .int .i64 0, .bool false, .nils, .str [], .nils, .nils, .sl 14 0 2 11 (some 2), .int .i64 46, .int .i64 10, .nils, .int .i64 0, .int .i64 0, .bool false, .nils, .str [], .nils, .nils, .sl 25 0 2 11 (some 2)])
def y21 (m : Int) (k : Int) : Option B := some (.cells true 27 [.bool (neg ((ipow m k))), dig ((ipow m k))])
def y22 (a : Int) (n : Int) : Option B := some (.cells true 0 [.int .i64 1, .int .i64 0, .nils, .int .i64 2, .int .i64 0, .bool (neg (a)), dig (a), .str [], .nils, .nils, .nils, .int .i64 1, .int .i64 0, .nils, .int .i64 2, .int .i64 0, .bool (neg (((a + n) - 1))), dig (((a + n) - 1)), .str [], .nils, .nils, .nils])
def y23 : Option B := some (.cells true 33 [.int .i64 46, .int .i64 10, .nils, .int .i64 0, .int .i64 0, .bool false, .nils, .str [], .nils, .nils, .sl 71 0 2 11 (some 2)])
def y24 : Option B := some (.cells true 33 [.int .i64 46, .int .i64 17, .nils, .int .i64 0, .int .i64 0, .bool false, .nils, .str [], .nils, .nils, .sl 80 0 1 11 (some 1)])
def y25 : Option B := some (.cells true 33 [.int .i64 33, .int .i64 0, .nils, .int .i64 0, .int .i64 0, .bool false, .nils, .str [], .nils, .nils, .sl 74 0 2 11 (some 2)])
def y26 (a : Int) (k : Int) : Option B := some (.cells true 30 [.int .i64 2, .int .i64 0, .bool (neg (((a + k) - 1))), dig (((a + k) - 1)), .str [], .nils, .nils])
def y27 (a : Int) (k : Int) : Option B := some (.cells true 33 [.int .i64 1, .int .i64 0, .nils, .int .i64 2, .int .i64 0, .bool (neg (((a + k) - 1))), dig (((a + k) - 1)), .str [], .nils, .nils, .nils])
def y28 : Option B := some (.cells true 33 [.int .i64 46, .int .i64 10, .nils, .int .i64 0, .int .i64 0, .bool false, .nils, .str [], .nils, .nils, .sl 60 0 2 11 (some 2)])
def y29 : Option B := some (.cells true 0 [.int .i64 33, .int .i64 0, .nils, .int .i64 0, .int .i64 0, .bool false, .nils, .str [], .nils, .nils, .sl 74 0 2 11 (some 2)])
def y30 (a : Int) (k : Int) : Option B := some (.cells true 0 [.int .i64 1, .int .i64 0, .nils, .int .i64 2, .int .i64 0, .bool (neg (a)), dig (a), .str [], .nils, .nils, .nils, .int .i64 1, .int .i64 0, .nils, .int .i64 2, .int .i64 0, .bool (neg (((a + k) - 1))), dig (((a + k) - 1)), .str [], .nils, .nils, .nils])
def y31 : Option B := some (.cells true 0 [.int .i64 46, .int .i64 10, .nils, .int .i64 0, .int .i64 0, .bool false, .nils, .str [], .nils, .nils, .sl 60 0 2 11 (some 2), .int .i64 46, .int .i64 10, .nils, .int .i64 0, .int .i64 0, .bool false, .nils, .str [], .nils, .nils, .sl 71 0 2 11 (some 2)])
def y32 : Option B := some (.cells true 0 [.int .i64 36, .int .i64 0, .sl 5 0 2 1 (some 2), .int .i64 0, .int .i64 0, .bool false, .nils, .str [], .nils, .nils, .sl 28 0 2 11 (some 2)])
def y33 : Option B := some (.cells true 33 [.int .i64 46, .int .i64 17, .nils, .int .i64 0, .int .i64 0, .bool false, .nils, .str [], .nils, .nils, .sl 87 0 1 11 (some 1)])
def y34 : Option B := some (.cells true 33 [.int .i64 39, .int .i64 0, .nils, .int .i64 0, .int .i64 0, .bool false, .nils, .str [], .nils, .nils, .sl 123 0 3 11 (some 3)])
def y35 : Option B := some (.cells true 33 [.int .i64 46, .int .i64 10, .nils, .int .i64 0, .int .i64 0, .bool false, .nils, .str [], .nils, .nils, .sl 109 0 2 11 (some 2)])
def y36 : Option B := some (.cells true 33 [.int .i64 46, .int .i64 17, .nils, .int .i64 0, .int .i64 0, .bool false, .nils, .str [], .nils, .nils, .sl 129 0 1 11 (some 1)])
def y37 : Option B := some (.cells true 33 [.int .i64 46, .int .i64 10, .nils, .int .i64 0, .int .i64 0, .bool false, .nils, .str [], .nils, .nils, .sl 98 0 2 11 (some 2)])
def y38 : Option B := some (.cells true 0 [.int .i64 46, .int .i64 10, .nils, .int .i64 0, .int .i64 0, .bool false, .nils, .str [], .nils, .nils, .sl 98 0 2 11 (some 2), .int .i64 46, .int .i64 10, .nils, .int .i64 0, .int .i64 0, .bool false, .nils, .str [], .nils, .nils, .sl 109 0 2 11 (some 2), .int .i64 46, .int .i64 10, .nils, .int .i64 0, .int .i64 0, .bool false, .nils, .str [], .nils, .nils, .sl 120 0 2 11 (some 2)])
def y39 : Option B := some (.cells true 0 [.int .i64 39, .int .i64 0, .nils, .int .i64 0, .int .i64 0, .bool false, .nils, .str [], .nils, .nils, .sl 123 0 3 11 (some 3)])
def y40 : Option B := some (.cells true 33 [.int .i64 46, .int .i64 10, .nils, .int .i64 0, .int .i64 0, .bool false, .nils, .str [], .nils, .nils, .sl 120 0 2 11 (some 2)])
def lawA1 (a n m k : Int) : List V := [.agg [.int .i64 46, .int .i64 17, .nils, .int .i64 0, .int .i64 0, .bool false, .nils, .str [], .nils, .nils, .sl 49 0 1 11 (some 1)], .agg [.int .i64 2, .int .i64 0, .bool (neg ((ipow 2 n))), dig ((ipow 2 n)), .str [], .nils, .nils]]
def lawS1 (a n m k : Int) : S := ⟨(.n (.n (.n (.n (.n (.n .e y0 .e) y1 (.n .e y2 .e)) y1 (.n (.n .e y0 .e) (y3 a m) .e)) (y4 n m) (.n (.n (.n .e (y5 a n) .e) (y6 a) (.n .e y7 .e)) (y5 a n) (.n (.n .e y8 .e) y9 .e))) (y10 n) (.n (.n (.n (.n .e (y6 a) .e) y9 (.n .e y11 .e)) (y6 a) (.n (.n .e y0 .e) (y12 a m) .e)) y13 (.n (.n (.n .e (y14 a n) .e) (y15 a) .e) (y14 a n) (.n (.n .e (y10 n) .e) y16 .e)))) (y17 a) (.n (.n (.n (.n (.n .e (y6 a) .e) y1 (.n .e y7 .e)) (y6 a) (.n (.n .e y0 .e) (y18 a m) .e)) (y19 n m k) (.n (.n (.n .e (y5 a n) .e) (y6 a) .e) (y5 a n) (.n (.n .e y2 .e) y20 .e))) (y21 m k) (.n (.n (.n (.n .e (y15 a) .e) y9 (.n .e y7 .e)) (y15 a) (.n (.n .e y2 .e) y9 .e)) y1 (.n (.n (.n .e (y22 a n) .e) (y3 a m) .e) (y22 a n) (.n (.n .e y2 .e) y0 .e))))), 52, 0⟩
def lawA2 (a n m k : Int) : List V := [.agg [.int .i64 46, .int .i64 17, .nils, .int .i64 0, .int .i64 0, .bool false, .nils, .str [], .nils, .nils, .sl 80 0 1 11 (some 1)], .agg [.int .i64 2, .int .i64 0, .bool (neg ((ipow m k))), dig ((ipow m k)), .str [], .nils, .nils]]
def lawS2 (a n m k : Int) : S := ⟨(.n (.n (.n (.n (.n (.n (.n .e y23 .e) y0 .e) y1 (.n (.n .e y24 .e) y2 .e)) y1 (.n (.n (.n .e (y12 a m) .e) y0 .e) (y3 a m) (.n .e (y6 a) .e))) (y4 n m) (.n (.n (.n (.n .e (y15 a) .e) (y5 a n) .e) (y6 a) (.n .e y7 .e)) (y5 a n) (.n (.n (.n .e y25 .e) y8 .e) y9 (.n .e (y26 a k) .e)))) (y10 n) (.n (.n (.n (.n (.n .e (y6 a) .e) (y6 a) .e) y9 (.n (.n .e y24 .e) y11 .e)) (y6 a) (.n (.n (.n .e y23 .e) y0 .e) (y12 a m) (.n .e (y27 a k) .e))) y13 (.n (.n (.n (.n .e (y3 a m) .e) (y14 a n) .e) (y15 a) (.n .e y28 .e)) (y14 a n) (.n (.n (.n .e y25 .e) (y10 n) .e) y16 (.n .e y28 .e))))) (y17 a) (.n (.n (.n (.n (.n (.n .e y23 .e) (y6 a) .e) y1 (.n (.n .e y29 .e) y7 .e)) (y6 a) (.n (.n (.n .e y23 .e) y0 .e) (y18 a m) (.n .e (y15 a) .e))) (y19 n m k) (.n (.n (.n (.n .e (y3 a m) .e) (y5 a n) .e) (y6 a) (.n .e y28 .e)) (y5 a n) (.n (.n (.n .e (y21 m k) .e) y2 .e) y20 (.n .e (y30 a k) .e)))) (y21 m k) (.n (.n (.n (.n (.n .e (y6 a) .e) (y15 a) .e) y9 (.n (.n .e y24 .e) y7 .e)) (y15 a) (.n (.n (.n .e y31 .e) y2 .e) y9 (.n .e (y27 a k) .e))) y1 (.n (.n (.n (.n .e (y18 a m) .e) (y22 a n) .e) (y3 a m) (.n .e (y6 a) .e)) (y22 a n) (.n (.n (.n .e y25 .e) y2 .e) y0 (.n .e y28 .e)))))), 83, 0⟩
def lawA3 (a n m k : Int) : List V := [.agg [.int .i64 46, .int .i64 17, .nils, .int .i64 0, .int .i64 0, .bool false, .nils, .str [], .nils, .nils, .sl 87 0 1 11 (some 1)], .agg [.int .i64 2, .int .i64 0, .bool (neg ((n * m))), dig ((n * m)), .str [], .nils, .nils]]
def lawS3 (a n m k : Int) : S := ⟨(.n (.n (.n (.n (.n (.n (.n .e y23 .e) y0 .e) y1 (.n (.n .e y24 .e) y2 .e)) y1 (.n (.n (.n .e (y12 a m) .e) y0 .e) (y3 a m) (.n (.n .e y32 .e) (y6 a) .e))) (y4 n m) (.n (.n (.n (.n .e (y15 a) .e) (y5 a n) .e) (y6 a) (.n (.n .e (y4 n m) .e) y7 .e)) (y5 a n) (.n (.n (.n .e y25 .e) y8 .e) y9 (.n .e (y26 a k) .e)))) (y10 n) (.n (.n (.n (.n (.n .e (y6 a) .e) (y6 a) .e) y9 (.n (.n .e y24 .e) y11 .e)) (y6 a) (.n (.n (.n .e y23 .e) y0 .e) (y12 a m) (.n (.n .e y33 .e) (y27 a k) .e))) y13 (.n (.n (.n (.n .e (y3 a m) .e) (y14 a n) .e) (y15 a) (.n (.n .e y16 .e) y28 .e)) (y14 a n) (.n (.n (.n .e y25 .e) (y10 n) .e) y16 (.n .e y28 .e))))) (y17 a) (.n (.n (.n (.n (.n (.n .e y23 .e) (y6 a) .e) y1 (.n (.n .e y29 .e) y7 .e)) (y6 a) (.n (.n (.n .e y23 .e) y0 .e) (y18 a m) (.n (.n .e y33 .e) (y15 a) .e))) (y19 n m k) (.n (.n (.n (.n .e (y3 a m) .e) (y5 a n) .e) (y6 a) (.n (.n .e y16 .e) y28 .e)) (y5 a n) (.n (.n (.n .e (y21 m k) .e) y2 .e) y20 (.n .e (y30 a k) .e)))) (y21 m k) (.n (.n (.n (.n (.n .e (y6 a) .e) (y15 a) .e) y9 (.n (.n .e y24 .e) y7 .e)) (y15 a) (.n (.n (.n .e y31 .e) y2 .e) y9 (.n .e (y27 a k) .e))) y1 (.n (.n (.n (.n .e (y18 a m) .e) (y22 a n) .e) (y3 a m) (.n (.n .e y33 .e) (y6 a) .e)) (y22 a n) (.n (.n (.n .e y25 .e) y2 .e) y0 (.n .e y28 .e)))))), 90, 0⟩
def lawA4 (a n m k : Int) : List V := [.agg [.int .i64 46, .int .i64 17, .nils, .int .i64 0, .int .i64 0, .bool false, .nils, .str [], .nils, .nils, .sl 129 0 1 11 (some 1)], .agg [.int .i64 2, .int .i64 0, .bool (neg (((n * m) * k))), dig (((n * m) * k)), .str [], .nils, .nils]]
def lawS4 (a n m k : Int) : S := ⟨(.n (.n (.n (.n (.n (.n (.n (.n .e y34 .e) y23 .e) y0 (.n .e (y5 a n) .e)) y1 (.n (.n .e y24 .e) y2 (.n .e y35 .e))) y1 (.n (.n (.n .e (y12 a m) .e) y0 (.n .e (y6 a) .e)) (y3 a m) (.n (.n .e y32 .e) (y6 a) (.n .e (y26 a k) .e)))) (y4 n m) (.n (.n (.n (.n (.n .e y36 .e) (y15 a) .e) (y5 a n) (.n .e y37 .e)) (y6 a) (.n (.n .e (y4 n m) .e) y7 (.n .e (y6 a) .e))) (y5 a n) (.n (.n (.n .e y25 .e) y8 (.n .e (y3 a m) .e)) y9 (.n (.n .e y37 .e) (y26 a k) (.n .e y38 .e))))) (y10 n) (.n (.n (.n (.n (.n (.n .e y39 .e) (y6 a) .e) (y6 a) (.n .e (y14 a n) .e)) y9 (.n (.n .e y24 .e) y11 (.n .e y40 .e))) (y6 a) (.n (.n (.n .e y23 .e) y0 (.n .e (y15 a) .e)) (y12 a m) (.n (.n .e y33 .e) (y27 a k) (.n .e y40 .e)))) y13 (.n (.n (.n (.n .e (y3 a m) .e) (y14 a n) (.n .e y35 .e)) (y15 a) (.n (.n .e y16 .e) y28 (.n .e (y27 a k) .e))) (y14 a n) (.n (.n (.n .e y25 .e) (y10 n) (.n .e (y12 a m) .e)) y16 (.n (.n .e (y6 a) .e) y28 (.n .e (y19 n m k) .e)))))) (y17 a) (.n (.n (.n (.n (.n (.n (.n .e y36 .e) y23 .e) (y6 a) (.n .e (y5 a n) .e)) y1 (.n (.n .e y29 .e) y7 (.n .e y40 .e))) (y6 a) (.n (.n (.n .e y23 .e) y0 (.n .e (y6 a) .e)) (y18 a m) (.n (.n .e y33 .e) (y15 a) (.n .e (y30 a k) .e)))) (y19 n m k) (.n (.n (.n (.n .e (y3 a m) .e) (y5 a n) (.n .e y37 .e)) (y6 a) (.n (.n .e y16 .e) y28 (.n .e (y15 a) .e))) (y5 a n) (.n (.n (.n .e (y21 m k) .e) y2 (.n .e (y18 a m) .e)) y20 (.n (.n .e (y6 a) .e) (y30 a k) (.n .e y34 .e))))) (y21 m k) (.n (.n (.n (.n (.n (.n .e y36 .e) (y6 a) .e) (y15 a) (.n .e (y22 a n) .e)) y9 (.n (.n .e y24 .e) y7 (.n .e (y6 a) .e))) (y15 a) (.n (.n (.n .e y31 .e) y2 (.n .e (y3 a m) .e)) y9 (.n (.n .e y37 .e) (y27 a k) (.n .e y40 .e)))) y1 (.n (.n (.n (.n .e (y18 a m) .e) (y22 a n) (.n .e y35 .e)) (y3 a m) (.n (.n .e y33 .e) (y6 a) (.n .e (y27 a k) .e))) (y22 a n) (.n (.n (.n .e y25 .e) y2 (.n .e y35 .e)) y0 (.n (.n .e (y15 a) .e) y28 (.n .e y34 .e))))))), 132, 0⟩
def law0C (a n m k : Int) : List Con := [cI 11 2, cI 11 n, cT 10 2 n (ipow 2 n), cI 11 m, cI 11 k, cT 10 m k (ipow m k), cT 12 n m (n * m), cT 12 (n * m) k ((n * m) * k), cI 40 a, cI 40 ((a + n) - 1), cI 40 ((a + m) - 1), (8, lawA1 a n m k, some (lawS1 a n m k), .bool true), cI 40 ((a + k) - 1), (8, lawA2 a n m k, some (lawS2 a n m k), .bool true), (8, lawA3 a n m k, some (lawS3 a n m k), .bool true), (8, lawA4 a n m k, some (lawS4 a n m k), .bool true)]
def law0D (a n m k : Int) : List V := [dig (ipow 2 n), dig (ipow m k), dig (n * m), dig ((n * m) * k), dig a, dig ((a + n) - 1), dig ((a + m) - 1), dig ((a + k) - 1)]
def law0E (a n m k : Int) : List EQ := [.eq (.bool (!leI (-1000) a)) (.bool false), .eq (.bool (!leI a 1000)) (.bool false), .eq (.bool (!leI 0 n)) (.bool false), .eq (.bool (!leI n 900)) (.bool false), .eq (.bool (!leI 0 m)) (.bool false), .eq (.bool (!leI m 100)) (.bool false), .eq (.bool (!leI 0 k)) (.bool false), .eq (.bool (!leI k 40)) (.bool false), .eq (.int .i64 (wrap .i64 (a + n))) (.int .i64 ((a + n))), .eq (.int .i64 (wrap .i64 ((a + n) - 1))) (.int .i64 (((a + n) - 1))), .eq (.int .i64 (wrap .i64 (a + m))) (.int .i64 ((a + m))), .eq (.int .i64 (wrap .i64 ((a + m) - 1))) (.int .i64 (((a + m) - 1))), er (intV (ipow 2 n)), .eq (.int .i64 (wrap .i64 (a + k))) (.int .i64 ((a + k))), .eq (.int .i64 (wrap .i64 ((a + k) - 1))) (.int .i64 (((a + k) - 1))), er (intV (ipow m k)), er (intV (n * m)), er (intV ((n * m) * k))]
def law0Z : ZJ := [vj 5 0, vj 2 1, vj 3 2, vj 3 3, vj 3 4, vj 3 5, vj 3 6, vj 3 7, cj 4 0, cj 1 1, cj 0 2, oj 4 1 0, cj 2 3, cj 1 4, cj 0 5, oj 4 1 1, cj 2 1, cj 1 3, cj 0 6, oj 4 1 2, cj 3 4, cj 1 7, oj 5 1 3, vj 10 8, vj 0 9, cj 12 8, oj 1 3 4, oj 1 6 4, oj 0 6 4, cj 10 9, oj 1 3 5, oj 1 6 5, oj 0 6 5, vj 22 10, vj 0 11, cj 12 8, oj 1 3 4, oj 1 6 4, oj 0 6 4, cj 10 10, oj 1 3 6, oj 1 6 6, oj 0 6 6, vj 29 8, vj 0 9, cj 12 8, oj 1 3 4, oj 1 6 4, oj 0 6 4, cj 10 9, oj 1 3 5, oj 1 6 5, oj 0 6 5, fj 15 1 12, fj 12 1 12, fj 28 5 12, cj 0 11, vj 17 13, vj 0 14, cj 12 8, oj 1 3 4, oj 1 6 4, oj 0 6 4, cj 10 12, oj 1 3 7, oj 1 6 7, oj 0 6 7, fj 15 10 15, vj 5 10, vj 0 11, cj 12 8, oj 1 3 4, oj 1 6 4, oj 0 6 4, cj 10 10, oj 1 3 6, oj 1 6 6, oj 0 6 6, fj 15 10 15, fj 7 10 15, fj 28 5 15, cj 0 13, fj 38 5 16, cj 0 14, vj 20 8, vj 0 9, cj 12 8, oj 1 3 4, oj 1 6 4, oj 0 6 4, cj 10 9, oj 1 3 5, oj 1 6 5, oj 0 6 5, fj 15 31 17, vj 5 10, vj 0 11, cj 12 8, oj 1 3 4, oj 1 6 4, oj 0 6 4, cj 10 10, oj 1 3 6, oj 1 6 6, oj 0 6 6, fj 15 31 17, vj 5 13, vj 0 14, cj 12 8, oj 1 3 4, oj 1 6 4, oj 0 6 4, cj 10 12, oj 1 3 7, oj 1 6 7, oj 0 6 7, fj 15 31 17, fj 7 31 17, fj 28 5 17, cj 0 15]
theorem law0w (a n m k : Int) {n0 : Nat} (hd : ∀ d ∈ law0D a n m k, oneV d = true) (he : ∀ q ∈ law0E a n m k, q.Holds) (hc : ∀ n', n0 ≤ n' → ∀ c ∈ law0C a n m k, ∀ s, okS c.2.2.1 s → (recN EL n').call c.1 c.2.1 s = .ret c.2.2.2 s false) :
    hypJ (law0C a n m k) (law0D a n m k) (law0E a n m k) law0Z (∃ s', doBody EL (recN EL (n0 + 1 + 60)) 3 [.int .i64 a, .int .i64 n, .int .i64 m, .int .i64 k] false none s0 = .ret (.bool true) s' false) := by
  refine cast ?_ (inl_ex (E := EL) (cs := law0C a n m k) (ds := law0D a n m k) (es := law0E a n m k) hd he hc 60 3 [.int .i64 a, .int .i64 n, .int .i64 m, .int .i64 k] s0 law0Z)
  kernel_rfl
end
end Go.AM.E15
end
section
namespace Go.AM.E15
open Go
noncomputable section
def PartP (D : Nat) (A : Int → Int → Int → Int → List V) (S0 : Int → Int → Int → Int → S) (cs : List Con) (ds : List V) (es : List EQ) (z : ZJ) (a n m k : Int) : Prop :=
  ∀ n0 : Nat, (∀ d ∈ ds, oneV d = true) → (∀ q ∈ es, q.Holds) → (∀ n', n0 ≤ n' → ∀ c ∈ cs, ∀ s, okS c.2.2.1 s → (recN EL n').call c.1 c.2.1 s = .ret c.2.2.2 s false) →
    hypJ cs ds es z (∃ s', doBody EL (recN EL (n0 + 1 + D)) 8 (A a n m k) false none { S0 a n m k with lo := (S0 a n m k).next } = .ret (.bool true) s' false)
def upL {α : Type} (f : Nat → List α) (n : Nat) : Nat → List α := Nat.rec (motive := fun _ => Nat → List α) (fun _ => []) (fun _ ih i => app (f i) (ih (i + 1))) n
end
end Go.AM.E15
end
section
set_option maxRecDepth 100000
namespace Go.AM.E15
open Go
noncomputable section
def p1pC (a n m k : Int) : List Con := [cI 40 0, cI 40 1, cV a, cV ((a + n) - 1), cN a, cN ((a + n) - 1), cL ((a + n) - 1) a false, cT 159 ((a + n) - 1) a (((a + n) - 1) - a), cI 265 1, cT 158 (((a + n) - 1) - a) 1 ((((a + n) - 1) - a) + 1), cI 265 2, cT 163 2 ((((a + n) - 1) - a) + 1) (ipow 2 ((((a + n) - 1) - a) + 1)), (68, [intV ((ipow 2 ((((a + n) - 1) - a) + 1))), intV ((ipow 2 n))], none, .int .i64 0)]
def p1pD (a n m k : Int) : List V := [dig a, dig ((a + n) - 1), dig (((a + n) - 1) - a), dig ((((a + n) - 1) - a) + 1), dig (ipow 2 ((((a + n) - 1) - a) + 1))]
def p1pE (a n m k : Int) : List EQ := [er (wv a), er (wv ((a + n) - 1))]
def p1pZ : ZJ := [cj 34 0, cj 15 1, oj 1557 6 0, fj 41 1 0, fj 15 1 0, cj 108 2, oj 71 6 1, fj 41 1 1, fj 15 1 1, cj 108 3, oj 356 6 0, oj 52 3 0, oj 1 3 0, oj 10 6 1, oj 52 3 1, oj 1 3 1, oj 2 3 1, oj2 96 10 0 12 1, oj2 180 10 0 12 1, cj 117 4, cj 4 5, oj2 296 10 0 12 1, cj 117 4, cj 4 5, oj2 133 10 0 12 1, cj 86 6, cj 15 7, oj 8 1 2, oj 0 1 2, cj 4 8, cj 8 9, oj 8 1 3, oj 0 1 3, oj 1 1 3, cj 14 10, cj 12 6, cj 15 7, oj 8 1 2, oj 0 1 2, cj 4 8, cj 8 9, oj 8 1 3, oj 0 1 3, oj 1 1 3, cj 2 11, oj 9 1 4, oj 1 1 4, cj 15 10, cj 12 6, cj 15 7, oj 8 1 2, oj 0 1 2, cj 4 8, cj 8 9, oj 8 1 3, oj 0 1 3, oj 1 1 3, cj 2 11, oj 9 1 4, oj 1 1 4, oj 1 1 4, oj 15 1 4, oj 5 1 4, oj 8 3 4, oj 0 3 4, oj 1 3 4, oj 1 3 4, oj 8 3 4, oj 4 3 4, oj 3 3 4, oj 5 3 4, oj 8 3 4, oj 7 3 4, oj 5 3 4, cj 30 12]
theorem p1pw (a n m k : Int) : PartP 400 lawA1 lawS1 (p1pC a n m k) (p1pD a n m k) (p1pE a n m k) p1pZ a n m k := by
  intro n0 hd he hc
  refine cast ?_ (inl_ex (E := EL) (cs := p1pC a n m k) (ds := p1pD a n m k) (es := p1pE a n m k) hd he hc 400 8 (lawA1 a n m k) { lawS1 a n m k with lo := (lawS1 a n m k).next } p1pZ)
  kernel_rfl
def p1zC (a n m k : Int) : List Con := [cI 40 0, cI 40 1, cV a, cV ((a + n) - 1), cN a, cN ((a + n) - 1), cL ((a + n) - 1) a true, cI 265 0, cI 265 2, cT 163 2 0 1, (68, [intV (1), intV ((ipow 2 n))], none, .int .i64 0)]
def p1zD (a n m k : Int) : List V := [dig a, dig ((a + n) - 1)]
def p1zE (a n m k : Int) : List EQ := [er (wv a), er (wv ((a + n) - 1))]
def p1zZ : ZJ := [cj 34 0, cj 15 1, oj 1557 6 0, fj 41 1 0, fj 15 1 0, cj 108 2, oj 71 6 1, fj 41 1 1, fj 15 1 1, cj 108 3, oj 356 6 0, oj 52 3 0, oj 1 3 0, oj 10 6 1, oj 52 3 1, oj 1 3 1, oj 2 3 1, oj2 96 10 0 12 1, oj2 180 10 0 12 1, cj 117 4, cj 4 5, oj2 296 10 0 12 1, cj 117 4, cj 4 5, oj2 133 10 0 12 1, cj 86 6, cj 4 7, cj 15 8, cj 12 6, cj 4 7, cj 3 9, cj 27 8, cj 12 6, cj 4 7, cj 3 9, cj 127 10]
theorem p1zw (a n m k : Int) : PartP 400 lawA1 lawS1 (p1zC a n m k) (p1zD a n m k) (p1zE a n m k) p1zZ a n m k := by
  intro n0 hd he hc
  refine cast ?_ (inl_ex (E := EL) (cs := p1zC a n m k) (ds := p1zD a n m k) (es := p1zE a n m k) hd he hc 400 8 (lawA1 a n m k) { lawS1 a n m k with lo := (lawS1 a n m k).next } p1zZ)
  kernel_rfl
end
end Go.AM.E15
end
section
set_option maxRecDepth 100000
namespace Go.AM.E15
open Go
noncomputable section
def p20pC (a n m k : Int) : List Con := [cI 40 0, cI 40 1, cV a, cV ((a + k) - 1), cV ((a + m) - 1), cN a, cN ((a + k) - 1), cN ((a + m) - 1), cL ((a + k) - 1) a true, cI 265 0, cI 265 4000, cL 4000 0 false, (261, [intV (0)], none, .tup [.int .i64 (0), okV0]), cL ((a + m) - 1) a false, cT 159 ((a + m) - 1) a (((a + m) - 1) - a), cI 265 1, cT 158 (((a + m) - 1) - a) 1 ((((a + m) - 1) - a) + 1), cT 163 ((((a + m) - 1) - a) + 1) 0 (ipow ((((a + m) - 1) - a) + 1) 0), (68, [intV ((ipow ((((a + m) - 1) - a) + 1) 0)), intV ((ipow m k))], none, .int .i64 0)]
def p20pD (a n m k : Int) : List V := [dig a, dig ((a + k) - 1), dig ((a + m) - 1), dig (((a + m) - 1) - a), dig ((((a + m) - 1) - a) + 1), dig (ipow ((((a + m) - 1) - a) + 1) 0)]
def p20pE (a n m k : Int) : List EQ := [er (wv a), er (wv ((a + k) - 1)), er (wv ((a + m) - 1))]
def p20pZ : ZJ := [cj 34 0, cj 15 1, oj 1557 6 0, fj 41 1 0, fj 15 1 0, cj 108 2, oj 71 6 1, fj 41 1 1, fj 15 1 1, cj 108 3, oj 325 6 0, fj 41 1 0, fj 15 1 0, cj 108 2, oj 71 6 2, fj 41 1 2, fj 15 1 2, cj 108 4, oj 358 6 0, oj 52 3 0, oj 1 3 0, oj 10 6 1, oj 52 3 1, oj 1 3 1, oj 2 3 1, oj 148 6 0, oj 52 3 0, oj 1 3 0, oj 10 6 2, oj 52 3 2, oj 1 3 2, oj 2 3 2, oj2 96 10 0 12 1, oj2 15 10 0 12 2, oj2 1 10 0 12 2, oj2 217 10 0 12 1, cj 117 5, cj 4 6, oj2 30 10 0 12 2, cj 117 5, cj 4 7, oj2 316 10 0 12 1, cj 117 5, cj 4 6, oj2 30 10 0 12 2, cj 117 5, cj 4 7, oj2 147 10 0 12 1, oj2 35 10 0 12 2, cj 82 8, cj 4 9, cj 21 10, cj 2 11, cj 9 12, cj 72 13, cj 15 14, oj 8 1 3, oj 0 1 3, cj 4 15, cj 8 16, oj 8 1 4, oj 0 1 4, oj 1 1 4, cj 26 13, cj 15 14, oj 8 1 3, oj 0 1 3, cj 4 15, cj 8 16, oj 8 1 4, oj 0 1 4, oj 1 1 4, cj 5 9, cj 2 17, oj 9 1 5, oj 1 1 5, cj 27 13, cj 15 14, oj 8 1 3, oj 0 1 3, cj 4 15, cj 8 16, oj 8 1 4, oj 0 1 4, oj 1 1 4, cj 5 9, cj 2 17, oj 9 1 5, oj 1 1 5, oj 1 1 5, oj 15 1 5, oj 5 1 5, oj 8 3 5, oj 0 3 5, oj 1 3 5, oj 1 3 5, oj 8 3 5, oj 4 3 5, oj 3 3 5, oj 5 3 5, oj 8 3 5, oj 7 3 5, oj 5 3 5, cj 30 18]
theorem p20pw (a n m k : Int) : PartP 400 lawA2 lawS2 (p20pC a n m k) (p20pD a n m k) (p20pE a n m k) p20pZ a n m k := by
  intro n0 hd he hc
  refine cast ?_ (inl_ex (E := EL) (cs := p20pC a n m k) (ds := p20pD a n m k) (es := p20pE a n m k) hd he hc 400 8 (lawA2 a n m k) { lawS2 a n m k with lo := (lawS2 a n m k).next } p20pZ)
  kernel_rfl
def p20zC (a n m k : Int) : List Con := [cI 40 0, cI 40 1, cV a, cV ((a + k) - 1), cV ((a + m) - 1), cN a, cN ((a + k) - 1), cN ((a + m) - 1), cL ((a + k) - 1) a true, cI 265 0, cI 265 4000, cL 4000 0 false, (261, [intV (0)], none, .tup [.int .i64 (0), okV0]), cL ((a + m) - 1) a true, cT 163 0 0 1, (68, [intV (1), intV ((ipow m k))], none, .int .i64 0)]
def p20zD (a n m k : Int) : List V := [dig a, dig ((a + k) - 1), dig ((a + m) - 1)]
def p20zE (a n m k : Int) : List EQ := [er (wv a), er (wv ((a + k) - 1)), er (wv ((a + m) - 1))]
def p20zZ : ZJ := [cj 34 0, cj 15 1, oj 1557 6 0, fj 41 1 0, fj 15 1 0, cj 108 2, oj 71 6 1, fj 41 1 1, fj 15 1 1, cj 108 3, oj 325 6 0, fj 41 1 0, fj 15 1 0, cj 108 2, oj 71 6 2, fj 41 1 2, fj 15 1 2, cj 108 4, oj 358 6 0, oj 52 3 0, oj 1 3 0, oj 10 6 1, oj 52 3 1, oj 1 3 1, oj 2 3 1, oj 148 6 0, oj 52 3 0, oj 1 3 0, oj 10 6 2, oj 52 3 2, oj 1 3 2, oj 2 3 2, oj2 96 10 0 12 1, oj2 15 10 0 12 2, oj2 1 10 0 12 2, oj2 217 10 0 12 1, cj 117 5, cj 4 6, oj2 30 10 0 12 2, cj 117 5, cj 4 7, oj2 316 10 0 12 1, cj 117 5, cj 4 6, oj2 30 10 0 12 2, cj 117 5, cj 4 7, oj2 147 10 0 12 1, oj2 35 10 0 12 2, cj 82 8, cj 4 9, cj 21 10, cj 2 11, cj 9 12, cj 72 13, cj 4 9, cj 27 13, cj 4 9, cj 6 9, cj 2 14, cj 39 13, cj 4 9, cj 6 9, cj 2 14, cj 127 15]
theorem p20zw (a n m k : Int) : PartP 400 lawA2 lawS2 (p20zC a n m k) (p20zD a n m k) (p20zE a n m k) p20zZ a n m k := by
  intro n0 hd he hc
  refine cast ?_ (inl_ex (E := EL) (cs := p20zC a n m k) (ds := p20zD a n m k) (es := p20zE a n m k) hd he hc 400 8 (lawA2 a n m k) { lawS2 a n m k with lo := (lawS2 a n m k).next } p20zZ)
  kernel_rfl
end
end Go.AM.E15
end
section
set_option maxRecDepth 100000
namespace Go.AM.E15
open Go
noncomputable section
def p2pC (a n m : Int) (K : Nat) : List Con := app [cI 40 0, cI 40 1, cV a, cV ((a + (Int.ofNat K)) - 1), cV ((a + m) - 1), cN a, cN ((a + (Int.ofNat K)) - 1), cN ((a + m) - 1), cL ((a + (Int.ofNat K)) - 1) a false, cT 159 ((a + (Int.ofNat K)) - 1) a (((a + (Int.ofNat K)) - 1) - a), cI 265 1, cT 158 (((a + (Int.ofNat K)) - 1) - a) 1 ((((a + (Int.ofNat K)) - 1) - a) + 1), cI 265 4000, cL 4000 ((((a + (Int.ofNat K)) - 1) - a) + 1) false, (261, [intV (((((a + (Int.ofNat K)) - 1) - a) + 1))], none, .tup [.int .i64 ((Int.ofNat K)), okV0]), cL ((a + m) - 1) a false, cT 159 ((a + m) - 1) a (((a + m) - 1) - a), cT 158 (((a + m) - 1) - a) 1 ((((a + m) - 1) - a) + 1), cI 265 (Int.ofNat K), cT 163 ((((a + m) - 1) - a) + 1) (Int.ofNat K) (ipow ((((a + m) - 1) - a) + 1) (Int.ofNat K)), (68, [intV ((ipow ((((a + m) - 1) - a) + 1) (Int.ofNat K))), intV ((ipow m (Int.ofNat K)))], none, .int .i64 0)] (upL (fun i => [(265, [.int .i64 (Int.ofNat i)], none, intV (Int.ofNat i)), (158, [intV a, intV (Int.ofNat i)], none, .tup [intV (a + Int.ofNat i), okV0]), (80, [valV (a + Int.ofNat i)], none, okV0)]) K 0)
def p2pD (a n m : Int) (K : Nat) : List V := app [dig a, dig ((a + (Int.ofNat K)) - 1), dig ((a + m) - 1), dig (((a + (Int.ofNat K)) - 1) - a), dig ((((a + (Int.ofNat K)) - 1) - a) + 1), dig (((a + m) - 1) - a), dig ((((a + m) - 1) - a) + 1), dig (ipow ((((a + m) - 1) - a) + 1) (Int.ofNat K))] (upL (fun i => [dig (a + Int.ofNat i)]) K 0)
def p2pE (a n m : Int) (K : Nat) : List EQ := [er (wv a), er (wv ((a + (Int.ofNat K)) - 1)), er (wv ((a + m) - 1)), er (intV ((((a + (Int.ofNat K)) - 1) - a) + 1))]
def p2pZ (K : Nat) : ZJ := app [cj 34 0, cj 15 1, oj 1557 6 0, fj 41 1 0, fj 15 1 0, cj 108 2, oj 71 6 1, fj 41 1 1, fj 15 1 1, cj 108 3, oj 325 6 0, fj 41 1 0, fj 15 1 0, cj 108 2, oj 71 6 2, fj 41 1 2, fj 15 1 2, cj 108 4, oj 358 6 0, oj 52 3 0, oj 1 3 0, oj 10 6 1, oj 52 3 1, oj 1 3 1, oj 2 3 1, oj 148 6 0, oj 52 3 0, oj 1 3 0, oj 10 6 2, oj 52 3 2, oj 1 3 2, oj 2 3 2, oj2 96 10 0 12 1, oj2 15 10 0 12 2, oj2 1 10 0 12 2, oj2 217 10 0 12 1, cj 117 5, cj 4 6, oj2 30 10 0 12 2, cj 117 5, cj 4 7, oj2 316 10 0 12 1, cj 117 5, cj 4 6, oj2 30 10 0 12 2, cj 117 5, cj 4 7, oj2 147 10 0 12 1, oj2 35 10 0 12 2, cj 82 8, cj 15 9, oj 8 1 3, oj 0 1 3, cj 4 10, cj 8 11, oj 8 1 4, oj 0 1 4, oj 1 1 4, oj 1 1 4, oj 9 1 4, cj 8 12, fj 1 4 3, cj 0 13, cj 9 14] (app (upL (fun i => [(natC i 29 (fun _ => 17), .con (21 + 3 * i + 0)), (16, .con (21 + 3 * i + 1)), (8, .opq [(1, 8 + i)]), (0, .opq [(1, 8 + i)]), (2, .opq [(3, 8 + i)]), (4, .opq [(3, 8 + i)]), (1, .con (21 + 3 * i + 2)), (7, .opq [(3, 8 + i)])]) K 0) [cj 60 15, cj 15 16, oj 8 1 5, oj 0 1 5, cj 4 10, cj 8 17, oj 8 1 6, oj 0 1 6, oj 1 1 6, cj 26 15, cj 15 16, oj 8 1 5, oj 0 1 5, cj 4 10, cj 8 17, oj 8 1 6, oj 0 1 6, oj 1 1 6, cj 5 18, cj 2 19, oj 9 1 7, oj 1 1 7, cj 27 15, cj 15 16, oj 8 1 5, oj 0 1 5, cj 4 10, cj 8 17, oj 8 1 6, oj 0 1 6, oj 1 1 6, cj 5 18, cj 2 19, oj 9 1 7, oj 1 1 7, oj 1 1 7, oj 15 1 7, oj 5 1 7, oj 8 3 7, oj 0 3 7, oj 1 3 7, oj 1 3 7, oj 8 3 7, oj 4 3 7, oj 3 3 7, oj 5 3 7, oj 8 3 7, oj 7 3 7, oj 5 3 7, cj 30 20])
def p2pP (K : Nat) : Prop := ∀ a n m : Int, PartP 400 lawA2 lawS2 (p2pC a n m K) (p2pD a n m K) (p2pE a n m K) (p2pZ K) a n m (Int.ofNat K)
end
end Go.AM.E15
end
section
set_option maxRecDepth 100000
namespace Go.AM.E15
open Go
noncomputable section
def p2zC (a n m : Int) (K : Nat) : List Con := app [cI 40 0, cI 40 1, cV a, cV ((a + (Int.ofNat K)) - 1), cV ((a + m) - 1), cN a, cN ((a + (Int.ofNat K)) - 1), cN ((a + m) - 1), cL ((a + (Int.ofNat K)) - 1) a false, cT 159 ((a + (Int.ofNat K)) - 1) a (((a + (Int.ofNat K)) - 1) - a), cI 265 1, cT 158 (((a + (Int.ofNat K)) - 1) - a) 1 ((((a + (Int.ofNat K)) - 1) - a) + 1), cI 265 4000, cL 4000 ((((a + (Int.ofNat K)) - 1) - a) + 1) false, (261, [intV (((((a + (Int.ofNat K)) - 1) - a) + 1))], none, .tup [.int .i64 ((Int.ofNat K)), okV0]), cL ((a + m) - 1) a true, cI 265 0, cI 265 (Int.ofNat K), cT 163 0 (Int.ofNat K) 0, (68, [intV (0), intV ((ipow m (Int.ofNat K)))], none, .int .i64 0)] (upL (fun i => [(265, [.int .i64 (Int.ofNat i)], none, intV (Int.ofNat i)), (158, [intV a, intV (Int.ofNat i)], none, .tup [intV (a + Int.ofNat i), okV0]), (80, [valV (a + Int.ofNat i)], none, okV0)]) K 0)
def p2zD (a n m : Int) (K : Nat) : List V := app [dig a, dig ((a + (Int.ofNat K)) - 1), dig ((a + m) - 1), dig (((a + (Int.ofNat K)) - 1) - a), dig ((((a + (Int.ofNat K)) - 1) - a) + 1)] (upL (fun i => [dig (a + Int.ofNat i)]) K 0)
def p2zE (a n m : Int) (K : Nat) : List EQ := [er (wv a), er (wv ((a + (Int.ofNat K)) - 1)), er (wv ((a + m) - 1)), er (intV ((((a + (Int.ofNat K)) - 1) - a) + 1))]
def p2zZ (K : Nat) : ZJ := app [cj 34 0, cj 15 1, oj 1557 6 0, fj 41 1 0, fj 15 1 0, cj 108 2, oj 71 6 1, fj 41 1 1, fj 15 1 1, cj 108 3, oj 325 6 0, fj 41 1 0, fj 15 1 0, cj 108 2, oj 71 6 2, fj 41 1 2, fj 15 1 2, cj 108 4, oj 358 6 0, oj 52 3 0, oj 1 3 0, oj 10 6 1, oj 52 3 1, oj 1 3 1, oj 2 3 1, oj 148 6 0, oj 52 3 0, oj 1 3 0, oj 10 6 2, oj 52 3 2, oj 1 3 2, oj 2 3 2, oj2 96 10 0 12 1, oj2 15 10 0 12 2, oj2 1 10 0 12 2, oj2 217 10 0 12 1, cj 117 5, cj 4 6, oj2 30 10 0 12 2, cj 117 5, cj 4 7, oj2 316 10 0 12 1, cj 117 5, cj 4 6, oj2 30 10 0 12 2, cj 117 5, cj 4 7, oj2 147 10 0 12 1, oj2 35 10 0 12 2, cj 82 8, cj 15 9, oj 8 1 3, oj 0 1 3, cj 4 10, cj 8 11, oj 8 1 4, oj 0 1 4, oj 1 1 4, oj 1 1 4, oj 9 1 4, cj 8 12, fj 1 4 3, cj 0 13, cj 9 14] (app (upL (fun i => [(natC i 29 (fun _ => 17), .con (20 + 3 * i + 0)), (16, .con (20 + 3 * i + 1)), (8, .opq [(1, 5 + i)]), (0, .opq [(1, 5 + i)]), (2, .opq [(3, 5 + i)]), (4, .opq [(3, 5 + i)]), (1, .con (20 + 3 * i + 2)), (7, .opq [(3, 5 + i)])]) K 0) [cj 60 15, cj 4 16, cj 27 15, cj 4 16, cj 6 17, cj 2 18, cj 39 15, cj 4 16, cj 6 17, cj 2 18, cj 127 19])
def p2zP (K : Nat) : Prop := ∀ a n m : Int, PartP 400 lawA2 lawS2 (p2zC a n m K) (p2zD a n m K) (p2zE a n m K) (p2zZ K) a n m (Int.ofNat K)
end
end Go.AM.E15
end
section
set_option maxRecDepth 100000
namespace Go.AM.E15
open Go
noncomputable section
def grd0C (a n m k : Int) : List Con := []
def grd0D (a n m k : Int) : List V := []
def grd0E (a n m k : Int) : List EQ := [.eq (.bool (!leI (-1000) a)) (.bool true)]
def grd0Z : ZJ := [vj 5 0]
theorem grd0w (a n m k : Int) {n0 : Nat} (hd : ∀ d ∈ grd0D a n m k, oneV d = true) (he : ∀ q ∈ grd0E a n m k, q.Holds) (hc : ∀ n', n0 ≤ n' → ∀ c ∈ grd0C a n m k, ∀ s, okS c.2.2.1 s → (recN EL n').call c.1 c.2.1 s = .ret c.2.2.2 s false) :
    hypJ (grd0C a n m k) (grd0D a n m k) (grd0E a n m k) grd0Z (∃ s', doBody EL (recN EL (n0 + 1 + 60)) 3 [.int .i64 a, .int .i64 n, .int .i64 m, .int .i64 k] false none s0 = .ret (.bool true) s' false) := by
  refine cast ?_ (inl_ex (E := EL) (cs := grd0C a n m k) (ds := grd0D a n m k) (es := grd0E a n m k) hd he hc 60 3 [.int .i64 a, .int .i64 n, .int .i64 m, .int .i64 k] s0 grd0Z)
  kernel_rfl
def grd1C (a n m k : Int) : List Con := []
def grd1D (a n m k : Int) : List V := []
def grd1E (a n m k : Int) : List EQ := [.eq (.bool (!leI (-1000) a)) (.bool false), .eq (.bool (!leI a 1000)) (.bool true)]
def grd1Z : ZJ := [vj 5 0, vj 2 1]
theorem grd1w (a n m k : Int) {n0 : Nat} (hd : ∀ d ∈ grd1D a n m k, oneV d = true) (he : ∀ q ∈ grd1E a n m k, q.Holds) (hc : ∀ n', n0 ≤ n' → ∀ c ∈ grd1C a n m k, ∀ s, okS c.2.2.1 s → (recN EL n').call c.1 c.2.1 s = .ret c.2.2.2 s false) :
    hypJ (grd1C a n m k) (grd1D a n m k) (grd1E a n m k) grd1Z (∃ s', doBody EL (recN EL (n0 + 1 + 60)) 3 [.int .i64 a, .int .i64 n, .int .i64 m, .int .i64 k] false none s0 = .ret (.bool true) s' false) := by
  refine cast ?_ (inl_ex (E := EL) (cs := grd1C a n m k) (ds := grd1D a n m k) (es := grd1E a n m k) hd he hc 60 3 [.int .i64 a, .int .i64 n, .int .i64 m, .int .i64 k] s0 grd1Z)
  kernel_rfl
def grd2C (a n m k : Int) : List Con := []
def grd2D (a n m k : Int) : List V := []
def grd2E (a n m k : Int) : List EQ := [.eq (.bool (!leI (-1000) a)) (.bool false), .eq (.bool (!leI a 1000)) (.bool false), .eq (.bool (!leI 0 n)) (.bool true)]
def grd2Z : ZJ := [vj 5 0, vj 2 1, vj 3 2]
theorem grd2w (a n m k : Int) {n0 : Nat} (hd : ∀ d ∈ grd2D a n m k, oneV d = true) (he : ∀ q ∈ grd2E a n m k, q.Holds) (hc : ∀ n', n0 ≤ n' → ∀ c ∈ grd2C a n m k, ∀ s, okS c.2.2.1 s → (recN EL n').call c.1 c.2.1 s = .ret c.2.2.2 s false) :
    hypJ (grd2C a n m k) (grd2D a n m k) (grd2E a n m k) grd2Z (∃ s', doBody EL (recN EL (n0 + 1 + 60)) 3 [.int .i64 a, .int .i64 n, .int .i64 m, .int .i64 k] false none s0 = .ret (.bool true) s' false) := by
  refine cast ?_ (inl_ex (E := EL) (cs := grd2C a n m k) (ds := grd2D a n m k) (es := grd2E a n m k) hd he hc 60 3 [.int .i64 a, .int .i64 n, .int .i64 m, .int .i64 k] s0 grd2Z)
  kernel_rfl
def grd3C (a n m k : Int) : List Con := []
def grd3D (a n m k : Int) : List V := []
def grd3E (a n m k : Int) : List EQ := [.eq (.bool (!leI (-1000) a)) (.bool false), .eq (.bool (!leI a 1000)) (.bool false), .eq (.bool (!leI 0 n)) (.bool false), .eq (.bool (!leI n 900)) (.bool true)]
def grd3Z : ZJ := [vj 5 0, vj 2 1, vj 3 2, vj 3 3]
theorem grd3w (a n m k : Int) {n0 : Nat} (hd : ∀ d ∈ grd3D a n m k, oneV d = true) (he : ∀ q ∈ grd3E a n m k, q.Holds) (hc : ∀ n', n0 ≤ n' → ∀ c ∈ grd3C a n m k, ∀ s, okS c.2.2.1 s → (recN EL n').call c.1 c.2.1 s = .ret c.2.2.2 s false) :
    hypJ (grd3C a n m k) (grd3D a n m k) (grd3E a n m k) grd3Z (∃ s', doBody EL (recN EL (n0 + 1 + 60)) 3 [.int .i64 a, .int .i64 n, .int .i64 m, .int .i64 k] false none s0 = .ret (.bool true) s' false) := by
  refine cast ?_ (inl_ex (E := EL) (cs := grd3C a n m k) (ds := grd3D a n m k) (es := grd3E a n m k) hd he hc 60 3 [.int .i64 a, .int .i64 n, .int .i64 m, .int .i64 k] s0 grd3Z)
  kernel_rfl
def grd4C (a n m k : Int) : List Con := []
def grd4D (a n m k : Int) : List V := []
def grd4E (a n m k : Int) : List EQ := [.eq (.bool (!leI (-1000) a)) (.bool false), .eq (.bool (!leI a 1000)) (.bool false), .eq (.bool (!leI 0 n)) (.bool false), .eq (.bool (!leI n 900)) (.bool false), .eq (.bool (!leI 0 m)) (.bool true)]
def grd4Z : ZJ := [vj 5 0, vj 2 1, vj 3 2, vj 3 3, vj 3 4]
theorem grd4w (a n m k : Int) {n0 : Nat} (hd : ∀ d ∈ grd4D a n m k, oneV d = true) (he : ∀ q ∈ grd4E a n m k, q.Holds) (hc : ∀ n', n0 ≤ n' → ∀ c ∈ grd4C a n m k, ∀ s, okS c.2.2.1 s → (recN EL n').call c.1 c.2.1 s = .ret c.2.2.2 s false) :
    hypJ (grd4C a n m k) (grd4D a n m k) (grd4E a n m k) grd4Z (∃ s', doBody EL (recN EL (n0 + 1 + 60)) 3 [.int .i64 a, .int .i64 n, .int .i64 m, .int .i64 k] false none s0 = .ret (.bool true) s' false) := by
  refine cast ?_ (inl_ex (E := EL) (cs := grd4C a n m k) (ds := grd4D a n m k) (es := grd4E a n m k) hd he hc 60 3 [.int .i64 a, .int .i64 n, .int .i64 m, .int .i64 k] s0 grd4Z)
  kernel_rfl
def grd5C (a n m k : Int) : List Con := []
def grd5D (a n m k : Int) : List V := []
def grd5E (a n m k : Int) : List EQ := [.eq (.bool (!leI (-1000) a)) (.bool false), .eq (.bool (!leI a 1000)) (.bool false), .eq (.bool (!leI 0 n)) (.bool false), .eq (.bool (!leI n 900)) (.bool false), .eq (.bool (!leI 0 m)) (.bool false), .eq (.bool (!leI m 100)) (.bool true)]
def grd5Z : ZJ := [vj 5 0, vj 2 1, vj 3 2, vj 3 3, vj 3 4, vj 3 5]
theorem grd5w (a n m k : Int) {n0 : Nat} (hd : ∀ d ∈ grd5D a n m k, oneV d = true) (he : ∀ q ∈ grd5E a n m k, q.Holds) (hc : ∀ n', n0 ≤ n' → ∀ c ∈ grd5C a n m k, ∀ s, okS c.2.2.1 s → (recN EL n').call c.1 c.2.1 s = .ret c.2.2.2 s false) :
    hypJ (grd5C a n m k) (grd5D a n m k) (grd5E a n m k) grd5Z (∃ s', doBody EL (recN EL (n0 + 1 + 60)) 3 [.int .i64 a, .int .i64 n, .int .i64 m, .int .i64 k] false none s0 = .ret (.bool true) s' false) := by
  refine cast ?_ (inl_ex (E := EL) (cs := grd5C a n m k) (ds := grd5D a n m k) (es := grd5E a n m k) hd he hc 60 3 [.int .i64 a, .int .i64 n, .int .i64 m, .int .i64 k] s0 grd5Z)
  kernel_rfl
def grd6C (a n m k : Int) : List Con := []
def grd6D (a n m k : Int) : List V := []
def grd6E (a n m k : Int) : List EQ := [.eq (.bool (!leI (-1000) a)) (.bool false), .eq (.bool (!leI a 1000)) (.bool false), .eq (.bool (!leI 0 n)) (.bool false), .eq (.bool (!leI n 900)) (.bool false), .eq (.bool (!leI 0 m)) (.bool false), .eq (.bool (!leI m 100)) (.bool false), .eq (.bool (!leI 0 k)) (.bool true)]
def grd6Z : ZJ := [vj 5 0, vj 2 1, vj 3 2, vj 3 3, vj 3 4, vj 3 5, vj 3 6]
theorem grd6w (a n m k : Int) {n0 : Nat} (hd : ∀ d ∈ grd6D a n m k, oneV d = true) (he : ∀ q ∈ grd6E a n m k, q.Holds) (hc : ∀ n', n0 ≤ n' → ∀ c ∈ grd6C a n m k, ∀ s, okS c.2.2.1 s → (recN EL n').call c.1 c.2.1 s = .ret c.2.2.2 s false) :
    hypJ (grd6C a n m k) (grd6D a n m k) (grd6E a n m k) grd6Z (∃ s', doBody EL (recN EL (n0 + 1 + 60)) 3 [.int .i64 a, .int .i64 n, .int .i64 m, .int .i64 k] false none s0 = .ret (.bool true) s' false) := by
  refine cast ?_ (inl_ex (E := EL) (cs := grd6C a n m k) (ds := grd6D a n m k) (es := grd6E a n m k) hd he hc 60 3 [.int .i64 a, .int .i64 n, .int .i64 m, .int .i64 k] s0 grd6Z)
  kernel_rfl
def grd7C (a n m k : Int) : List Con := []
def grd7D (a n m k : Int) : List V := []
def grd7E (a n m k : Int) : List EQ := [.eq (.bool (!leI (-1000) a)) (.bool false), .eq (.bool (!leI a 1000)) (.bool false), .eq (.bool (!leI 0 n)) (.bool false), .eq (.bool (!leI n 900)) (.bool false), .eq (.bool (!leI 0 m)) (.bool false), .eq (.bool (!leI m 100)) (.bool false), .eq (.bool (!leI 0 k)) (.bool false), .eq (.bool (!leI k 40)) (.bool true)]
def grd7Z : ZJ := [vj 5 0, vj 2 1, vj 3 2, vj 3 3, vj 3 4, vj 3 5, vj 3 6, vj 3 7]
theorem grd7w (a n m k : Int) {n0 : Nat} (hd : ∀ d ∈ grd7D a n m k, oneV d = true) (he : ∀ q ∈ grd7E a n m k, q.Holds) (hc : ∀ n', n0 ≤ n' → ∀ c ∈ grd7C a n m k, ∀ s, okS c.2.2.1 s → (recN EL n').call c.1 c.2.1 s = .ret c.2.2.2 s false) :
    hypJ (grd7C a n m k) (grd7D a n m k) (grd7E a n m k) grd7Z (∃ s', doBody EL (recN EL (n0 + 1 + 60)) 3 [.int .i64 a, .int .i64 n, .int .i64 m, .int .i64 k] false none s0 = .ret (.bool true) s' false) := by
  refine cast ?_ (inl_ex (E := EL) (cs := grd7C a n m k) (ds := grd7D a n m k) (es := grd7E a n m k) hd he hc 60 3 [.int .i64 a, .int .i64 n, .int .i64 m, .int .i64 k] s0 grd7Z)
  kernel_rfl
end
end Go.AM.E15
end
