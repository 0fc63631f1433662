import Derived.Test.YtejhioblmaaokaaGreatDoorS40K
import Derived.Test.YtejhioblmaaokaaGreatDoorAm3
set_option linter.all false
section
/- Read. -/
set_option maxRecDepth 100000
namespace Go.AM.S40.Sy
open Go Go.Proofs
noncomputable section
noncomputable def q6_0_1 (l : List Nat) : S := mkS 2 [(0, .cells true 10 [.str l]), (1, .cells true 24 [.int .i64 0, .int .i64 0, .str []])]
noncomputable def q6_0_2 (l : List Nat) (a : Nat) : S := mkS 3 [(0, .cells true 10 [.str l]), (1, .cells true 24 [.int .i64 0, .int .i64 0, .str []]), (2, .cells true 4 [.int .i64 (Int.ofNat a)])]
noncomputable def q6_0_3 (l : List Nat) (a : Nat) (b : Nat) : S := mkS 4 [(0, .cells true 10 [.str l]), (1, .cells true 24 [.int .i64 0, .int .i64 0, .str []]), (2, .cells true 4 [.int .i64 (Int.ofNat a)]), (3, .cells true 4 [.int .i64 (Int.ofNat b)])]
noncomputable def q6_0_4 (l : List Nat) (ws : List Nat) (kd : Nat) (a : Nat) (b : Nat) : S := mkS 5 [(0, .cells true 10 [.str l]), (1, .cells true 24 [.int .i64 (Int.ofNat kd), .int .i64 0, .str []]), (2, .cells true 4 [.int .i64 (Int.ofNat a)]), (3, .cells true 4 [.int .i64 (Int.ofNat b)]), (4, .cells true 38 [.str ws, .int .i64 (Int.ofNat kd), .int .i64 0])]
noncomputable def q6_0_5 (l : List Nat) (ws : List Nat) (kd : Nat) (a : Nat) (b : Nat) : S := mkS 5 [(0, .cells true 10 [.str l]), (1, .cells true 24 [.int .i64 0, .int .i64 0, .str []]), (2, .cells true 4 [.int .i64 (Int.ofNat a)]), (3, .cells true 4 [.int .i64 (Int.ofNat b)]), (4, .cells true 38 [.str ws, .int .i64 (Int.ofNat kd), .int .i64 0])]
theorem w6_0_r0 (l ws d : List Nat) (kd j a b r e g v : Nat) (rr : List V) (rc : Rec) : ((!leI (Int.ofNat (len l)) 500) = true) → doBody EA rc 6 [.str l] false none (mkS 0 []) = .ret (.tup [.agg [.int .i64 0, .int .i64 0, .str []], .int .i64 0, .int .i64 2]) (q6_0_1 l) false := by
  refine cast ?_ (doQ_ok EA rc 6 [.str l] (mkS 0 []) [(6, .bl true)]); kernel_rfl
theorem w6_0_r1 (l ws d : List Nat) (kd j a b r e g v : Nat) (rr : List V) (rc : Rec) : ((!leI (Int.ofNat (len l)) 500) = false) → (rc.call 13 [.str l] (q6_0_1 l) = .ret (.tup [.int .i64 0, .bool false]) (q6_0_1 l) false) → (rc.call 15 [.str l, .int .i64 0] (q6_0_1 l) = .ret (.int .i64 (Int.ofNat a)) (q6_0_1 l) false) → (rc.call 16 [.str l, .int .i64 (Int.ofNat a)] (q6_0_2 l a) = .ret (.int .i64 (Int.ofNat b)) (q6_0_2 l a) false) → (rc.call 8 [] (q6_0_3 l a b) = .ret ((LW wT)) (q6_0_3 l a b) false) → (rc.call 9 [(LW wT), .fn (.func 17) [] [.ptr 0 0, .ptr 2 0, .ptr 3 0]] (q6_0_3 l a b) = .ret (.tup [.int .i64 (Int.ofNat j), .bool true]) (q6_0_3 l a b) false) → ((idxSl 3 (LW wT) j) = some (.lptr ((.str ws) :: (.int .i64 (Int.ofNat kd)) :: (.int .i64 0) :: rr))) → (rc.call 15 [.str l, .int .i64 (Int.ofNat b)] (q6_0_3 l a b) = .ret (.int .i64 (Int.ofNat r)) (q6_0_3 l a b) false) → ((!leI (Int.ofNat (len l)) (Int.ofNat r)) = true) → (rc.call 14 [.int .i64 (Int.ofNat r)] (q6_0_4 l ws kd a b) = .ret (.tup [.agg [.int .i64 0, .int .i64 0, .str []], .int .i64 (Int.ofNat r), .int .i64 400]) (q6_0_4 l ws kd a b) false) → doBody EA rc 6 [.str l] false none (mkS 0 []) = .ret (.tup [.agg [.int .i64 0, .int .i64 0, .str []], .int .i64 (Int.ofNat r), .int .i64 400]) (q6_0_5 l ws kd a b) false := by
  refine cast ?_ (doQ_ok EA rc 6 [.str l] (mkS 0 []) [(6, .bl false), (1, .cl (.tup [.int .i64 0, .bool false])), (7, .cl (.int .i64 (Int.ofNat a))), (4, .cl (.int .i64 (Int.ofNat b))), (2, .cl ((LW wT))), (3, .cl (.tup [.int .i64 (Int.ofNat j), .bool true])), (9, .il (.lptr ((.str ws) :: (.int .i64 (Int.ofNat kd)) :: (.int .i64 0) :: rr))), (3, .cl (.int .i64 (Int.ofNat r))), (14, .bl true), (3, .cl (.tup [.agg [.int .i64 0, .int .i64 0, .str []], .int .i64 (Int.ofNat r), .int .i64 400]))]); kernel_rfl
theorem w6_0_r2 (l ws d : List Nat) (kd j a b r e g v : Nat) (rr : List V) (rc : Rec) : ((!leI (Int.ofNat (len l)) 500) = false) → (rc.call 13 [.str l] (q6_0_1 l) = .ret (.tup [.int .i64 0, .bool false]) (q6_0_1 l) false) → (rc.call 15 [.str l, .int .i64 0] (q6_0_1 l) = .ret (.int .i64 (Int.ofNat a)) (q6_0_1 l) false) → (rc.call 16 [.str l, .int .i64 (Int.ofNat a)] (q6_0_2 l a) = .ret (.int .i64 (Int.ofNat b)) (q6_0_2 l a) false) → (rc.call 8 [] (q6_0_3 l a b) = .ret ((LW wT)) (q6_0_3 l a b) false) → (rc.call 9 [(LW wT), .fn (.func 17) [] [.ptr 0 0, .ptr 2 0, .ptr 3 0]] (q6_0_3 l a b) = .ret (.tup [.int .i64 (Int.ofNat j), .bool true]) (q6_0_3 l a b) false) → ((idxSl 3 (LW wT) j) = some (.lptr ((.str ws) :: (.int .i64 (Int.ofNat kd)) :: (.int .i64 0) :: rr))) → (rc.call 15 [.str l, .int .i64 (Int.ofNat b)] (q6_0_3 l a b) = .ret (.int .i64 (Int.ofNat r)) (q6_0_3 l a b) false) → ((!leI (Int.ofNat (len l)) (Int.ofNat r)) = false) → doBody EA rc 6 [.str l] false none (mkS 0 []) = .ret (.tup [.agg [.int .i64 (Int.ofNat kd), .int .i64 0, .str []], .int .i64 0, .int .i64 0]) (q6_0_4 l ws kd a b) false := by
  refine cast ?_ (doQ_ok EA rc 6 [.str l] (mkS 0 []) [(6, .bl false), (1, .cl (.tup [.int .i64 0, .bool false])), (7, .cl (.int .i64 (Int.ofNat a))), (4, .cl (.int .i64 (Int.ofNat b))), (2, .cl ((LW wT))), (3, .cl (.tup [.int .i64 (Int.ofNat j), .bool true])), (9, .il (.lptr ((.str ws) :: (.int .i64 (Int.ofNat kd)) :: (.int .i64 0) :: rr))), (3, .cl (.int .i64 (Int.ofNat r))), (14, .bl false)]); kernel_rfl
theorem w6_0_r3 (l ws d : List Nat) (kd j a b r e g v : Nat) (rr : List V) (rc : Rec) : ((!leI (Int.ofNat (len l)) 500) = false) → (rc.call 13 [.str l] (q6_0_1 l) = .ret (.tup [.int .i64 0, .bool false]) (q6_0_1 l) false) → (rc.call 15 [.str l, .int .i64 0] (q6_0_1 l) = .ret (.int .i64 (Int.ofNat a)) (q6_0_1 l) false) → (rc.call 16 [.str l, .int .i64 (Int.ofNat a)] (q6_0_2 l a) = .ret (.int .i64 (Int.ofNat b)) (q6_0_2 l a) false) → (rc.call 8 [] (q6_0_3 l a b) = .ret ((LW wT)) (q6_0_3 l a b) false) → (rc.call 9 [(LW wT), .fn (.func 17) [] [.ptr 0 0, .ptr 2 0, .ptr 3 0]] (q6_0_3 l a b) = .ret (.tup [.int .i64 0, .bool false]) (q6_0_3 l a b) false) → (rc.call 14 [.int .i64 (Int.ofNat a)] (q6_0_3 l a b) = .ret (.tup [.agg [.int .i64 0, .int .i64 0, .str []], .int .i64 (Int.ofNat a), .int .i64 400]) (q6_0_3 l a b) false) → doBody EA rc 6 [.str l] false none (mkS 0 []) = .ret (.tup [.agg [.int .i64 0, .int .i64 0, .str []], .int .i64 (Int.ofNat a), .int .i64 400]) (q6_0_3 l a b) false := by
  refine cast ?_ (doQ_ok EA rc 6 [.str l] (mkS 0 []) [(6, .bl false), (1, .cl (.tup [.int .i64 0, .bool false])), (7, .cl (.int .i64 (Int.ofNat a))), (4, .cl (.int .i64 (Int.ofNat b))), (2, .cl ((LW wT))), (3, .cl (.tup [.int .i64 0, .bool false])), (8, .cl (.tup [.agg [.int .i64 0, .int .i64 0, .str []], .int .i64 (Int.ofNat a), .int .i64 400]))]); kernel_rfl
theorem w6_0_r4 (l ws d : List Nat) (kd j a b r e g v : Nat) (rr : List V) (rc : Rec) : ((!leI (Int.ofNat (len l)) 500) = false) → (rc.call 13 [.str l] (q6_0_1 l) = .ret (.tup [.int .i64 (Int.ofNat j), .bool true]) (q6_0_1 l) false) → (rc.call 14 [.int .i64 (Int.ofNat j)] (q6_0_1 l) = .ret (.tup [.agg [.int .i64 0, .int .i64 0, .str []], .int .i64 (Int.ofNat j), .int .i64 400]) (q6_0_1 l) false) → doBody EA rc 6 [.str l] false none (mkS 0 []) = .ret (.tup [.agg [.int .i64 0, .int .i64 0, .str []], .int .i64 (Int.ofNat j), .int .i64 400]) (q6_0_1 l) false := by
  refine cast ?_ (doQ_ok EA rc 6 [.str l] (mkS 0 []) [(6, .bl false), (1, .cl (.tup [.int .i64 (Int.ofNat j), .bool true])), (7, .cl (.tup [.agg [.int .i64 0, .int .i64 0, .str []], .int .i64 (Int.ofNat j), .int .i64 400]))]); kernel_rfl
noncomputable def q6_1_1 (l : List Nat) : S := mkS 2 [(0, .cells true 10 [.str l]), (1, .cells true 24 [.int .i64 0, .int .i64 0, .str []])]
noncomputable def q6_1_2 (l : List Nat) (a : Nat) : S := mkS 3 [(0, .cells true 10 [.str l]), (1, .cells true 24 [.int .i64 0, .int .i64 0, .str []]), (2, .cells true 4 [.int .i64 (Int.ofNat a)])]
noncomputable def q6_1_3 (l : List Nat) (a : Nat) (b : Nat) : S := mkS 4 [(0, .cells true 10 [.str l]), (1, .cells true 24 [.int .i64 0, .int .i64 0, .str []]), (2, .cells true 4 [.int .i64 (Int.ofNat a)]), (3, .cells true 4 [.int .i64 (Int.ofNat b)])]
noncomputable def q6_1_4 (l : List Nat) (ws : List Nat) (kd : Nat) (a : Nat) (b : Nat) : S := mkS 5 [(0, .cells true 10 [.str l]), (1, .cells true 24 [.int .i64 (Int.ofNat kd), .int .i64 1, .str []]), (2, .cells true 4 [.int .i64 (Int.ofNat a)]), (3, .cells true 4 [.int .i64 (Int.ofNat b)]), (4, .cells true 38 [.str ws, .int .i64 (Int.ofNat kd), .int .i64 1])]
noncomputable def q6_1_5 (l : List Nat) (ws : List Nat) (kd : Nat) (a : Nat) (b : Nat) : S := mkS 5 [(0, .cells true 10 [.str l]), (1, .cells true 24 [.int .i64 (Int.ofNat kd), .int .i64 0, .str []]), (2, .cells true 4 [.int .i64 (Int.ofNat a)]), (3, .cells true 4 [.int .i64 (Int.ofNat b)]), (4, .cells true 38 [.str ws, .int .i64 (Int.ofNat kd), .int .i64 1])]
noncomputable def q6_1_6 (l : List Nat) (ws : List Nat) (kd : Nat) (a : Nat) (b : Nat) : S := mkS 5 [(0, .cells true 10 [.str l]), (1, .cells true 24 [.int .i64 0, .int .i64 0, .str []]), (2, .cells true 4 [.int .i64 (Int.ofNat a)]), (3, .cells true 4 [.int .i64 (Int.ofNat b)]), (4, .cells true 38 [.str ws, .int .i64 (Int.ofNat kd), .int .i64 1])]
noncomputable def q6_1_7 (l : List Nat) (ws : List Nat) (kd : Nat) (a : Nat) (b : Nat) (v : Nat) : S := mkS 5 [(0, .cells true 10 [.str l]), (1, .cells true 24 [.int .i64 (Int.ofNat kd), .int .i64 (Int.ofNat v), .str []]), (2, .cells true 4 [.int .i64 (Int.ofNat a)]), (3, .cells true 4 [.int .i64 (Int.ofNat b)]), (4, .cells true 38 [.str ws, .int .i64 (Int.ofNat kd), .int .i64 1])]
theorem w6_1_r0 (l ws d : List Nat) (kd j a b r e g v : Nat) (rr : List V) (rc : Rec) : ((!leI (Int.ofNat (len l)) 500) = false) → (rc.call 13 [.str l] (q6_1_1 l) = .ret (.tup [.int .i64 0, .bool false]) (q6_1_1 l) false) → (rc.call 15 [.str l, .int .i64 0] (q6_1_1 l) = .ret (.int .i64 (Int.ofNat a)) (q6_1_1 l) false) → (rc.call 16 [.str l, .int .i64 (Int.ofNat a)] (q6_1_2 l a) = .ret (.int .i64 (Int.ofNat b)) (q6_1_2 l a) false) → (rc.call 8 [] (q6_1_3 l a b) = .ret ((LW wT)) (q6_1_3 l a b) false) → (rc.call 9 [(LW wT), .fn (.func 17) [] [.ptr 0 0, .ptr 2 0, .ptr 3 0]] (q6_1_3 l a b) = .ret (.tup [.int .i64 (Int.ofNat j), .bool true]) (q6_1_3 l a b) false) → ((idxSl 3 (LW wT) j) = some (.lptr ((.str ws) :: (.int .i64 (Int.ofNat kd)) :: (.int .i64 1) :: rr))) → (rc.call 15 [.str l, .int .i64 (Int.ofNat b)] (q6_1_3 l a b) = .ret (.int .i64 (Int.ofNat r)) (q6_1_3 l a b) false) → ((eqI (Int.ofNat r) (Int.ofNat (len l))) = true) → ((eqI (Int.ofNat kd) 5) = true) → doBody EA rc 6 [.str l] false none (mkS 0 []) = .ret (.tup [.agg [.int .i64 (Int.ofNat kd), .int .i64 1, .str []], .int .i64 0, .int .i64 0]) (q6_1_4 l ws kd a b) false := by
  refine cast ?_ (doQ_ok EA rc 6 [.str l] (mkS 0 []) [(6, .bl false), (1, .cl (.tup [.int .i64 0, .bool false])), (7, .cl (.int .i64 (Int.ofNat a))), (4, .cl (.int .i64 (Int.ofNat b))), (2, .cl ((LW wT))), (3, .cl (.tup [.int .i64 (Int.ofNat j), .bool true])), (9, .il (.lptr ((.str ws) :: (.int .i64 (Int.ofNat kd)) :: (.int .i64 1) :: rr))), (3, .cl (.int .i64 (Int.ofNat r))), (20, .bl true), (3, .bl true)]); kernel_rfl
theorem w6_1_r1 (l ws d : List Nat) (kd j a b r e g v : Nat) (rr : List V) (rc : Rec) : ((!leI (Int.ofNat (len l)) 500) = false) → (rc.call 13 [.str l] (q6_1_1 l) = .ret (.tup [.int .i64 0, .bool false]) (q6_1_1 l) false) → (rc.call 15 [.str l, .int .i64 0] (q6_1_1 l) = .ret (.int .i64 (Int.ofNat a)) (q6_1_1 l) false) → (rc.call 16 [.str l, .int .i64 (Int.ofNat a)] (q6_1_2 l a) = .ret (.int .i64 (Int.ofNat b)) (q6_1_2 l a) false) → (rc.call 8 [] (q6_1_3 l a b) = .ret ((LW wT)) (q6_1_3 l a b) false) → (rc.call 9 [(LW wT), .fn (.func 17) [] [.ptr 0 0, .ptr 2 0, .ptr 3 0]] (q6_1_3 l a b) = .ret (.tup [.int .i64 (Int.ofNat j), .bool true]) (q6_1_3 l a b) false) → ((idxSl 3 (LW wT) j) = some (.lptr ((.str ws) :: (.int .i64 (Int.ofNat kd)) :: (.int .i64 1) :: rr))) → (rc.call 15 [.str l, .int .i64 (Int.ofNat b)] (q6_1_3 l a b) = .ret (.int .i64 (Int.ofNat r)) (q6_1_3 l a b) false) → ((eqI (Int.ofNat r) (Int.ofNat (len l))) = true) → ((eqI (Int.ofNat kd) 5) = false) → ((eqI (Int.ofNat kd) 6) = true) → doBody EA rc 6 [.str l] false none (mkS 0 []) = .ret (.tup [.agg [.int .i64 (Int.ofNat kd), .int .i64 1, .str []], .int .i64 0, .int .i64 0]) (q6_1_4 l ws kd a b) false := by
  refine cast ?_ (doQ_ok EA rc 6 [.str l] (mkS 0 []) [(6, .bl false), (1, .cl (.tup [.int .i64 0, .bool false])), (7, .cl (.int .i64 (Int.ofNat a))), (4, .cl (.int .i64 (Int.ofNat b))), (2, .cl ((LW wT))), (3, .cl (.tup [.int .i64 (Int.ofNat j), .bool true])), (9, .il (.lptr ((.str ws) :: (.int .i64 (Int.ofNat kd)) :: (.int .i64 1) :: rr))), (3, .cl (.int .i64 (Int.ofNat r))), (20, .bl true), (3, .bl false), (3, .bl true)]); kernel_rfl
theorem w6_1_r2 (l ws d : List Nat) (kd j a b r e g v : Nat) (rr : List V) (rc : Rec) : ((!leI (Int.ofNat (len l)) 500) = false) → (rc.call 13 [.str l] (q6_1_1 l) = .ret (.tup [.int .i64 0, .bool false]) (q6_1_1 l) false) → (rc.call 15 [.str l, .int .i64 0] (q6_1_1 l) = .ret (.int .i64 (Int.ofNat a)) (q6_1_1 l) false) → (rc.call 16 [.str l, .int .i64 (Int.ofNat a)] (q6_1_2 l a) = .ret (.int .i64 (Int.ofNat b)) (q6_1_2 l a) false) → (rc.call 8 [] (q6_1_3 l a b) = .ret ((LW wT)) (q6_1_3 l a b) false) → (rc.call 9 [(LW wT), .fn (.func 17) [] [.ptr 0 0, .ptr 2 0, .ptr 3 0]] (q6_1_3 l a b) = .ret (.tup [.int .i64 (Int.ofNat j), .bool true]) (q6_1_3 l a b) false) → ((idxSl 3 (LW wT) j) = some (.lptr ((.str ws) :: (.int .i64 (Int.ofNat kd)) :: (.int .i64 1) :: rr))) → (rc.call 15 [.str l, .int .i64 (Int.ofNat b)] (q6_1_3 l a b) = .ret (.int .i64 (Int.ofNat r)) (q6_1_3 l a b) false) → ((eqI (Int.ofNat r) (Int.ofNat (len l))) = true) → ((eqI (Int.ofNat kd) 5) = false) → ((eqI (Int.ofNat kd) 6) = false) → (rc.call 14 [.int .i64 (Int.ofNat r)] (q6_1_5 l ws kd a b) = .ret (.tup [.agg [.int .i64 0, .int .i64 0, .str []], .int .i64 (Int.ofNat r), .int .i64 400]) (q6_1_5 l ws kd a b) false) → doBody EA rc 6 [.str l] false none (mkS 0 []) = .ret (.tup [.agg [.int .i64 0, .int .i64 0, .str []], .int .i64 (Int.ofNat r), .int .i64 400]) (q6_1_6 l ws kd a b) false := by
  have h_ : (((!leI (Int.ofNat (len l)) 500) = false) → (rc.call 13 [.str l] (q6_1_1 l) = .ret (.tup [.int .i64 0, .bool false]) (q6_1_1 l) false) → (rc.call 15 [.str l, .int .i64 0] (q6_1_1 l) = .ret (.int .i64 (Int.ofNat a)) (q6_1_1 l) false) → (rc.call 16 [.str l, .int .i64 (Int.ofNat a)] (q6_1_2 l a) = .ret (.int .i64 (Int.ofNat b)) (q6_1_2 l a) false) → (rc.call 8 [] (q6_1_3 l a b) = .ret ((LW wT)) (q6_1_3 l a b) false) → (rc.call 9 [(LW wT), .fn (.func 17) [] [.ptr 0 0, .ptr 2 0, .ptr 3 0]] (q6_1_3 l a b) = .ret (.tup [.int .i64 (Int.ofNat j), .bool true]) (q6_1_3 l a b) false) → ((idxSl 3 (LW wT) j) = some (.lptr ((.str ws) :: (.int .i64 (Int.ofNat kd)) :: (.int .i64 1) :: rr))) → (rc.call 15 [.str l, .int .i64 (Int.ofNat b)] (q6_1_3 l a b) = .ret (.int .i64 (Int.ofNat r)) (q6_1_3 l a b) false) → ((eqI (Int.ofNat r) (Int.ofNat (len l))) = true) → ((eqI (Int.ofNat kd) 5) = false) → ((eqI (Int.ofNat kd) 6) = false) → ((eqI (Int.ofNat r) (Int.ofNat (len l))) = true) → (rc.call 14 [.int .i64 (Int.ofNat r)] (q6_1_5 l ws kd a b) = .ret (.tup [.agg [.int .i64 0, .int .i64 0, .str []], .int .i64 (Int.ofNat r), .int .i64 400]) (q6_1_5 l ws kd a b) false) → doBody EA rc 6 [.str l] false none (mkS 0 []) = .ret (.tup [.agg [.int .i64 0, .int .i64 0, .str []], .int .i64 (Int.ofNat r), .int .i64 400]) (q6_1_6 l ws kd a b) false) := by refine cast ?_ (doQ_ok EA rc 6 [.str l] (mkS 0 []) [(6, .bl false), (1, .cl (.tup [.int .i64 0, .bool false])), (7, .cl (.int .i64 (Int.ofNat a))), (4, .cl (.int .i64 (Int.ofNat b))), (2, .cl ((LW wT))), (3, .cl (.tup [.int .i64 (Int.ofNat j), .bool true])), (9, .il (.lptr ((.str ws) :: (.int .i64 (Int.ofNat kd)) :: (.int .i64 1) :: rr))), (3, .cl (.int .i64 (Int.ofNat r))), (20, .bl true), (3, .bl false), (3, .bl false), (6, .bl true), (2, .cl (.tup [.agg [.int .i64 0, .int .i64 0, .str []], .int .i64 (Int.ofNat r), .int .i64 400]))]); kernel_rfl
  exact fun h_0 h_1 h_2 h_3 h_4 h_5 h_6 h_7 h_8 h_9 h_10 h_11 => h_ h_0 h_1 h_2 h_3 h_4 h_5 h_6 h_7 h_8 h_9 h_10 h_8 h_11
theorem w6_1_r3 (l ws d : List Nat) (kd j a b r e g v : Nat) (rr : List V) (rc : Rec) : ((!leI (Int.ofNat (len l)) 500) = false) → (rc.call 13 [.str l] (q6_1_1 l) = .ret (.tup [.int .i64 0, .bool false]) (q6_1_1 l) false) → (rc.call 15 [.str l, .int .i64 0] (q6_1_1 l) = .ret (.int .i64 (Int.ofNat a)) (q6_1_1 l) false) → (rc.call 16 [.str l, .int .i64 (Int.ofNat a)] (q6_1_2 l a) = .ret (.int .i64 (Int.ofNat b)) (q6_1_2 l a) false) → (rc.call 8 [] (q6_1_3 l a b) = .ret ((LW wT)) (q6_1_3 l a b) false) → (rc.call 9 [(LW wT), .fn (.func 17) [] [.ptr 0 0, .ptr 2 0, .ptr 3 0]] (q6_1_3 l a b) = .ret (.tup [.int .i64 (Int.ofNat j), .bool true]) (q6_1_3 l a b) false) → ((idxSl 3 (LW wT) j) = some (.lptr ((.str ws) :: (.int .i64 (Int.ofNat kd)) :: (.int .i64 1) :: rr))) → (rc.call 15 [.str l, .int .i64 (Int.ofNat b)] (q6_1_3 l a b) = .ret (.int .i64 (Int.ofNat r)) (q6_1_3 l a b) false) → ((eqI (Int.ofNat r) (Int.ofNat (len l))) = false) → (rc.call 16 [.str l, .int .i64 (Int.ofNat r)] (q6_1_5 l ws kd a b) = .ret (.int .i64 (Int.ofNat e)) (q6_1_5 l ws kd a b) false) → ((inB r e (len l) (len l)) = true) → (rc.call 19 [.str (takeB (e - r) (dropN r l))] (q6_1_5 l ws kd a b) = .ret (.tup [.int .i64 (Int.ofNat v), .bool true]) (q6_1_5 l ws kd a b) false) → (rc.call 15 [.str l, .int .i64 (Int.ofNat e)] (q6_1_7 l ws kd a b v) = .ret (.int .i64 (Int.ofNat g)) (q6_1_7 l ws kd a b v) false) → ((!leI (Int.ofNat (len l)) (Int.ofNat g)) = true) → (rc.call 14 [.int .i64 (Int.ofNat g)] (q6_1_7 l ws kd a b v) = .ret (.tup [.agg [.int .i64 0, .int .i64 0, .str []], .int .i64 (Int.ofNat g), .int .i64 400]) (q6_1_7 l ws kd a b v) false) → doBody EA rc 6 [.str l] false none (mkS 0 []) = .ret (.tup [.agg [.int .i64 0, .int .i64 0, .str []], .int .i64 (Int.ofNat g), .int .i64 400]) (q6_1_6 l ws kd a b) false := by
  have h_ : (((!leI (Int.ofNat (len l)) 500) = false) → (rc.call 13 [.str l] (q6_1_1 l) = .ret (.tup [.int .i64 0, .bool false]) (q6_1_1 l) false) → (rc.call 15 [.str l, .int .i64 0] (q6_1_1 l) = .ret (.int .i64 (Int.ofNat a)) (q6_1_1 l) false) → (rc.call 16 [.str l, .int .i64 (Int.ofNat a)] (q6_1_2 l a) = .ret (.int .i64 (Int.ofNat b)) (q6_1_2 l a) false) → (rc.call 8 [] (q6_1_3 l a b) = .ret ((LW wT)) (q6_1_3 l a b) false) → (rc.call 9 [(LW wT), .fn (.func 17) [] [.ptr 0 0, .ptr 2 0, .ptr 3 0]] (q6_1_3 l a b) = .ret (.tup [.int .i64 (Int.ofNat j), .bool true]) (q6_1_3 l a b) false) → ((idxSl 3 (LW wT) j) = some (.lptr ((.str ws) :: (.int .i64 (Int.ofNat kd)) :: (.int .i64 1) :: rr))) → (rc.call 15 [.str l, .int .i64 (Int.ofNat b)] (q6_1_3 l a b) = .ret (.int .i64 (Int.ofNat r)) (q6_1_3 l a b) false) → ((eqI (Int.ofNat r) (Int.ofNat (len l))) = false) → ((eqI (Int.ofNat r) (Int.ofNat (len l))) = false) → (rc.call 16 [.str l, .int .i64 (Int.ofNat r)] (q6_1_5 l ws kd a b) = .ret (.int .i64 (Int.ofNat e)) (q6_1_5 l ws kd a b) false) → ((inB r e (len l) (len l)) = true) → (rc.call 19 [.str (takeB (e - r) (dropN r l))] (q6_1_5 l ws kd a b) = .ret (.tup [.int .i64 (Int.ofNat v), .bool true]) (q6_1_5 l ws kd a b) false) → (rc.call 15 [.str l, .int .i64 (Int.ofNat e)] (q6_1_7 l ws kd a b v) = .ret (.int .i64 (Int.ofNat g)) (q6_1_7 l ws kd a b v) false) → ((!leI (Int.ofNat (len l)) (Int.ofNat g)) = true) → (rc.call 14 [.int .i64 (Int.ofNat g)] (q6_1_7 l ws kd a b v) = .ret (.tup [.agg [.int .i64 0, .int .i64 0, .str []], .int .i64 (Int.ofNat g), .int .i64 400]) (q6_1_7 l ws kd a b v) false) → doBody EA rc 6 [.str l] false none (mkS 0 []) = .ret (.tup [.agg [.int .i64 0, .int .i64 0, .str []], .int .i64 (Int.ofNat g), .int .i64 400]) (q6_1_6 l ws kd a b) false) := by refine cast ?_ (doQ_ok EA rc 6 [.str l] (mkS 0 []) [(6, .bl false), (1, .cl (.tup [.int .i64 0, .bool false])), (7, .cl (.int .i64 (Int.ofNat a))), (4, .cl (.int .i64 (Int.ofNat b))), (2, .cl ((LW wT))), (3, .cl (.tup [.int .i64 (Int.ofNat j), .bool true])), (9, .il (.lptr ((.str ws) :: (.int .i64 (Int.ofNat kd)) :: (.int .i64 1) :: rr))), (3, .cl (.int .i64 (Int.ofNat r))), (20, .bl false), (6, .bl false), (7, .cl (.int .i64 (Int.ofNat e))), (4, .cut), (0, .cl (.tup [.int .i64 (Int.ofNat v), .bool true])), (10, .cl (.int .i64 (Int.ofNat g))), (4, .bl true), (1, .cl (.tup [.agg [.int .i64 0, .int .i64 0, .str []], .int .i64 (Int.ofNat g), .int .i64 400]))]); kernel_rfl
  exact fun h_0 h_1 h_2 h_3 h_4 h_5 h_6 h_7 h_8 h_9 h_10 h_11 h_12 h_13 h_14 => h_ h_0 h_1 h_2 h_3 h_4 h_5 h_6 h_7 h_8 h_8 h_9 h_10 h_11 h_12 h_13 h_14
theorem w6_1_r4 (l ws d : List Nat) (kd j a b r e g v : Nat) (rr : List V) (rc : Rec) : ((!leI (Int.ofNat (len l)) 500) = false) → (rc.call 13 [.str l] (q6_1_1 l) = .ret (.tup [.int .i64 0, .bool false]) (q6_1_1 l) false) → (rc.call 15 [.str l, .int .i64 0] (q6_1_1 l) = .ret (.int .i64 (Int.ofNat a)) (q6_1_1 l) false) → (rc.call 16 [.str l, .int .i64 (Int.ofNat a)] (q6_1_2 l a) = .ret (.int .i64 (Int.ofNat b)) (q6_1_2 l a) false) → (rc.call 8 [] (q6_1_3 l a b) = .ret ((LW wT)) (q6_1_3 l a b) false) → (rc.call 9 [(LW wT), .fn (.func 17) [] [.ptr 0 0, .ptr 2 0, .ptr 3 0]] (q6_1_3 l a b) = .ret (.tup [.int .i64 (Int.ofNat j), .bool true]) (q6_1_3 l a b) false) → ((idxSl 3 (LW wT) j) = some (.lptr ((.str ws) :: (.int .i64 (Int.ofNat kd)) :: (.int .i64 1) :: rr))) → (rc.call 15 [.str l, .int .i64 (Int.ofNat b)] (q6_1_3 l a b) = .ret (.int .i64 (Int.ofNat r)) (q6_1_3 l a b) false) → ((eqI (Int.ofNat r) (Int.ofNat (len l))) = false) → (rc.call 16 [.str l, .int .i64 (Int.ofNat r)] (q6_1_5 l ws kd a b) = .ret (.int .i64 (Int.ofNat e)) (q6_1_5 l ws kd a b) false) → ((inB r e (len l) (len l)) = true) → (rc.call 19 [.str (takeB (e - r) (dropN r l))] (q6_1_5 l ws kd a b) = .ret (.tup [.int .i64 (Int.ofNat v), .bool true]) (q6_1_5 l ws kd a b) false) → (rc.call 15 [.str l, .int .i64 (Int.ofNat e)] (q6_1_7 l ws kd a b v) = .ret (.int .i64 (Int.ofNat g)) (q6_1_7 l ws kd a b v) false) → ((!leI (Int.ofNat (len l)) (Int.ofNat g)) = false) → doBody EA rc 6 [.str l] false none (mkS 0 []) = .ret (.tup [.agg [.int .i64 (Int.ofNat kd), .int .i64 (Int.ofNat v), .str []], .int .i64 0, .int .i64 0]) (q6_1_7 l ws kd a b v) false := by
  have h_ : (((!leI (Int.ofNat (len l)) 500) = false) → (rc.call 13 [.str l] (q6_1_1 l) = .ret (.tup [.int .i64 0, .bool false]) (q6_1_1 l) false) → (rc.call 15 [.str l, .int .i64 0] (q6_1_1 l) = .ret (.int .i64 (Int.ofNat a)) (q6_1_1 l) false) → (rc.call 16 [.str l, .int .i64 (Int.ofNat a)] (q6_1_2 l a) = .ret (.int .i64 (Int.ofNat b)) (q6_1_2 l a) false) → (rc.call 8 [] (q6_1_3 l a b) = .ret ((LW wT)) (q6_1_3 l a b) false) → (rc.call 9 [(LW wT), .fn (.func 17) [] [.ptr 0 0, .ptr 2 0, .ptr 3 0]] (q6_1_3 l a b) = .ret (.tup [.int .i64 (Int.ofNat j), .bool true]) (q6_1_3 l a b) false) → ((idxSl 3 (LW wT) j) = some (.lptr ((.str ws) :: (.int .i64 (Int.ofNat kd)) :: (.int .i64 1) :: rr))) → (rc.call 15 [.str l, .int .i64 (Int.ofNat b)] (q6_1_3 l a b) = .ret (.int .i64 (Int.ofNat r)) (q6_1_3 l a b) false) → ((eqI (Int.ofNat r) (Int.ofNat (len l))) = false) → ((eqI (Int.ofNat r) (Int.ofNat (len l))) = false) → (rc.call 16 [.str l, .int .i64 (Int.ofNat r)] (q6_1_5 l ws kd a b) = .ret (.int .i64 (Int.ofNat e)) (q6_1_5 l ws kd a b) false) → ((inB r e (len l) (len l)) = true) → (rc.call 19 [.str (takeB (e - r) (dropN r l))] (q6_1_5 l ws kd a b) = .ret (.tup [.int .i64 (Int.ofNat v), .bool true]) (q6_1_5 l ws kd a b) false) → (rc.call 15 [.str l, .int .i64 (Int.ofNat e)] (q6_1_7 l ws kd a b v) = .ret (.int .i64 (Int.ofNat g)) (q6_1_7 l ws kd a b v) false) → ((!leI (Int.ofNat (len l)) (Int.ofNat g)) = false) → doBody EA rc 6 [.str l] false none (mkS 0 []) = .ret (.tup [.agg [.int .i64 (Int.ofNat kd), .int .i64 (Int.ofNat v), .str []], .int .i64 0, .int .i64 0]) (q6_1_7 l ws kd a b v) false) := by refine cast ?_ (doQ_ok EA rc 6 [.str l] (mkS 0 []) [(6, .bl false), (1, .cl (.tup [.int .i64 0, .bool false])), (7, .cl (.int .i64 (Int.ofNat a))), (4, .cl (.int .i64 (Int.ofNat b))), (2, .cl ((LW wT))), (3, .cl (.tup [.int .i64 (Int.ofNat j), .bool true])), (9, .il (.lptr ((.str ws) :: (.int .i64 (Int.ofNat kd)) :: (.int .i64 1) :: rr))), (3, .cl (.int .i64 (Int.ofNat r))), (20, .bl false), (6, .bl false), (7, .cl (.int .i64 (Int.ofNat e))), (4, .cut), (0, .cl (.tup [.int .i64 (Int.ofNat v), .bool true])), (10, .cl (.int .i64 (Int.ofNat g))), (4, .bl false)]); kernel_rfl
  exact fun h_0 h_1 h_2 h_3 h_4 h_5 h_6 h_7 h_8 h_9 h_10 h_11 h_12 h_13 => h_ h_0 h_1 h_2 h_3 h_4 h_5 h_6 h_7 h_8 h_8 h_9 h_10 h_11 h_12 h_13
theorem w6_1_r5 (l ws d : List Nat) (kd j a b r e g v : Nat) (rr : List V) (rc : Rec) : ((!leI (Int.ofNat (len l)) 500) = false) → (rc.call 13 [.str l] (q6_1_1 l) = .ret (.tup [.int .i64 0, .bool false]) (q6_1_1 l) false) → (rc.call 15 [.str l, .int .i64 0] (q6_1_1 l) = .ret (.int .i64 (Int.ofNat a)) (q6_1_1 l) false) → (rc.call 16 [.str l, .int .i64 (Int.ofNat a)] (q6_1_2 l a) = .ret (.int .i64 (Int.ofNat b)) (q6_1_2 l a) false) → (rc.call 8 [] (q6_1_3 l a b) = .ret ((LW wT)) (q6_1_3 l a b) false) → (rc.call 9 [(LW wT), .fn (.func 17) [] [.ptr 0 0, .ptr 2 0, .ptr 3 0]] (q6_1_3 l a b) = .ret (.tup [.int .i64 (Int.ofNat j), .bool true]) (q6_1_3 l a b) false) → ((idxSl 3 (LW wT) j) = some (.lptr ((.str ws) :: (.int .i64 (Int.ofNat kd)) :: (.int .i64 1) :: rr))) → (rc.call 15 [.str l, .int .i64 (Int.ofNat b)] (q6_1_3 l a b) = .ret (.int .i64 (Int.ofNat r)) (q6_1_3 l a b) false) → ((eqI (Int.ofNat r) (Int.ofNat (len l))) = false) → (rc.call 16 [.str l, .int .i64 (Int.ofNat r)] (q6_1_5 l ws kd a b) = .ret (.int .i64 (Int.ofNat e)) (q6_1_5 l ws kd a b) false) → ((inB r e (len l) (len l)) = true) → (rc.call 19 [.str (takeB (e - r) (dropN r l))] (q6_1_5 l ws kd a b) = .ret (.tup [.int .i64 0, .bool false]) (q6_1_5 l ws kd a b) false) → (rc.call 14 [.int .i64 (Int.ofNat r)] (q6_1_5 l ws kd a b) = .ret (.tup [.agg [.int .i64 0, .int .i64 0, .str []], .int .i64 (Int.ofNat r), .int .i64 400]) (q6_1_5 l ws kd a b) false) → doBody EA rc 6 [.str l] false none (mkS 0 []) = .ret (.tup [.agg [.int .i64 0, .int .i64 0, .str []], .int .i64 (Int.ofNat r), .int .i64 400]) (q6_1_6 l ws kd a b) false := by
  have h_ : (((!leI (Int.ofNat (len l)) 500) = false) → (rc.call 13 [.str l] (q6_1_1 l) = .ret (.tup [.int .i64 0, .bool false]) (q6_1_1 l) false) → (rc.call 15 [.str l, .int .i64 0] (q6_1_1 l) = .ret (.int .i64 (Int.ofNat a)) (q6_1_1 l) false) → (rc.call 16 [.str l, .int .i64 (Int.ofNat a)] (q6_1_2 l a) = .ret (.int .i64 (Int.ofNat b)) (q6_1_2 l a) false) → (rc.call 8 [] (q6_1_3 l a b) = .ret ((LW wT)) (q6_1_3 l a b) false) → (rc.call 9 [(LW wT), .fn (.func 17) [] [.ptr 0 0, .ptr 2 0, .ptr 3 0]] (q6_1_3 l a b) = .ret (.tup [.int .i64 (Int.ofNat j), .bool true]) (q6_1_3 l a b) false) → ((idxSl 3 (LW wT) j) = some (.lptr ((.str ws) :: (.int .i64 (Int.ofNat kd)) :: (.int .i64 1) :: rr))) → (rc.call 15 [.str l, .int .i64 (Int.ofNat b)] (q6_1_3 l a b) = .ret (.int .i64 (Int.ofNat r)) (q6_1_3 l a b) false) → ((eqI (Int.ofNat r) (Int.ofNat (len l))) = false) → ((eqI (Int.ofNat r) (Int.ofNat (len l))) = false) → (rc.call 16 [.str l, .int .i64 (Int.ofNat r)] (q6_1_5 l ws kd a b) = .ret (.int .i64 (Int.ofNat e)) (q6_1_5 l ws kd a b) false) → ((inB r e (len l) (len l)) = true) → (rc.call 19 [.str (takeB (e - r) (dropN r l))] (q6_1_5 l ws kd a b) = .ret (.tup [.int .i64 0, .bool false]) (q6_1_5 l ws kd a b) false) → (rc.call 14 [.int .i64 (Int.ofNat r)] (q6_1_5 l ws kd a b) = .ret (.tup [.agg [.int .i64 0, .int .i64 0, .str []], .int .i64 (Int.ofNat r), .int .i64 400]) (q6_1_5 l ws kd a b) false) → doBody EA rc 6 [.str l] false none (mkS 0 []) = .ret (.tup [.agg [.int .i64 0, .int .i64 0, .str []], .int .i64 (Int.ofNat r), .int .i64 400]) (q6_1_6 l ws kd a b) false) := by refine cast ?_ (doQ_ok EA rc 6 [.str l] (mkS 0 []) [(6, .bl false), (1, .cl (.tup [.int .i64 0, .bool false])), (7, .cl (.int .i64 (Int.ofNat a))), (4, .cl (.int .i64 (Int.ofNat b))), (2, .cl ((LW wT))), (3, .cl (.tup [.int .i64 (Int.ofNat j), .bool true])), (9, .il (.lptr ((.str ws) :: (.int .i64 (Int.ofNat kd)) :: (.int .i64 1) :: rr))), (3, .cl (.int .i64 (Int.ofNat r))), (20, .bl false), (6, .bl false), (7, .cl (.int .i64 (Int.ofNat e))), (4, .cut), (0, .cl (.tup [.int .i64 0, .bool false])), (9, .cl (.tup [.agg [.int .i64 0, .int .i64 0, .str []], .int .i64 (Int.ofNat r), .int .i64 400]))]); kernel_rfl
  exact fun h_0 h_1 h_2 h_3 h_4 h_5 h_6 h_7 h_8 h_9 h_10 h_11 h_12 => h_ h_0 h_1 h_2 h_3 h_4 h_5 h_6 h_7 h_8 h_8 h_9 h_10 h_11 h_12
noncomputable def q6_2_1 (l : List Nat) : S := mkS 2 [(0, .cells true 10 [.str l]), (1, .cells true 24 [.int .i64 0, .int .i64 0, .str []])]
noncomputable def q6_2_2 (l : List Nat) (a : Nat) : S := mkS 3 [(0, .cells true 10 [.str l]), (1, .cells true 24 [.int .i64 0, .int .i64 0, .str []]), (2, .cells true 4 [.int .i64 (Int.ofNat a)])]
noncomputable def q6_2_3 (l : List Nat) (a : Nat) (b : Nat) : S := mkS 4 [(0, .cells true 10 [.str l]), (1, .cells true 24 [.int .i64 0, .int .i64 0, .str []]), (2, .cells true 4 [.int .i64 (Int.ofNat a)]), (3, .cells true 4 [.int .i64 (Int.ofNat b)])]
noncomputable def q6_2_4 (l : List Nat) (ws : List Nat) (kd : Nat) (a : Nat) (b : Nat) : S := mkS 5 [(0, .cells true 10 [.str l]), (1, .cells true 24 [.int .i64 (Int.ofNat kd), .int .i64 1, .str []]), (2, .cells true 4 [.int .i64 (Int.ofNat a)]), (3, .cells true 4 [.int .i64 (Int.ofNat b)]), (4, .cells true 38 [.str ws, .int .i64 (Int.ofNat kd), .int .i64 2])]
noncomputable def q6_2_5 (l : List Nat) (ws : List Nat) (kd : Nat) (a : Nat) (b : Nat) : S := mkS 5 [(0, .cells true 10 [.str l]), (1, .cells true 24 [.int .i64 (Int.ofNat kd), .int .i64 0, .str []]), (2, .cells true 4 [.int .i64 (Int.ofNat a)]), (3, .cells true 4 [.int .i64 (Int.ofNat b)]), (4, .cells true 38 [.str ws, .int .i64 (Int.ofNat kd), .int .i64 2])]
noncomputable def q6_2_6 (l : List Nat) (ws : List Nat) (kd : Nat) (a : Nat) (b : Nat) : S := mkS 5 [(0, .cells true 10 [.str l]), (1, .cells true 24 [.int .i64 0, .int .i64 0, .str []]), (2, .cells true 4 [.int .i64 (Int.ofNat a)]), (3, .cells true 4 [.int .i64 (Int.ofNat b)]), (4, .cells true 38 [.str ws, .int .i64 (Int.ofNat kd), .int .i64 2])]
noncomputable def q6_2_7 (l : List Nat) (ws : List Nat) (d : List Nat) (kd : Nat) (a : Nat) (b : Nat) : S := mkS 5 [(0, .cells true 10 [.str l]), (1, .cells true 24 [.int .i64 (Int.ofNat kd), .int .i64 0, .str d]), (2, .cells true 4 [.int .i64 (Int.ofNat a)]), (3, .cells true 4 [.int .i64 (Int.ofNat b)]), (4, .cells true 38 [.str ws, .int .i64 (Int.ofNat kd), .int .i64 2])]
theorem w6_2_r0 (l ws d : List Nat) (kd j a b r e g v : Nat) (rr : List V) (rc : Rec) : ((!leI (Int.ofNat (len l)) 500) = false) → (rc.call 13 [.str l] (q6_2_1 l) = .ret (.tup [.int .i64 0, .bool false]) (q6_2_1 l) false) → (rc.call 15 [.str l, .int .i64 0] (q6_2_1 l) = .ret (.int .i64 (Int.ofNat a)) (q6_2_1 l) false) → (rc.call 16 [.str l, .int .i64 (Int.ofNat a)] (q6_2_2 l a) = .ret (.int .i64 (Int.ofNat b)) (q6_2_2 l a) false) → (rc.call 8 [] (q6_2_3 l a b) = .ret ((LW wT)) (q6_2_3 l a b) false) → (rc.call 9 [(LW wT), .fn (.func 17) [] [.ptr 0 0, .ptr 2 0, .ptr 3 0]] (q6_2_3 l a b) = .ret (.tup [.int .i64 (Int.ofNat j), .bool true]) (q6_2_3 l a b) false) → ((idxSl 3 (LW wT) j) = some (.lptr ((.str ws) :: (.int .i64 (Int.ofNat kd)) :: (.int .i64 2) :: rr))) → (rc.call 15 [.str l, .int .i64 (Int.ofNat b)] (q6_2_3 l a b) = .ret (.int .i64 (Int.ofNat r)) (q6_2_3 l a b) false) → ((eqI (Int.ofNat r) (Int.ofNat (len l))) = true) → ((eqI (Int.ofNat kd) 5) = true) → doBody EA rc 6 [.str l] false none (mkS 0 []) = .ret (.tup [.agg [.int .i64 (Int.ofNat kd), .int .i64 1, .str []], .int .i64 0, .int .i64 0]) (q6_2_4 l ws kd a b) false := by
  refine cast ?_ (doQ_ok EA rc 6 [.str l] (mkS 0 []) [(6, .bl false), (1, .cl (.tup [.int .i64 0, .bool false])), (7, .cl (.int .i64 (Int.ofNat a))), (4, .cl (.int .i64 (Int.ofNat b))), (2, .cl ((LW wT))), (3, .cl (.tup [.int .i64 (Int.ofNat j), .bool true])), (9, .il (.lptr ((.str ws) :: (.int .i64 (Int.ofNat kd)) :: (.int .i64 2) :: rr))), (3, .cl (.int .i64 (Int.ofNat r))), (20, .bl true), (3, .bl true)]); kernel_rfl
theorem w6_2_r1 (l ws d : List Nat) (kd j a b r e g v : Nat) (rr : List V) (rc : Rec) : ((!leI (Int.ofNat (len l)) 500) = false) → (rc.call 13 [.str l] (q6_2_1 l) = .ret (.tup [.int .i64 0, .bool false]) (q6_2_1 l) false) → (rc.call 15 [.str l, .int .i64 0] (q6_2_1 l) = .ret (.int .i64 (Int.ofNat a)) (q6_2_1 l) false) → (rc.call 16 [.str l, .int .i64 (Int.ofNat a)] (q6_2_2 l a) = .ret (.int .i64 (Int.ofNat b)) (q6_2_2 l a) false) → (rc.call 8 [] (q6_2_3 l a b) = .ret ((LW wT)) (q6_2_3 l a b) false) → (rc.call 9 [(LW wT), .fn (.func 17) [] [.ptr 0 0, .ptr 2 0, .ptr 3 0]] (q6_2_3 l a b) = .ret (.tup [.int .i64 (Int.ofNat j), .bool true]) (q6_2_3 l a b) false) → ((idxSl 3 (LW wT) j) = some (.lptr ((.str ws) :: (.int .i64 (Int.ofNat kd)) :: (.int .i64 2) :: rr))) → (rc.call 15 [.str l, .int .i64 (Int.ofNat b)] (q6_2_3 l a b) = .ret (.int .i64 (Int.ofNat r)) (q6_2_3 l a b) false) → ((eqI (Int.ofNat r) (Int.ofNat (len l))) = true) → ((eqI (Int.ofNat kd) 5) = false) → ((eqI (Int.ofNat kd) 6) = true) → doBody EA rc 6 [.str l] false none (mkS 0 []) = .ret (.tup [.agg [.int .i64 (Int.ofNat kd), .int .i64 1, .str []], .int .i64 0, .int .i64 0]) (q6_2_4 l ws kd a b) false := by
  refine cast ?_ (doQ_ok EA rc 6 [.str l] (mkS 0 []) [(6, .bl false), (1, .cl (.tup [.int .i64 0, .bool false])), (7, .cl (.int .i64 (Int.ofNat a))), (4, .cl (.int .i64 (Int.ofNat b))), (2, .cl ((LW wT))), (3, .cl (.tup [.int .i64 (Int.ofNat j), .bool true])), (9, .il (.lptr ((.str ws) :: (.int .i64 (Int.ofNat kd)) :: (.int .i64 2) :: rr))), (3, .cl (.int .i64 (Int.ofNat r))), (20, .bl true), (3, .bl false), (3, .bl true)]); kernel_rfl
theorem w6_2_r2 (l ws d : List Nat) (kd j a b r e g v : Nat) (rr : List V) (rc : Rec) : ((!leI (Int.ofNat (len l)) 500) = false) → (rc.call 13 [.str l] (q6_2_1 l) = .ret (.tup [.int .i64 0, .bool false]) (q6_2_1 l) false) → (rc.call 15 [.str l, .int .i64 0] (q6_2_1 l) = .ret (.int .i64 (Int.ofNat a)) (q6_2_1 l) false) → (rc.call 16 [.str l, .int .i64 (Int.ofNat a)] (q6_2_2 l a) = .ret (.int .i64 (Int.ofNat b)) (q6_2_2 l a) false) → (rc.call 8 [] (q6_2_3 l a b) = .ret ((LW wT)) (q6_2_3 l a b) false) → (rc.call 9 [(LW wT), .fn (.func 17) [] [.ptr 0 0, .ptr 2 0, .ptr 3 0]] (q6_2_3 l a b) = .ret (.tup [.int .i64 (Int.ofNat j), .bool true]) (q6_2_3 l a b) false) → ((idxSl 3 (LW wT) j) = some (.lptr ((.str ws) :: (.int .i64 (Int.ofNat kd)) :: (.int .i64 2) :: rr))) → (rc.call 15 [.str l, .int .i64 (Int.ofNat b)] (q6_2_3 l a b) = .ret (.int .i64 (Int.ofNat r)) (q6_2_3 l a b) false) → ((eqI (Int.ofNat r) (Int.ofNat (len l))) = true) → ((eqI (Int.ofNat kd) 5) = false) → ((eqI (Int.ofNat kd) 6) = false) → (rc.call 14 [.int .i64 (Int.ofNat r)] (q6_2_5 l ws kd a b) = .ret (.tup [.agg [.int .i64 0, .int .i64 0, .str []], .int .i64 (Int.ofNat r), .int .i64 400]) (q6_2_5 l ws kd a b) false) → doBody EA rc 6 [.str l] false none (mkS 0 []) = .ret (.tup [.agg [.int .i64 0, .int .i64 0, .str []], .int .i64 (Int.ofNat r), .int .i64 400]) (q6_2_6 l ws kd a b) false := by
  have h_ : (((!leI (Int.ofNat (len l)) 500) = false) → (rc.call 13 [.str l] (q6_2_1 l) = .ret (.tup [.int .i64 0, .bool false]) (q6_2_1 l) false) → (rc.call 15 [.str l, .int .i64 0] (q6_2_1 l) = .ret (.int .i64 (Int.ofNat a)) (q6_2_1 l) false) → (rc.call 16 [.str l, .int .i64 (Int.ofNat a)] (q6_2_2 l a) = .ret (.int .i64 (Int.ofNat b)) (q6_2_2 l a) false) → (rc.call 8 [] (q6_2_3 l a b) = .ret ((LW wT)) (q6_2_3 l a b) false) → (rc.call 9 [(LW wT), .fn (.func 17) [] [.ptr 0 0, .ptr 2 0, .ptr 3 0]] (q6_2_3 l a b) = .ret (.tup [.int .i64 (Int.ofNat j), .bool true]) (q6_2_3 l a b) false) → ((idxSl 3 (LW wT) j) = some (.lptr ((.str ws) :: (.int .i64 (Int.ofNat kd)) :: (.int .i64 2) :: rr))) → (rc.call 15 [.str l, .int .i64 (Int.ofNat b)] (q6_2_3 l a b) = .ret (.int .i64 (Int.ofNat r)) (q6_2_3 l a b) false) → ((eqI (Int.ofNat r) (Int.ofNat (len l))) = true) → ((eqI (Int.ofNat kd) 5) = false) → ((eqI (Int.ofNat kd) 6) = false) → ((eqI (Int.ofNat r) (Int.ofNat (len l))) = true) → (rc.call 14 [.int .i64 (Int.ofNat r)] (q6_2_5 l ws kd a b) = .ret (.tup [.agg [.int .i64 0, .int .i64 0, .str []], .int .i64 (Int.ofNat r), .int .i64 400]) (q6_2_5 l ws kd a b) false) → doBody EA rc 6 [.str l] false none (mkS 0 []) = .ret (.tup [.agg [.int .i64 0, .int .i64 0, .str []], .int .i64 (Int.ofNat r), .int .i64 400]) (q6_2_6 l ws kd a b) false) := by refine cast ?_ (doQ_ok EA rc 6 [.str l] (mkS 0 []) [(6, .bl false), (1, .cl (.tup [.int .i64 0, .bool false])), (7, .cl (.int .i64 (Int.ofNat a))), (4, .cl (.int .i64 (Int.ofNat b))), (2, .cl ((LW wT))), (3, .cl (.tup [.int .i64 (Int.ofNat j), .bool true])), (9, .il (.lptr ((.str ws) :: (.int .i64 (Int.ofNat kd)) :: (.int .i64 2) :: rr))), (3, .cl (.int .i64 (Int.ofNat r))), (20, .bl true), (3, .bl false), (3, .bl false), (6, .bl true), (2, .cl (.tup [.agg [.int .i64 0, .int .i64 0, .str []], .int .i64 (Int.ofNat r), .int .i64 400]))]); kernel_rfl
  exact fun h_0 h_1 h_2 h_3 h_4 h_5 h_6 h_7 h_8 h_9 h_10 h_11 => h_ h_0 h_1 h_2 h_3 h_4 h_5 h_6 h_7 h_8 h_9 h_10 h_8 h_11
theorem w6_2_r3 (l ws d : List Nat) (kd j a b r e g v : Nat) (rr : List V) (rc : Rec) : ((!leI (Int.ofNat (len l)) 500) = false) → (rc.call 13 [.str l] (q6_2_1 l) = .ret (.tup [.int .i64 0, .bool false]) (q6_2_1 l) false) → (rc.call 15 [.str l, .int .i64 0] (q6_2_1 l) = .ret (.int .i64 (Int.ofNat a)) (q6_2_1 l) false) → (rc.call 16 [.str l, .int .i64 (Int.ofNat a)] (q6_2_2 l a) = .ret (.int .i64 (Int.ofNat b)) (q6_2_2 l a) false) → (rc.call 8 [] (q6_2_3 l a b) = .ret ((LW wT)) (q6_2_3 l a b) false) → (rc.call 9 [(LW wT), .fn (.func 17) [] [.ptr 0 0, .ptr 2 0, .ptr 3 0]] (q6_2_3 l a b) = .ret (.tup [.int .i64 (Int.ofNat j), .bool true]) (q6_2_3 l a b) false) → ((idxSl 3 (LW wT) j) = some (.lptr ((.str ws) :: (.int .i64 (Int.ofNat kd)) :: (.int .i64 2) :: rr))) → (rc.call 15 [.str l, .int .i64 (Int.ofNat b)] (q6_2_3 l a b) = .ret (.int .i64 (Int.ofNat r)) (q6_2_3 l a b) false) → ((eqI (Int.ofNat r) (Int.ofNat (len l))) = false) → ((inB r (len l) (len l) (len l)) = true) → (rc.call 18 [.str (takeB ((len l) - r) (dropN r l)), .str [32]] (q6_2_5 l ws kd a b) = .ret (.str d) (q6_2_5 l ws kd a b) false) → ((!leI (Int.ofNat (len d)) 490) = true) → doBody EA rc 6 [.str l] false none (mkS 0 []) = .ret (.tup [.agg [.int .i64 0, .int .i64 0, .str []], .int .i64 (Int.ofNat r), .int .i64 2]) (q6_2_6 l ws kd a b) false := by
  have h_ : (((!leI (Int.ofNat (len l)) 500) = false) → (rc.call 13 [.str l] (q6_2_1 l) = .ret (.tup [.int .i64 0, .bool false]) (q6_2_1 l) false) → (rc.call 15 [.str l, .int .i64 0] (q6_2_1 l) = .ret (.int .i64 (Int.ofNat a)) (q6_2_1 l) false) → (rc.call 16 [.str l, .int .i64 (Int.ofNat a)] (q6_2_2 l a) = .ret (.int .i64 (Int.ofNat b)) (q6_2_2 l a) false) → (rc.call 8 [] (q6_2_3 l a b) = .ret ((LW wT)) (q6_2_3 l a b) false) → (rc.call 9 [(LW wT), .fn (.func 17) [] [.ptr 0 0, .ptr 2 0, .ptr 3 0]] (q6_2_3 l a b) = .ret (.tup [.int .i64 (Int.ofNat j), .bool true]) (q6_2_3 l a b) false) → ((idxSl 3 (LW wT) j) = some (.lptr ((.str ws) :: (.int .i64 (Int.ofNat kd)) :: (.int .i64 2) :: rr))) → (rc.call 15 [.str l, .int .i64 (Int.ofNat b)] (q6_2_3 l a b) = .ret (.int .i64 (Int.ofNat r)) (q6_2_3 l a b) false) → ((eqI (Int.ofNat r) (Int.ofNat (len l))) = false) → ((eqI (Int.ofNat r) (Int.ofNat (len l))) = false) → ((inB r (len l) (len l) (len l)) = true) → (rc.call 18 [.str (takeB ((len l) - r) (dropN r l)), .str [32]] (q6_2_5 l ws kd a b) = .ret (.str d) (q6_2_5 l ws kd a b) false) → ((!leI (Int.ofNat (len d)) 490) = true) → doBody EA rc 6 [.str l] false none (mkS 0 []) = .ret (.tup [.agg [.int .i64 0, .int .i64 0, .str []], .int .i64 (Int.ofNat r), .int .i64 2]) (q6_2_6 l ws kd a b) false) := by refine cast ?_ (doQ_ok EA rc 6 [.str l] (mkS 0 []) [(6, .bl false), (1, .cl (.tup [.int .i64 0, .bool false])), (7, .cl (.int .i64 (Int.ofNat a))), (4, .cl (.int .i64 (Int.ofNat b))), (2, .cl ((LW wT))), (3, .cl (.tup [.int .i64 (Int.ofNat j), .bool true])), (9, .il (.lptr ((.str ws) :: (.int .i64 (Int.ofNat kd)) :: (.int .i64 2) :: rr))), (3, .cl (.int .i64 (Int.ofNat r))), (20, .bl false), (6, .bl false), (7, .cut), (0, .cl (.str d)), (5, .bl true)]); kernel_rfl
  exact fun h_0 h_1 h_2 h_3 h_4 h_5 h_6 h_7 h_8 h_9 h_10 h_11 => h_ h_0 h_1 h_2 h_3 h_4 h_5 h_6 h_7 h_8 h_8 h_9 h_10 h_11
theorem w6_2_r4 (l ws d : List Nat) (kd j a b r e g v : Nat) (rr : List V) (rc : Rec) : ((!leI (Int.ofNat (len l)) 500) = false) → (rc.call 13 [.str l] (q6_2_1 l) = .ret (.tup [.int .i64 0, .bool false]) (q6_2_1 l) false) → (rc.call 15 [.str l, .int .i64 0] (q6_2_1 l) = .ret (.int .i64 (Int.ofNat a)) (q6_2_1 l) false) → (rc.call 16 [.str l, .int .i64 (Int.ofNat a)] (q6_2_2 l a) = .ret (.int .i64 (Int.ofNat b)) (q6_2_2 l a) false) → (rc.call 8 [] (q6_2_3 l a b) = .ret ((LW wT)) (q6_2_3 l a b) false) → (rc.call 9 [(LW wT), .fn (.func 17) [] [.ptr 0 0, .ptr 2 0, .ptr 3 0]] (q6_2_3 l a b) = .ret (.tup [.int .i64 (Int.ofNat j), .bool true]) (q6_2_3 l a b) false) → ((idxSl 3 (LW wT) j) = some (.lptr ((.str ws) :: (.int .i64 (Int.ofNat kd)) :: (.int .i64 2) :: rr))) → (rc.call 15 [.str l, .int .i64 (Int.ofNat b)] (q6_2_3 l a b) = .ret (.int .i64 (Int.ofNat r)) (q6_2_3 l a b) false) → ((eqI (Int.ofNat r) (Int.ofNat (len l))) = false) → ((inB r (len l) (len l) (len l)) = true) → (rc.call 18 [.str (takeB ((len l) - r) (dropN r l)), .str [32]] (q6_2_5 l ws kd a b) = .ret (.str d) (q6_2_5 l ws kd a b) false) → ((!leI (Int.ofNat (len d)) 490) = false) → doBody EA rc 6 [.str l] false none (mkS 0 []) = .ret (.tup [.agg [.int .i64 (Int.ofNat kd), .int .i64 0, .str d], .int .i64 0, .int .i64 0]) (q6_2_7 l ws d kd a b) false := by
  have h_ : (((!leI (Int.ofNat (len l)) 500) = false) → (rc.call 13 [.str l] (q6_2_1 l) = .ret (.tup [.int .i64 0, .bool false]) (q6_2_1 l) false) → (rc.call 15 [.str l, .int .i64 0] (q6_2_1 l) = .ret (.int .i64 (Int.ofNat a)) (q6_2_1 l) false) → (rc.call 16 [.str l, .int .i64 (Int.ofNat a)] (q6_2_2 l a) = .ret (.int .i64 (Int.ofNat b)) (q6_2_2 l a) false) → (rc.call 8 [] (q6_2_3 l a b) = .ret ((LW wT)) (q6_2_3 l a b) false) → (rc.call 9 [(LW wT), .fn (.func 17) [] [.ptr 0 0, .ptr 2 0, .ptr 3 0]] (q6_2_3 l a b) = .ret (.tup [.int .i64 (Int.ofNat j), .bool true]) (q6_2_3 l a b) false) → ((idxSl 3 (LW wT) j) = some (.lptr ((.str ws) :: (.int .i64 (Int.ofNat kd)) :: (.int .i64 2) :: rr))) → (rc.call 15 [.str l, .int .i64 (Int.ofNat b)] (q6_2_3 l a b) = .ret (.int .i64 (Int.ofNat r)) (q6_2_3 l a b) false) → ((eqI (Int.ofNat r) (Int.ofNat (len l))) = false) → ((eqI (Int.ofNat r) (Int.ofNat (len l))) = false) → ((inB r (len l) (len l) (len l)) = true) → (rc.call 18 [.str (takeB ((len l) - r) (dropN r l)), .str [32]] (q6_2_5 l ws kd a b) = .ret (.str d) (q6_2_5 l ws kd a b) false) → ((!leI (Int.ofNat (len d)) 490) = false) → doBody EA rc 6 [.str l] false none (mkS 0 []) = .ret (.tup [.agg [.int .i64 (Int.ofNat kd), .int .i64 0, .str d], .int .i64 0, .int .i64 0]) (q6_2_7 l ws d kd a b) false) := by refine cast ?_ (doQ_ok EA rc 6 [.str l] (mkS 0 []) [(6, .bl false), (1, .cl (.tup [.int .i64 0, .bool false])), (7, .cl (.int .i64 (Int.ofNat a))), (4, .cl (.int .i64 (Int.ofNat b))), (2, .cl ((LW wT))), (3, .cl (.tup [.int .i64 (Int.ofNat j), .bool true])), (9, .il (.lptr ((.str ws) :: (.int .i64 (Int.ofNat kd)) :: (.int .i64 2) :: rr))), (3, .cl (.int .i64 (Int.ofNat r))), (20, .bl false), (6, .bl false), (7, .cut), (0, .cl (.str d)), (5, .bl false)]); kernel_rfl
  exact fun h_0 h_1 h_2 h_3 h_4 h_5 h_6 h_7 h_8 h_9 h_10 h_11 => h_ h_0 h_1 h_2 h_3 h_4 h_5 h_6 h_7 h_8 h_8 h_9 h_10 h_11
end
end Go.AM.S40.Sy
end
section
/- Show. -/
set_option maxRecDepth 100000
namespace Go.AM.S40.Sy
open Go Go.Proofs
noncomputable section
noncomputable def q5_0_1 (K : Int) (nn : Int) (l : List Nat) : S := mkS 1 [(0, .cells true 24 [.int .i64 K, .int .i64 nn, .str l])]
noncomputable def q5_0_2 (K : Int) (nn : Int) (l : List Nat) (ws : List Nat) (kd : Nat) : S := mkS 2 [(0, .cells true 24 [.int .i64 K, .int .i64 nn, .str l]), (1, .cells true 38 [.str ws, .int .i64 (Int.ofNat kd), .int .i64 0])]
theorem w5_0_r0 (K nn : Int) (l ws d : List Nat) (kd j : Nat) (rr : List V) (rc : Rec) : (rc.call 8 [] (q5_0_1 K nn l) = .ret ((LW wT)) (q5_0_1 K nn l) false) → (rc.call 9 [(LW wT), .fn (.func 10) [] [.ptr 0 0]] (q5_0_1 K nn l) = .ret (.tup [.int .i64 (Int.ofNat j), .bool true]) (q5_0_1 K nn l) false) → ((idxSl 3 (LW wT) j) = some (.lptr ((.str ws) :: (.int .i64 (Int.ofNat kd)) :: (.int .i64 0) :: rr))) → ((!eqI nn 0) = true) → doBody EA rc 5 [.agg [.int .i64 K, .int .i64 nn, .str l]] false none (mkS 0 []) = .ret (.tup [.str [], .int .i64 1]) (q5_0_2 K nn l ws kd) false := by
  refine cast ?_ (doQ_ok EA rc 5 [.agg [.int .i64 K, .int .i64 nn, .str l]] (mkS 0 []) [(3, .cl ((LW wT))), (3, .cl (.tup [.int .i64 (Int.ofNat j), .bool true])), (9, .il (.lptr ((.str ws) :: (.int .i64 (Int.ofNat kd)) :: (.int .i64 0) :: rr))), (9, .bl true)]); kernel_rfl
theorem w5_0_r1 (K nn : Int) (l ws d : List Nat) (kd j : Nat) (rr : List V) (rc : Rec) : (rc.call 8 [] (q5_0_1 K nn l) = .ret ((LW wT)) (q5_0_1 K nn l) false) → (rc.call 9 [(LW wT), .fn (.func 10) [] [.ptr 0 0]] (q5_0_1 K nn l) = .ret (.tup [.int .i64 (Int.ofNat j), .bool true]) (q5_0_1 K nn l) false) → ((idxSl 3 (LW wT) j) = some (.lptr ((.str ws) :: (.int .i64 (Int.ofNat kd)) :: (.int .i64 0) :: rr))) → ((!eqI nn 0) = false) → ((!leI 0 nn) = true) → doBody EA rc 5 [.agg [.int .i64 K, .int .i64 nn, .str l]] false none (mkS 0 []) = .ret (.tup [.str [], .int .i64 1]) (q5_0_2 K nn l ws kd) false := by
  refine cast ?_ (doQ_ok EA rc 5 [.agg [.int .i64 K, .int .i64 nn, .str l]] (mkS 0 []) [(3, .cl ((LW wT))), (3, .cl (.tup [.int .i64 (Int.ofNat j), .bool true])), (9, .il (.lptr ((.str ws) :: (.int .i64 (Int.ofNat kd)) :: (.int .i64 0) :: rr))), (9, .bl false), (4, .bl true)]); kernel_rfl
theorem w5_0_r2 (K nn : Int) (l ws d : List Nat) (kd j : Nat) (rr : List V) (rc : Rec) : (rc.call 8 [] (q5_0_1 K nn l) = .ret ((LW wT)) (q5_0_1 K nn l) false) → (rc.call 9 [(LW wT), .fn (.func 10) [] [.ptr 0 0]] (q5_0_1 K nn l) = .ret (.tup [.int .i64 (Int.ofNat j), .bool true]) (q5_0_1 K nn l) false) → ((idxSl 3 (LW wT) j) = some (.lptr ((.str ws) :: (.int .i64 (Int.ofNat kd)) :: (.int .i64 0) :: rr))) → ((!eqI nn 0) = false) → ((!leI 0 nn) = false) → ((!leI nn 999999999) = true) → doBody EA rc 5 [.agg [.int .i64 K, .int .i64 nn, .str l]] false none (mkS 0 []) = .ret (.tup [.str [], .int .i64 1]) (q5_0_2 K nn l ws kd) false := by
  refine cast ?_ (doQ_ok EA rc 5 [.agg [.int .i64 K, .int .i64 nn, .str l]] (mkS 0 []) [(3, .cl ((LW wT))), (3, .cl (.tup [.int .i64 (Int.ofNat j), .bool true])), (9, .il (.lptr ((.str ws) :: (.int .i64 (Int.ofNat kd)) :: (.int .i64 0) :: rr))), (9, .bl false), (4, .bl false), (4, .bl true)]); kernel_rfl
theorem w5_0_r3 (K nn : Int) (l ws d : List Nat) (kd j : Nat) (rr : List V) (rc : Rec) : (rc.call 8 [] (q5_0_1 K nn l) = .ret ((LW wT)) (q5_0_1 K nn l) false) → (rc.call 9 [(LW wT), .fn (.func 10) [] [.ptr 0 0]] (q5_0_1 K nn l) = .ret (.tup [.int .i64 (Int.ofNat j), .bool true]) (q5_0_1 K nn l) false) → ((idxSl 3 (LW wT) j) = some (.lptr ((.str ws) :: (.int .i64 (Int.ofNat kd)) :: (.int .i64 0) :: rr))) → ((!eqI nn 0) = false) → ((!leI 0 nn) = false) → ((!leI nn 999999999) = false) → ((!same l []) = true) → doBody EA rc 5 [.agg [.int .i64 K, .int .i64 nn, .str l]] false none (mkS 0 []) = .ret (.tup [.str [], .int .i64 1]) (q5_0_2 K nn l ws kd) false := by
  refine cast ?_ (doQ_ok EA rc 5 [.agg [.int .i64 K, .int .i64 nn, .str l]] (mkS 0 []) [(3, .cl ((LW wT))), (3, .cl (.tup [.int .i64 (Int.ofNat j), .bool true])), (9, .il (.lptr ((.str ws) :: (.int .i64 (Int.ofNat kd)) :: (.int .i64 0) :: rr))), (9, .bl false), (4, .bl false), (4, .bl false), (8, .bl true)]); kernel_rfl
theorem w5_0_r4 (K nn : Int) (l ws d : List Nat) (kd j : Nat) (rr : List V) (rc : Rec) : (rc.call 8 [] (q5_0_1 K nn l) = .ret ((LW wT)) (q5_0_1 K nn l) false) → (rc.call 9 [(LW wT), .fn (.func 10) [] [.ptr 0 0]] (q5_0_1 K nn l) = .ret (.tup [.int .i64 (Int.ofNat j), .bool true]) (q5_0_1 K nn l) false) → ((idxSl 3 (LW wT) j) = some (.lptr ((.str ws) :: (.int .i64 (Int.ofNat kd)) :: (.int .i64 0) :: rr))) → ((!eqI nn 0) = false) → ((!leI 0 nn) = false) → ((!leI nn 999999999) = false) → ((!same l []) = false) → doBody EA rc 5 [.agg [.int .i64 K, .int .i64 nn, .str l]] false none (mkS 0 []) = .ret (.tup [.str ws, .int .i64 0]) (q5_0_2 K nn l ws kd) false := by
  refine cast ?_ (doQ_ok EA rc 5 [.agg [.int .i64 K, .int .i64 nn, .str l]] (mkS 0 []) [(3, .cl ((LW wT))), (3, .cl (.tup [.int .i64 (Int.ofNat j), .bool true])), (9, .il (.lptr ((.str ws) :: (.int .i64 (Int.ofNat kd)) :: (.int .i64 0) :: rr))), (9, .bl false), (4, .bl false), (4, .bl false), (8, .bl false)]); kernel_rfl
theorem w5_0_r5 (K nn : Int) (l ws d : List Nat) (kd j : Nat) (rr : List V) (rc : Rec) : (rc.call 8 [] (q5_0_1 K nn l) = .ret ((LW wT)) (q5_0_1 K nn l) false) → (rc.call 9 [(LW wT), .fn (.func 10) [] [.ptr 0 0]] (q5_0_1 K nn l) = .ret (.tup [.int .i64 0, .bool false]) (q5_0_1 K nn l) false) → doBody EA rc 5 [.agg [.int .i64 K, .int .i64 nn, .str l]] false none (mkS 0 []) = .ret (.tup [.str [], .int .i64 1]) (q5_0_1 K nn l) false := by
  refine cast ?_ (doQ_ok EA rc 5 [.agg [.int .i64 K, .int .i64 nn, .str l]] (mkS 0 []) [(3, .cl ((LW wT))), (3, .cl (.tup [.int .i64 0, .bool false]))]); kernel_rfl
noncomputable def q5_1_1 (K : Int) (nn : Int) (l : List Nat) : S := mkS 1 [(0, .cells true 24 [.int .i64 K, .int .i64 nn, .str l])]
noncomputable def q5_1_2 (K : Int) (nn : Int) (l : List Nat) (ws : List Nat) (kd : Nat) : S := mkS 2 [(0, .cells true 24 [.int .i64 K, .int .i64 nn, .str l]), (1, .cells true 38 [.str ws, .int .i64 (Int.ofNat kd), .int .i64 1])]
theorem w5_1_r0 (K nn : Int) (l ws d : List Nat) (kd j : Nat) (rr : List V) (rc : Rec) : (rc.call 8 [] (q5_1_1 K nn l) = .ret ((LW wT)) (q5_1_1 K nn l) false) → (rc.call 9 [(LW wT), .fn (.func 10) [] [.ptr 0 0]] (q5_1_1 K nn l) = .ret (.tup [.int .i64 (Int.ofNat j), .bool true]) (q5_1_1 K nn l) false) → ((idxSl 3 (LW wT) j) = some (.lptr ((.str ws) :: (.int .i64 (Int.ofNat kd)) :: (.int .i64 1) :: rr))) → ((!leI 0 nn) = true) → doBody EA rc 5 [.agg [.int .i64 K, .int .i64 nn, .str l]] false none (mkS 0 []) = .ret (.tup [.str [], .int .i64 1]) (q5_1_2 K nn l ws kd) false := by
  refine cast ?_ (doQ_ok EA rc 5 [.agg [.int .i64 K, .int .i64 nn, .str l]] (mkS 0 []) [(3, .cl ((LW wT))), (3, .cl (.tup [.int .i64 (Int.ofNat j), .bool true])), (9, .il (.lptr ((.str ws) :: (.int .i64 (Int.ofNat kd)) :: (.int .i64 1) :: rr))), (11, .bl true)]); kernel_rfl
theorem w5_1_r1 (K nn : Int) (l ws d : List Nat) (kd j : Nat) (rr : List V) (rc : Rec) : (rc.call 8 [] (q5_1_1 K nn l) = .ret ((LW wT)) (q5_1_1 K nn l) false) → (rc.call 9 [(LW wT), .fn (.func 10) [] [.ptr 0 0]] (q5_1_1 K nn l) = .ret (.tup [.int .i64 (Int.ofNat j), .bool true]) (q5_1_1 K nn l) false) → ((idxSl 3 (LW wT) j) = some (.lptr ((.str ws) :: (.int .i64 (Int.ofNat kd)) :: (.int .i64 1) :: rr))) → ((!leI 0 nn) = false) → ((!leI nn 999999999) = true) → doBody EA rc 5 [.agg [.int .i64 K, .int .i64 nn, .str l]] false none (mkS 0 []) = .ret (.tup [.str [], .int .i64 1]) (q5_1_2 K nn l ws kd) false := by
  refine cast ?_ (doQ_ok EA rc 5 [.agg [.int .i64 K, .int .i64 nn, .str l]] (mkS 0 []) [(3, .cl ((LW wT))), (3, .cl (.tup [.int .i64 (Int.ofNat j), .bool true])), (9, .il (.lptr ((.str ws) :: (.int .i64 (Int.ofNat kd)) :: (.int .i64 1) :: rr))), (11, .bl false), (4, .bl true)]); kernel_rfl
theorem w5_1_r2 (K nn : Int) (l ws d : List Nat) (kd j : Nat) (rr : List V) (rc : Rec) : (rc.call 8 [] (q5_1_1 K nn l) = .ret ((LW wT)) (q5_1_1 K nn l) false) → (rc.call 9 [(LW wT), .fn (.func 10) [] [.ptr 0 0]] (q5_1_1 K nn l) = .ret (.tup [.int .i64 (Int.ofNat j), .bool true]) (q5_1_1 K nn l) false) → ((idxSl 3 (LW wT) j) = some (.lptr ((.str ws) :: (.int .i64 (Int.ofNat kd)) :: (.int .i64 1) :: rr))) → ((!leI 0 nn) = false) → ((!leI nn 999999999) = false) → ((!same l []) = true) → doBody EA rc 5 [.agg [.int .i64 K, .int .i64 nn, .str l]] false none (mkS 0 []) = .ret (.tup [.str [], .int .i64 1]) (q5_1_2 K nn l ws kd) false := by
  refine cast ?_ (doQ_ok EA rc 5 [.agg [.int .i64 K, .int .i64 nn, .str l]] (mkS 0 []) [(3, .cl ((LW wT))), (3, .cl (.tup [.int .i64 (Int.ofNat j), .bool true])), (9, .il (.lptr ((.str ws) :: (.int .i64 (Int.ofNat kd)) :: (.int .i64 1) :: rr))), (11, .bl false), (4, .bl false), (8, .bl true)]); kernel_rfl
theorem w5_1_r3 (K nn : Int) (l ws d : List Nat) (kd j : Nat) (rr : List V) (rc : Rec) : (rc.call 8 [] (q5_1_1 K nn l) = .ret ((LW wT)) (q5_1_1 K nn l) false) → (rc.call 9 [(LW wT), .fn (.func 10) [] [.ptr 0 0]] (q5_1_1 K nn l) = .ret (.tup [.int .i64 (Int.ofNat j), .bool true]) (q5_1_1 K nn l) false) → ((idxSl 3 (LW wT) j) = some (.lptr ((.str ws) :: (.int .i64 (Int.ofNat kd)) :: (.int .i64 1) :: rr))) → ((!leI 0 nn) = false) → ((!leI nn 999999999) = false) → ((!same l []) = false) → ((Nat.ble (len ws + len [32]) maxInt) = true) → (rc.call 12 [.int .i64 nn] (q5_1_2 K nn l ws kd) = .ret (.str d) (q5_1_2 K nn l ws kd) false) → ((Nat.ble (len (app ws [32]) + len d) maxInt) = true) → doBody EA rc 5 [.agg [.int .i64 K, .int .i64 nn, .str l]] false none (mkS 0 []) = .ret (.tup [.str (app (app ws [32]) d), .int .i64 0]) (q5_1_2 K nn l ws kd) false := by
  refine cast ?_ (doQ_ok EA rc 5 [.agg [.int .i64 K, .int .i64 nn, .str l]] (mkS 0 []) [(3, .cl ((LW wT))), (3, .cl (.tup [.int .i64 (Int.ofNat j), .bool true])), (9, .il (.lptr ((.str ws) :: (.int .i64 (Int.ofNat kd)) :: (.int .i64 1) :: rr))), (11, .bl false), (4, .bl false), (8, .bl false), (15, .cat), (2, .cl (.str d)), (0, .cat)]); kernel_rfl
noncomputable def q5_2_1 (K : Int) (nn : Int) (l : List Nat) : S := mkS 1 [(0, .cells true 24 [.int .i64 K, .int .i64 nn, .str l])]
noncomputable def q5_2_2 (K : Int) (nn : Int) (l : List Nat) (ws : List Nat) (kd : Nat) : S := mkS 2 [(0, .cells true 24 [.int .i64 K, .int .i64 nn, .str l]), (1, .cells true 38 [.str ws, .int .i64 (Int.ofNat kd), .int .i64 2])]
theorem w5_2_r0 (K nn : Int) (l ws d : List Nat) (kd j : Nat) (rr : List V) (rc : Rec) : (rc.call 8 [] (q5_2_1 K nn l) = .ret ((LW wT)) (q5_2_1 K nn l) false) → (rc.call 9 [(LW wT), .fn (.func 10) [] [.ptr 0 0]] (q5_2_1 K nn l) = .ret (.tup [.int .i64 (Int.ofNat j), .bool true]) (q5_2_1 K nn l) false) → ((idxSl 3 (LW wT) j) = some (.lptr ((.str ws) :: (.int .i64 (Int.ofNat kd)) :: (.int .i64 2) :: rr))) → ((!eqI nn 0) = true) → doBody EA rc 5 [.agg [.int .i64 K, .int .i64 nn, .str l]] false none (mkS 0 []) = .ret (.tup [.str [], .int .i64 1]) (q5_2_2 K nn l ws kd) false := by
  refine cast ?_ (doQ_ok EA rc 5 [.agg [.int .i64 K, .int .i64 nn, .str l]] (mkS 0 []) [(3, .cl ((LW wT))), (3, .cl (.tup [.int .i64 (Int.ofNat j), .bool true])), (9, .il (.lptr ((.str ws) :: (.int .i64 (Int.ofNat kd)) :: (.int .i64 2) :: rr))), (9, .bl true)]); kernel_rfl
theorem w5_2_r1 (K nn : Int) (l ws d : List Nat) (kd j : Nat) (rr : List V) (rc : Rec) : (rc.call 8 [] (q5_2_1 K nn l) = .ret ((LW wT)) (q5_2_1 K nn l) false) → (rc.call 9 [(LW wT), .fn (.func 10) [] [.ptr 0 0]] (q5_2_1 K nn l) = .ret (.tup [.int .i64 (Int.ofNat j), .bool true]) (q5_2_1 K nn l) false) → ((idxSl 3 (LW wT) j) = some (.lptr ((.str ws) :: (.int .i64 (Int.ofNat kd)) :: (.int .i64 2) :: rr))) → ((!eqI nn 0) = false) → ((!leI 0 nn) = true) → doBody EA rc 5 [.agg [.int .i64 K, .int .i64 nn, .str l]] false none (mkS 0 []) = .ret (.tup [.str [], .int .i64 1]) (q5_2_2 K nn l ws kd) false := by
  refine cast ?_ (doQ_ok EA rc 5 [.agg [.int .i64 K, .int .i64 nn, .str l]] (mkS 0 []) [(3, .cl ((LW wT))), (3, .cl (.tup [.int .i64 (Int.ofNat j), .bool true])), (9, .il (.lptr ((.str ws) :: (.int .i64 (Int.ofNat kd)) :: (.int .i64 2) :: rr))), (9, .bl false), (4, .bl true)]); kernel_rfl
theorem w5_2_r2 (K nn : Int) (l ws d : List Nat) (kd j : Nat) (rr : List V) (rc : Rec) : (rc.call 8 [] (q5_2_1 K nn l) = .ret ((LW wT)) (q5_2_1 K nn l) false) → (rc.call 9 [(LW wT), .fn (.func 10) [] [.ptr 0 0]] (q5_2_1 K nn l) = .ret (.tup [.int .i64 (Int.ofNat j), .bool true]) (q5_2_1 K nn l) false) → ((idxSl 3 (LW wT) j) = some (.lptr ((.str ws) :: (.int .i64 (Int.ofNat kd)) :: (.int .i64 2) :: rr))) → ((!eqI nn 0) = false) → ((!leI 0 nn) = false) → ((!leI nn 999999999) = true) → doBody EA rc 5 [.agg [.int .i64 K, .int .i64 nn, .str l]] false none (mkS 0 []) = .ret (.tup [.str [], .int .i64 1]) (q5_2_2 K nn l ws kd) false := by
  refine cast ?_ (doQ_ok EA rc 5 [.agg [.int .i64 K, .int .i64 nn, .str l]] (mkS 0 []) [(3, .cl ((LW wT))), (3, .cl (.tup [.int .i64 (Int.ofNat j), .bool true])), (9, .il (.lptr ((.str ws) :: (.int .i64 (Int.ofNat kd)) :: (.int .i64 2) :: rr))), (9, .bl false), (4, .bl false), (4, .bl true)]); kernel_rfl
theorem w5_2_r3 (K nn : Int) (l ws d : List Nat) (kd j : Nat) (rr : List V) (rc : Rec) : (rc.call 8 [] (q5_2_1 K nn l) = .ret ((LW wT)) (q5_2_1 K nn l) false) → (rc.call 9 [(LW wT), .fn (.func 10) [] [.ptr 0 0]] (q5_2_1 K nn l) = .ret (.tup [.int .i64 (Int.ofNat j), .bool true]) (q5_2_1 K nn l) false) → ((idxSl 3 (LW wT) j) = some (.lptr ((.str ws) :: (.int .i64 (Int.ofNat kd)) :: (.int .i64 2) :: rr))) → ((!eqI nn 0) = false) → ((!leI 0 nn) = false) → ((!leI nn 999999999) = false) → (rc.call 11 [.str l] (q5_2_2 K nn l ws kd) = .ret (.bool true) (q5_2_2 K nn l ws kd) false) → ((Nat.ble (len ws + len [32]) maxInt) = true) → ((Nat.ble (len (app ws [32]) + len l) maxInt) = true) → doBody EA rc 5 [.agg [.int .i64 K, .int .i64 nn, .str l]] false none (mkS 0 []) = .ret (.tup [.str (app (app ws [32]) l), .int .i64 0]) (q5_2_2 K nn l ws kd) false := by
  refine cast ?_ (doQ_ok EA rc 5 [.agg [.int .i64 K, .int .i64 nn, .str l]] (mkS 0 []) [(3, .cl ((LW wT))), (3, .cl (.tup [.int .i64 (Int.ofNat j), .bool true])), (9, .il (.lptr ((.str ws) :: (.int .i64 (Int.ofNat kd)) :: (.int .i64 2) :: rr))), (9, .bl false), (4, .bl false), (4, .bl false), (15, .cl (.bool true)), (11, .cat), (2, .cat)]); kernel_rfl
theorem w5_2_r4 (K nn : Int) (l ws d : List Nat) (kd j : Nat) (rr : List V) (rc : Rec) : (rc.call 8 [] (q5_2_1 K nn l) = .ret ((LW wT)) (q5_2_1 K nn l) false) → (rc.call 9 [(LW wT), .fn (.func 10) [] [.ptr 0 0]] (q5_2_1 K nn l) = .ret (.tup [.int .i64 (Int.ofNat j), .bool true]) (q5_2_1 K nn l) false) → ((idxSl 3 (LW wT) j) = some (.lptr ((.str ws) :: (.int .i64 (Int.ofNat kd)) :: (.int .i64 2) :: rr))) → ((!eqI nn 0) = false) → ((!leI 0 nn) = false) → ((!leI nn 999999999) = false) → (rc.call 11 [.str l] (q5_2_2 K nn l ws kd) = .ret (.bool false) (q5_2_2 K nn l ws kd) false) → doBody EA rc 5 [.agg [.int .i64 K, .int .i64 nn, .str l]] false none (mkS 0 []) = .ret (.tup [.str [], .int .i64 1]) (q5_2_2 K nn l ws kd) false := by
  refine cast ?_ (doQ_ok EA rc 5 [.agg [.int .i64 K, .int .i64 nn, .str l]] (mkS 0 []) [(3, .cl ((LW wT))), (3, .cl (.tup [.int .i64 (Int.ofNat j), .bool true])), (9, .il (.lptr ((.str ws) :: (.int .i64 (Int.ofNat kd)) :: (.int .i64 2) :: rr))), (9, .bl false), (4, .bl false), (4, .bl false), (15, .cl (.bool false))]); kernel_rfl
end
end Go.AM.S40.Sy
end
section
/- Show, whole. -/
set_option maxRecDepth 100000
namespace Go.AM.S40.Sy
open Go Go.Proofs
noncomputable section
structure Cmd where
  kind : Int
  n : Int
  text : List Nat
noncomputable def cellsC (c : Cmd) : List V := [.int .i64 c.kind, .int .i64 c.n, .str c.text]
theorem fndW_some {p : W → Bool} : ∀ {l : List W} {i j : Nat}, fndW p l i = some j → ∃ w r, l.drop (j - i) = w :: r ∧ p w = true ∧ i ≤ j ∧ w ∈ l := by
  intro l
  induction l with
  | nil => intro i j h; cases h
  | cons x l ih =>
    intro i j h
    unfold fndW at h
    split at h
    · rename_i hx
      injection h with h
      subst h
      exact ⟨x, l, by rw [Nat.sub_self]; rfl, hx, Nat.le_refl _, List.mem_cons_self ..⟩
    · obtain ⟨w, r, h1, h2, h3, h4⟩ := ih h
      refine ⟨w, r, ?_, h2, by omega, List.mem_cons_of_mem _ h4⟩
      rw [show j - i = (j - (i + 1)) + 1 by omega]; exact h1
theorem wT_behind : ∀ w ∈ wT, w.behind = 0 ∨ w.behind = 1 ∨ w.behind = 2 := by
  have h : wT.all (fun w => Nat.beq w.behind 0 || (Nat.beq w.behind 1 || Nat.beq w.behind 2)) = true := by kernel_rfl
  intro w hw
  have := List.all_eq_true.1 h w hw
  rcases Bool.or_eq_true _ _ ▸ this with h | h
  · exact .inl (Nat.eq_of_beq_eq_true h)
  · rcases Bool.or_eq_true _ _ ▸ h with h | h
    · exact .inr (.inl (Nat.eq_of_beq_eq_true h))
    · exact .inr (.inr (Nat.eq_of_beq_eq_true h))
open Classical in
/-- The line of a command. -/
noncomputable def showF (c : Cmd) : Option (List Nat) := match fndW (kindP c.kind) wT 0 with
  | none => none
  | some j => match wT.drop j with
    | [] => none
    | w :: _ => if w.behind = 0 then (if c.n = 0 ∧ c.text = [] then some w.word else none)
      else if w.behind = 1 then (if 0 ≤ c.n ∧ c.n ≤ 999999999 ∧ c.text = [] then some (app (app w.word [32]) (decN c.n.toNat)) else none)
      else (if c.n = 0 ∧ IsText c.text then some (app (app w.word [32]) c.text) else none)
noncomputable def showV (o : Option (List Nat)) : V := match o with | some s => .tup [.str s, .int .i64 0] | none => .tup [.str [], .int .i64 1]
theorem nz_true {n : Int} (h : n ≠ 0) : (!eqI n 0) = true := by rw [eqI_eq, decide_eq_false h]; rfl
theorem nz_false {n : Int} (h : n = 0) : (!eqI n 0) = false := by rw [h]; rfl
theorem gt_true {a b : Int} (h : ¬ a ≤ b) : (!leI a b) = true := by rw [leI_eq, decide_eq_false h]; rfl
theorem gt_false {a b : Int} (h : a ≤ b) : (!leI a b) = false := by rw [leI_eq, decide_eq_true h]; rfl
theorem sm_true {l : List Nat} (h : l ≠ []) : (!same l []) = true := by rw [same_nil, decide_eq_false h]; rfl
theorem sm_false {l : List Nat} (h : l = []) : (!same l []) = false := by rw [h]; rfl
theorem itoa_at (n N : Nat) (s : S) (h : n ≤ 999999999) : (recN EA (N + 1)).call 12 [.int .i64 (Int.ofNat n)] s = .ret (.str (decN n)) s false := by
  show boolC (Nat.ble n 999999999) CR.fail (CR.ret (.str (decN n)) s false) = _
  rw [Nat.ble_eq_true_of_le h]; rfl
theorem max_le {n : Nat} (h : n ≤ 1000000000000000000) : Nat.ble n maxInt = true := Nat.ble_eq_true_of_le (Nat.le_trans h (by decide))
theorem wT_short : ∀ w ∈ wT, w.word.length ≤ 6 := by
  have h : wT.all (fun w => Nat.ble w.word.length 6) = true := by kernel_rfl
  intro w hw
  exact Nat.le_of_ble_eq_true (List.all_eq_true.1 h w hw)
theorem decN_len {n : Nat} (h : n ≤ 999999999) : (decN n).length ≤ 9 := by
  have h1 : (decN n).length = (Lib.decDigits n).length := by
    unfold decN; rw [mapL_eq, List.length_map]
  rw [h1]
  have key : ∀ (k u : Nat), u < 10 ^ (k + 1) → (Lib.decDigits u).length ≤ k + 1 := by
    intro k
    induction k with
    | zero => intro u hu; rw [Lib.decDigits, dif_pos (by simpa using hu)]; simp
    | succ k ih =>
      intro u hu
      by_cases h : u < 10
      · rw [Lib.decDigits, dif_pos h]; simp
      · rw [Lib.decDigits, dif_neg h]
        have := ih (u / 10) (by rw [Nat.pow_succ] at hu; omega)
        simp; omega
  exact key 8 n (by omega)
theorem do5 (c : Cmd) (N : Nat) (hl : c.text.length < 140737488355328) (hN : c.text.length + 40 < N) : ∃ s1, doBody EA (recN EA N) 5 [.agg (cellsC c)] false none s0 = .ret (showV (showF c)) s1 false := by
  obtain ⟨N, rfl⟩ : ∃ n, N = n + 1 := ⟨N - 1, by omega⟩
  obtain ⟨K, nn, l⟩ := c
  have hw := words_at N (mkS 1 [(0, .cells true 24 [.int .i64 K, .int .i64 nn, .str l])])
  have hf := findK_at (M := mkS 1 [(0, .cells true 24 [.int .i64 K, .int .i64 nn, .str l])]) (ow := true) (ty := 24) (K := K) (rest := [.int .i64 nn, .str l]) Nat.zero_lt_one (by rfl) N (by omega)
  show ∃ s1, doBody EA (recN EA (N + 1)) 5 [.agg [.int .i64 K, .int .i64 nn, .str l]] false none (mkS 0 []) = _
  unfold showF
  show ∃ s1, _ = CR.ret (showV (match fndW (kindP K) wT 0 with | none => none | some j => _)) s1 false
  cases hj : fndW (kindP K) wT 0 with
  | none =>
    rw [hj] at hf
    exact ⟨_, w5_0_r5 K nn l [] [] 0 0 [] _ hw hf⟩
  | some j =>
    rw [hj] at hf
    obtain ⟨w, r, hd, _, _, hm⟩ := fndW_some hj
    rw [Nat.sub_zero] at hd
    have hi := idx_W hd
    have hsh := wT_short w hm
    have hb := wT_behind w hm
    obtain ⟨ws, kd, bh⟩ := w
    have hsh : ws.length ≤ 6 := hsh
    have hl : l.length < 140737488355328 := hl
    have hN : l.length + 40 < N + 1 := hN
    simp only [hd]
    rcases hb with hb | hb | hb
    · have hb : bh = 0 := hb
      subst hb
      rw [if_pos rfl]
      by_cases h1 : nn = 0
      · have h2 : (!leI 0 nn) = false := by rw [h1]; rfl
        have h3 : (!leI nn 999999999) = false := by rw [h1]; rfl
        by_cases h4 : l = []
        · rw [if_pos ⟨h1, h4⟩]
          exact ⟨_, w5_0_r4 K nn l ws [] kd j _ _ hw hf hi (nz_false h1) h2 h3 (sm_false h4)⟩
        · rw [if_neg (fun k => h4 k.2)]
          exact ⟨_, w5_0_r3 K nn l ws [] kd j _ _ hw hf hi (nz_false h1) h2 h3 (sm_true h4)⟩
      · rw [if_neg (fun k => h1 k.1)]
        exact ⟨_, w5_0_r0 K nn l ws [] kd j _ _ hw hf hi (nz_true h1)⟩
    · have hb : bh = 1 := hb
      subst hb
      rw [if_neg (by decide), if_pos rfl]
      by_cases h1 : 0 ≤ nn
      · by_cases h2 : nn ≤ 999999999
        · by_cases h4 : l = []
          · rw [if_pos ⟨h1, h2, h4⟩]
            obtain ⟨m, rfl⟩ : ∃ m : Nat, nn = Int.ofNat m := ⟨nn.toNat, (Int.toNat_of_nonneg h1).symm⟩
            have hm9 : m ≤ 999999999 := by have h2 : (m : Int) ≤ 999999999 := h2; omega
            have hlen := decN_len hm9
            exact ⟨_, w5_1_r3 K (Int.ofNat m) l ws (decN m) kd j _ _ hw hf hi (gt_false h1) (gt_false h2) (sm_false h4) (max_le (by rw [len_eq, len_eq]; simp; omega)) (itoa_at m N _ hm9) (max_le (by rw [len_eq, len_eq, app_eq]; simp; omega))⟩
          · rw [if_neg (fun k => h4 k.2.2)]
            exact ⟨_, w5_1_r2 K nn l ws [] kd j _ _ hw hf hi (gt_false h1) (gt_false h2) (sm_true h4)⟩
        · rw [if_neg (fun k => h2 k.2.1)]
          exact ⟨_, w5_1_r1 K nn l ws [] kd j _ _ hw hf hi (gt_false h1) (gt_true h2)⟩
      · rw [if_neg (fun k => h1 k.1)]
        exact ⟨_, w5_1_r0 K nn l ws [] kd j _ _ hw hf hi (gt_true h1)⟩
    · have hb : bh = 2 := hb
      subst hb
      rw [if_neg (by decide), if_neg (by decide)]
      by_cases h1 : nn = 0
      · have h2 : (!leI 0 nn) = false := by rw [h1]; rfl
        have h3 : (!leI nn 999999999) = false := by rw [h1]; rfl
        obtain ⟨b, ht, hb⟩ := text_at l N (mkS 2 [(0, .cells true 24 [.int .i64 K, .int .i64 nn, .str l]), (1, .cells true 38 [.str ws, .int .i64 (Int.ofNat kd), .int .i64 2])]) hl (by omega)
        cases b with
        | true =>
          have h4 := hb.1 rfl
          rw [if_pos ⟨h1, h4⟩]
          exact ⟨_, w5_2_r3 K nn l ws [] kd j _ _ hw hf hi (nz_false h1) h2 h3 ht (max_le (by rw [len_eq, len_eq]; simp; omega)) (max_le (by rw [len_eq, len_eq, app_eq]; simp; omega))⟩
        | false =>
          rw [if_neg (fun k => by have := hb.2 k.2; cases this)]
          exact ⟨_, w5_2_r4 K nn l ws [] kd j _ _ hw hf hi (nz_false h1) h2 h3 ht⟩
      · rw [if_neg (fun k => h1 k.1)]
        exact ⟨_, w5_2_r0 K nn l ws [] kd j _ _ hw hf hi (nz_true h1)⟩
end
end Go.AM.S40.Sy
end
section
/- Read, whole. -/
set_option maxRecDepth 100000
namespace Go.AM.S40.Sy
open Go Go.Proofs
noncomputable section
open Classical in
/-- What stands behind a word, read. -/
noncomputable def readW (w : W) (l : List Nat) (r : Nat) : Option Cmd :=
  if w.behind = 0 then (if r < l.length then none else some ⟨Int.ofNat w.kind, 0, []⟩)
  else if r = l.length then (if w.kind = 5 ∨ w.kind = 6 then some ⟨Int.ofNat w.kind, 1, []⟩ else none)
  else if w.behind = 2 then (if (trimR (takeB (len l - r) (dropN r l))).length ≤ 490 then some ⟨Int.ofNat w.kind, 0, trimR (takeB (len l - r) (dropN r l))⟩ else none)
  else (if IsNum (takeB (endF l r - r) (dropN r l)) ∧ skipF l (endF l r) = l.length then some ⟨Int.ofNat w.kind, Int.ofNat (valF 0 (takeB (endF l r - r) (dropN r l))), []⟩ else none)
/-- The command of a line. -/
noncomputable def readF (l : List Nat) : Option Cmd :=
  if 500 < l.length then none else match fstN oddB l 0 with
    | some _ => none
    | none => match fndW (wordP (takeB (endF l (skipF l 0) - skipF l 0) (dropN (skipF l 0) l))) wT 0 with
      | none => none
      | some j => match wT.drop j with
        | [] => none
        | w :: _ => readW w l (skipF l (endF l (skipF l 0)))
def ReadV (v : V) (o : Option Cmd) : Prop := match o with
  | some c => v = .tup [.agg (cellsC c), .int .i64 0, .int .i64 0]
  | none => ∃ n e : Int, v = .tup [.agg [.int .i64 0, .int .i64 0, .str []], .int .i64 n, .int .i64 e] ∧ e ≠ 0
theorem take_le (l : List Nat) (a b : Nat) : (takeB a (dropN b l)).length ≤ l.length := by
  rw [takeB_eq, dropN_eq, List.length_take, List.length_drop]; omega
theorem do6 (l : List Nat) (N : Nat) (hl : l.length < 140737488355328) (hN : l.length + 40 < N) : ∃ v s1, doBody EA (recN EA N) 6 [.str l] false none s0 = .ret v s1 false ∧ ReadV v (readF l) := by
  obtain ⟨N, rfl⟩ : ∃ n, N = n + 1 := ⟨N - 1, by omega⟩
  show ∃ v s1, doBody EA (recN EA (N + 1)) 6 [.str l] false none (mkS 0 []) = _ ∧ _
  unfold readF
  by_cases c1 : 500 < l.length
  · rw [if_pos c1]
    exact ⟨_, _, w6_0_r0 l [] [] 0 0 0 0 0 0 0 0 [] _ (by rw [len_eq]; exact lt_true c1), 0, 2, rfl, by decide⟩
  rw [if_neg c1]
  have h1 : (!leI (Int.ofNat (len l)) 500) = false := by rw [len_eq]; exact lt_false (Nat.le_of_not_lt c1)
  have h2 : ∀ M, (recN EA (N + 1)).call 13 [.str l] M = .ret (resF (fstN oddB l 0)) M false := fun M => odd_at l N M hl (by omega)
  cases ho : fstN oddB l 0 with
  | some j =>
    rw [ho] at h2
    exact ⟨_, _, w6_0_r4 l [] [] 0 j 0 0 0 0 0 0 [] _ h1 (h2 _) (wrong_at j N _), _, 400, rfl, by decide⟩
  | none =>
  rw [ho] at h2
  have k1 := skip_le (l := l) (i := 0) (Nat.zero_le _)
  have h3 : ∀ M, (recN EA (N + 1)).call 15 [.str l, .int .i64 0] M = .ret (.int .i64 (Int.ofNat (skipF l 0))) M false := fun M => skip_at l 0 N M hl (Nat.zero_le _) (by omega)
  generalize skipF l 0 = a at *
  have k2 := end_le (l := l) (i := a) k1.2
  have h4 : ∀ M, (recN EA (N + 1)).call 16 [.str l, .int .i64 (Int.ofNat a)] M = .ret (.int .i64 (Int.ofNat (endF l a))) M false := fun M => end_at l a N M hl k1.2 (by omega)
  generalize endF l a = b at *
  have h5 := fun M => words_at N M
  have h6 := findW_at (M := mkS 4 [(0, .cells true 10 [.str l]), (1, .cells true 24 [.int .i64 0, .int .i64 0, .str []]), (2, .cells true 4 [.int .i64 (Int.ofNat a)]), (3, .cells true 4 [.int .i64 (Int.ofNat b)])]) (o0 := true) (o2 := true) (o3 := true) (t0 := 10) (t2 := 4) (t3 := 4) (l := l) (a := a) (b := b) (show 3 < 4 by decide) (by rfl) (by rfl) (by rfl) (by rw [len_eq]; exact inB_ok k2.1 k2.2) N (by omega)
  cases hj : fndW (wordP (takeB (b - a) (dropN a l))) wT 0 with
  | none =>
    rw [hj] at h6
    exact ⟨_, _, w6_0_r3 l [] [] 0 0 a b 0 0 0 0 [] _ h1 (h2 _) (h3 _) (h4 _) (h5 _) h6 (wrong_at a N _), _, 400, rfl, by decide⟩
  | some j =>
  rw [hj] at h6
  obtain ⟨w, rr, hd, _, _, hm⟩ := fndW_some hj
  rw [Nat.sub_zero] at hd
  have h7 := idx_W hd
  have hb := wT_behind w hm
  have k3 := skip_le (l := l) (i := b) k2.2
  have h8 : ∀ M, (recN EA (N + 1)).call 15 [.str l, .int .i64 (Int.ofNat b)] M = .ret (.int .i64 (Int.ofNat (skipF l b))) M false := fun M => skip_at l b N M hl k2.2 (by omega)
  generalize skipF l b = r at *
  simp only [hd]
  obtain ⟨ws, kd, bh⟩ := w
  unfold readW
  have hb : bh = 0 ∨ bh = 1 ∨ bh = 2 := hb
  by_cases b0 : bh = 0
  · subst b0
    rw [if_pos rfl]
    by_cases c2 : r < l.length
    · rw [if_pos c2]
      exact ⟨_, _, w6_0_r1 l ws [] kd j a b r 0 0 0 _ _ h1 (h2 _) (h3 _) (h4 _) (h5 _) h6 h7 (h8 _) (by rw [len_eq]; exact lt_true c2) (wrong_at r N _), _, 400, rfl, by decide⟩
    · rw [if_neg c2]
      exact ⟨_, _, w6_0_r2 l ws [] kd j a b r 0 0 0 _ _ h1 (h2 _) (h3 _) (h4 _) (h5 _) h6 h7 (h8 _) (by rw [len_eq]; exact lt_false (Nat.le_of_not_lt c2)), rfl⟩
  · rw [if_neg (show ¬ bh = 0 from b0)]
    by_cases c3 : r = l.length
    · rw [if_pos c3]
      have h9 : eqI (Int.ofNat r) (Int.ofNat (len l)) = true := by rw [len_eq, c3]; exact eq_true'
      by_cases c5 : kd = 5
      · rw [if_pos (Or.inl c5)]
        have h10 : eqI (Int.ofNat kd) 5 = true := by rw [c5]; rfl
        rcases hb with hb | hb | hb
        · exact absurd hb b0
        · subst hb; exact ⟨_, _, w6_1_r0 l ws [] kd j a b r 0 0 0 _ _ h1 (h2 _) (h3 _) (h4 _) (h5 _) h6 h7 (h8 _) h9 h10, rfl⟩
        · subst hb; exact ⟨_, _, w6_2_r0 l ws [] kd j a b r 0 0 0 _ _ h1 (h2 _) (h3 _) (h4 _) (h5 _) h6 h7 (h8 _) h9 h10, rfl⟩
      · have h10 : eqI (Int.ofNat kd) 5 = false := eq_false' (b := 5) c5
        by_cases c6 : kd = 6
        · rw [if_pos (Or.inr c6)]
          have h11 : eqI (Int.ofNat kd) 6 = true := by rw [c6]; rfl
          rcases hb with hb | hb | hb
          · exact absurd hb b0
          · subst hb; exact ⟨_, _, w6_1_r1 l ws [] kd j a b r 0 0 0 _ _ h1 (h2 _) (h3 _) (h4 _) (h5 _) h6 h7 (h8 _) h9 h10 h11, rfl⟩
          · subst hb; exact ⟨_, _, w6_2_r1 l ws [] kd j a b r 0 0 0 _ _ h1 (h2 _) (h3 _) (h4 _) (h5 _) h6 h7 (h8 _) h9 h10 h11, rfl⟩
        · have h11 : eqI (Int.ofNat kd) 6 = false := eq_false' (b := 6) c6
          rw [if_neg (show ¬ (kd = 5 ∨ kd = 6) from fun k => k.elim c5 c6)]
          rcases hb with hb | hb | hb
          · exact absurd hb b0
          · subst hb; exact ⟨_, _, w6_1_r2 l ws [] kd j a b r 0 0 0 _ _ h1 (h2 _) (h3 _) (h4 _) (h5 _) h6 h7 (h8 _) h9 h10 h11 (wrong_at r N _), _, 400, rfl, by decide⟩
          · subst hb; exact ⟨_, _, w6_2_r2 l ws [] kd j a b r 0 0 0 _ _ h1 (h2 _) (h3 _) (h4 _) (h5 _) h6 h7 (h8 _) h9 h10 h11 (wrong_at r N _), _, 400, rfl, by decide⟩
    · rw [if_neg c3]
      have h9 : eqI (Int.ofNat r) (Int.ofNat (len l)) = false := by rw [len_eq]; exact eq_false' c3
      by_cases b2 : bh = 2
      · subst b2
        rw [if_pos rfl]
        have ht := fun M => trim_at (takeB (len l - r) (dropN r l)) N M (Nat.lt_of_le_of_lt (take_le ..) hl) (Nat.lt_of_le_of_lt (Nat.add_le_add_right (take_le ..) 1) (by omega))
        have hin : inB r (len l) (len l) (len l) = true := by rw [len_eq]; exact inB_ok k3.2 (Nat.le_refl _)
        generalize trimR (takeB (len l - r) (dropN r l)) = d at *
        by_cases c4 : d.length ≤ 490
        · rw [if_pos c4]
          exact ⟨_, _, w6_2_r4 l ws d kd j a b r 0 0 0 _ _ h1 (h2 _) (h3 _) (h4 _) (h5 _) h6 h7 (h8 _) h9 hin (ht _) (by rw [len_eq]; exact lt_false c4), rfl⟩
        · rw [if_neg c4]
          exact ⟨_, _, w6_2_r3 l ws d kd j a b r 0 0 0 _ _ h1 (h2 _) (h3 _) (h4 _) (h5 _) h6 h7 (h8 _) h9 hin (ht _) (by rw [len_eq]; exact lt_true (Nat.lt_of_not_le c4)), _, 2, rfl, by decide⟩
      · rw [if_neg (show ¬ bh = 2 from b2)]
        obtain rfl : bh = 1 := by rcases hb with hb | hb | hb <;> first | exact hb | exact absurd hb b0 | exact absurd hb b2
        have k4 := end_le (l := l) (i := r) k3.2
        have h10 : ∀ M, (recN EA (N + 1)).call 16 [.str l, .int .i64 (Int.ofNat r)] M = .ret (.int .i64 (Int.ofNat (endF l r))) M false := fun M => end_at l r N M hl k3.2 (by omega)
        generalize endF l r = e at *
        have h11 : inB r e (len l) (len l) = true := by rw [len_eq]; exact inB_ok k4.1 k4.2
        have hx := take_le l (e - r) r
        by_cases c4 : IsNum (takeB (e - r) (dropN r l))
        · have h12 := fun M => num_yes (takeB (e - r) (dropN r l)) N M (Nat.lt_of_le_of_lt hx hl) (by omega) c4
          have k5 := skip_le (l := l) (i := e) k4.2
          have h13 : ∀ M, (recN EA (N + 1)).call 15 [.str l, .int .i64 (Int.ofNat e)] M = .ret (.int .i64 (Int.ofNat (skipF l e))) M false := fun M => skip_at l e N M hl k4.2 (by omega)
          generalize skipF l e = g at *
          by_cases c7 : g = l.length
          · rw [if_pos ⟨c4, c7⟩]
            exact ⟨_, _, w6_1_r4 l ws [] kd j a b r e g _ _ _ h1 (h2 _) (h3 _) (h4 _) (h5 _) h6 h7 (h8 _) h9 (h10 _) h11 (h12 _) (h13 _) (by rw [len_eq, c7]; exact not_lt_self _), rfl⟩
          · rw [if_neg (fun k => c7 k.2)]
            exact ⟨_, _, w6_1_r3 l ws [] kd j a b r e g _ _ _ h1 (h2 _) (h3 _) (h4 _) (h5 _) h6 h7 (h8 _) h9 (h10 _) h11 (h12 _) (h13 _) (by rw [len_eq]; exact lt_true (Nat.lt_of_le_of_ne k5.2 c7)) (wrong_at g N _), _, 400, rfl, by decide⟩
        · rw [if_neg (fun k => c4 k.1)]
          exact ⟨_, _, w6_1_r5 l ws [] kd j a b r e 0 0 _ _ h1 (h2 _) (h3 _) (h4 _) (h5 _) h6 h7 (h8 _) h9 (h10 _) h11 (num_no _ N _ (Nat.lt_of_le_of_lt hx hl) (by omega) c4) (wrong_at r N _), _, 400, rfl, by decide⟩
end
end Go.AM.S40.Sy
end
section
/- The plain law: what is shown is read as the same, and what is read can be shown. -/
set_option maxRecDepth 100000
namespace Go.AM.S40.Sy
open Go Go.Proofs
noncomputable section
/-! ### the words -/
theorem wT_all {p : W → Bool} (h : wT.all p = true) {w : W} (hw : w ∈ wT) : p w = true := List.all_eq_true.1 h w hw
theorem wT_chk : (List.range 25).all (fun j => match wT.drop j with | [] => true | w :: _ => (fndW (kindP (Int.ofNat w.kind)) wT 0 == some j) && (fndW (wordP w.word) wT 0 == some j)) = true := by kernel_rfl
theorem wT_at {j : Nat} {w : W} {rr : List W} (hd : wT.drop j = w :: rr) : fndW (kindP (Int.ofNat w.kind)) wT 0 = some j ∧ fndW (wordP w.word) wT 0 = some j := by
  have hj : j < 25 := drop_lt hd
  have := List.all_eq_true.1 wT_chk j (List.mem_range.2 hj)
  simp only [hd, Bool.and_eq_true] at this
  exact ⟨eq_of_beq this.1, eq_of_beq this.2⟩
theorem drop_mem {α : Type} {l : List α} {j : Nat} {w : α} {rr : List α} (hd : l.drop j = w :: rr) : w ∈ l := List.mem_of_mem_drop (by rw [hd]; exact List.mem_cons_self ..)
theorem wT_chars : wT.all (fun w => Nat.ble 1 w.word.length && w.word.all (fun b => Nat.ble 33 b && Nat.ble b 126)) = true := by kernel_rfl
theorem word_pos {w : W} (hw : w ∈ wT) : 0 < w.word.length := by
  have := wT_all wT_chars hw
  rw [Bool.and_eq_true] at this
  exact Nat.le_of_ble_eq_true this.1
theorem word_char {w : W} (hw : w ∈ wT) {b : Nat} (hb : b ∈ w.word) : 33 ≤ b ∧ b ≤ 126 := by
  have := wT_all wT_chars hw
  rw [Bool.and_eq_true] at this
  have := List.all_eq_true.1 this.2 b hb
  rw [Bool.and_eq_true] at this
  exact ⟨Nat.le_of_ble_eq_true this.1, Nat.le_of_ble_eq_true this.2⟩
theorem wT_back : wT.all (fun w => (Nat.beq w.kind 5 || Nat.beq w.kind 6) == false || Nat.beq w.behind 1) = true := by kernel_rfl
theorem back_one {w : W} (hw : w ∈ wT) (h : w.kind = 5 ∨ w.kind = 6) : w.behind = 1 := by
  have := wT_all wT_back hw
  have h2 : (Nat.beq w.kind 5 || Nat.beq w.kind 6) = true := by
    rcases h with h | h <;> rw [h] <;> rfl
  rw [h2] at this
  exact Nat.eq_of_beq_eq_true (by simpa using this)
/-! ### bytes -/
theorem odd_not {b : Nat} (h1 : 32 ≤ b) (h2 : b ≤ 126) : oddB b = false := by
  unfold oddB; rw [if_pos (Nat.ble_eq_true_of_le h1), Nat.ble_eq_true_of_le h2]; rfl
theorem odd_is {b : Nat} (h : oddB b = false) : 32 ≤ b ∧ b ≤ 126 := by
  unfold oddB at h
  split at h
  · rename_i h1
    have h2 : Nat.ble b 126 = true := by simpa using h
    exact ⟨Nat.le_of_ble_eq_true h1, Nat.le_of_ble_eq_true h2⟩
  · cases h
theorem lead_all {p : Nat → Bool} : ∀ {l t : List Nat}, (∀ b ∈ l, p b = true) → lead p (l ++ t) = l.length + lead p t := by
  intro l
  induction l with
  | nil => intro t h; simp
  | cons x l ih =>
    intro t h
    show (if p x = true then lead p (l ++ t) + 1 else 0) = _
    rw [if_pos (h x (List.mem_cons_self ..)), ih fun b hb => h b (List.mem_cons_of_mem _ hb), List.length_cons]; omega
theorem lead_no {p : Nat → Bool} {x : Nat} {t : List Nat} (h : p x = false) : lead p (x :: t) = 0 := by
  show (if p x = true then lead p t + 1 else 0) = 0
  rw [h]; rfl
theorem lead_yes {p : Nat → Bool} {x : Nat} {t : List Nat} (h : p x = true) : lead p (x :: t) = lead p t + 1 := by
  show (if p x = true then lead p t + 1 else 0) = _
  rw [h]; rfl
theorem nb_false {x : Nat} (h : x ≠ 32) : Nat.beq x 32 = false := by
  cases e : Nat.beq x 32 with
  | false => rfl
  | true => exact absurd (Nat.eq_of_beq_eq_true e) h
/-- Where the first byte that is no blank stands. -/
theorem lead_spot {p : Nat → Bool} : ∀ (l : List Nat), lead p l < l.length → ∃ x, nth l (lead p l) = some x ∧ p x = false := by
  intro l
  induction l with
  | nil => intro h; cases h
  | cons x l ih =>
    intro h
    cases hx : p x with
    | false => rw [lead_no hx]; exact ⟨x, rfl, hx⟩
    | true =>
      rw [lead_yes hx] at h ⊢
      obtain ⟨y, h1, h2⟩ := ih (by simpa using h)
      exact ⟨y, h1, h2⟩
theorem skip_spot {l : List Nat} {i : Nat} (hi : i ≤ l.length) (h : skipF l i < l.length) : ∃ x, nth l (skipF l i) = some x ∧ x ≠ 32 := by
  unfold skipF at h ⊢
  obtain ⟨x, h1, h2⟩ := lead_spot (p := (Nat.beq · 32)) (l.drop i) (by rw [List.length_drop]; omega)
  rw [nth_eq, List.getElem?_drop] at h1
  refine ⟨x, by rw [nth_eq]; exact h1, fun e => ?_⟩
  rw [e] at h2; cases h2
/-! ### a line of a word and what follows -/
section
variable {w t u : List Nat}
theorem skip0 (h0 : 0 < w.length) (hw : ∀ b ∈ w, 33 ≤ b ∧ b ≤ 126) : skipF (w ++ t) 0 = 0 := by
  cases w with
  | nil => cases h0
  | cons x w =>
    unfold skipF
    have := (hw x (List.mem_cons_self ..)).1
    rw [List.drop_zero, List.cons_append, lead_no (p := (Nat.beq · 32)) (show Nat.beq x 32 = false from nb_false (by omega))]
theorem end0 (hw : ∀ b ∈ w, 33 ≤ b ∧ b ≤ 126) (ht : t = [] ∨ ∃ u, t = 32 :: u) : endF (w ++ t) 0 = w.length := by
  unfold endF
  rw [List.drop_zero, lead_all (fun b hb => by rw [nb_false (by have := (hw b hb).1; omega)]; rfl)]
  rcases ht with rfl | ⟨u, rfl⟩
  · show 0 + (w.length + 0) = _; omega
  · rw [lead_no (by rfl)]; omega
theorem word_is : takeB (w.length - 0) (dropN 0 (w ++ t)) = w := by
  rw [takeB_eq, dropN_eq, List.drop_zero, Nat.sub_zero, List.take_left' rfl]
theorem skip1 {x : Nat} (hx : x ≠ 32) : skipF (w ++ 32 :: x :: u) w.length = w.length + 1 := by
  unfold skipF
  rw [List.drop_left' rfl, lead_yes (by rfl), lead_no (p := (Nat.beq · 32)) (show Nat.beq x 32 = false from nb_false hx)]
theorem skip_nil : skipF (w ++ []) w.length = w.length := by
  unfold skipF
  rw [List.drop_left' rfl]; rfl
theorem skip_end {l : List Nat} : skipF l l.length = l.length := by
  unfold skipF
  rw [List.drop_eq_nil_of_le (Nat.le_refl _)]; rfl
theorem rest_is : (w ++ 32 :: u).drop (w.length + 1) = u := by
  rw [← List.drop_drop, List.drop_left' rfl]; rfl
theorem end1 (hu : ∀ b ∈ u, b ≠ 32) : endF (w ++ 32 :: u) (w.length + 1) = (w ++ 32 :: u).length := by
  unfold endF
  rw [rest_is]
  have := lead_all (p := fun b => !Nat.beq b 32) (l := u) (t := []) fun b hb => by rw [nb_false (hu b hb)]; rfl
  rw [List.append_nil] at this
  rw [this]
  show w.length + 1 + (u.length + 0) = _
  rw [List.length_append, List.length_cons]; omega
theorem tail_is : takeB ((w ++ 32 :: u).length - (w.length + 1)) (dropN (w.length + 1) (w ++ 32 :: u)) = u := by
  rw [takeB_eq, dropN_eq, rest_is, List.length_append, List.length_cons, List.take_of_length_le (by omega)]
end
/-! ### numerals -/
theorem decN_small {u : Nat} (h : u < 10) : decN u = [48 + u] := by
  unfold decN
  rw [Lib.decDigits, dif_pos h, mapL_eq]
  show [(UInt8.ofNat (48 + u)).toNat] = _
  rw [UInt8.toNat_ofNat']
  rw [Nat.mod_eq_of_lt (by omega)]
theorem decN_big {u : Nat} (h : ¬ u < 10) : decN u = decN (u / 10) ++ [48 + u % 10] := by
  unfold decN
  rw [Lib.decDigits, dif_neg h, mapL_eq, mapL_eq, List.map_append]
  show _ ++ [(UInt8.ofNat (48 + u % 10)).toNat] = _
  rw [UInt8.toNat_ofNat', Nat.mod_eq_of_lt (show 48 + u % 10 < 2 ^ 8 by omega)]
theorem valF_snoc : ∀ (l : List Nat) (a b : Nat), valF a (l ++ [b]) = valF a l * 10 + (b - 48) := by
  intro l
  induction l with
  | nil => intro a b; rfl
  | cons x l ih => intro a b; exact ih _ b
theorem decN_all (u : Nat) : valF 0 (decN u) = u ∧ (∀ b ∈ decN u, isDig b) ∧ decN u ≠ [] ∧ (0 < u → nth (decN u) 0 ≠ some 48) := by
  induction u using Nat.strongRecOn with
  | _ u ih =>
    by_cases h : u < 10
    · rw [decN_small h]
      refine ⟨?_, ?_, by simp, ?_⟩
      · show 0 * 10 + (48 + u - 48) = u; omega
      · intro b hb
        obtain rfl : b = 48 + u := by simpa using hb
        exact ⟨by omega, by omega⟩
      · intro h0 k
        injection k with k; omega
    · obtain ⟨h1, h2, h3, h4⟩ := ih (u / 10) (by omega)
      rw [decN_big h]
      refine ⟨?_, ?_, by simp, ?_⟩
      · rw [valF_snoc, h1]; omega
      · intro b hb
        rcases List.mem_append.1 hb with hb | hb
        · exact h2 b hb
        · obtain rfl : b = 48 + u % 10 := by simpa using hb
          exact ⟨by omega, by omega⟩
      · intro h0
        have := h4 (by omega)
        cases hd : decN (u / 10) with
        | nil => exact absurd hd h3
        | cons x r => rw [hd] at this; exact this
theorem decN_num {u : Nat} (h : u ≤ 999999999) : IsNum (decN u) := by
  obtain ⟨h1, h2, h3, h4⟩ := decN_all u
  refine ⟨(List.length_pos_iff.2 h3), decN_len h, fun hl => ?_, fst_of 0 fun b hb => off_dig.2 (h2 b hb)⟩
  refine h4 ?_
  rcases Nat.eq_zero_or_pos u with rfl | h0
  · rw [decN_small (by decide)] at hl; simp at hl
  · exact h0
theorem valF_lt : ∀ (l : List Nat) (a : Nat), (∀ b ∈ l, isDig b) → valF a l < (a + 1) * 10 ^ l.length := by
  intro l
  induction l with
  | nil => intro a h; show a < (a + 1) * 1; omega
  | cons x l ih =>
    intro a h
    have hx := h x (List.mem_cons_self ..)
    have h1 := ih (a * 10 + (x - 48)) fun b hb => h b (List.mem_cons_of_mem _ hb)
    show valF (a * 10 + (x - 48)) l < _
    have h2 : (a * 10 + (x - 48) + 1) * 10 ^ l.length ≤ ((a + 1) * 10) * 10 ^ l.length := Nat.mul_le_mul_right _ (by have := hx.2; omega)
    rw [List.length_cons, Nat.pow_succ, Nat.mul_comm (10 ^ l.length) 10, ← Nat.mul_assoc]
    omega
theorem num_le {l : List Nat} (h : IsNum l) : valF 0 l ≤ 999999999 := by
  have h1 := valF_lt l 0 fun b hb => off_dig.1 (fst_none h.2.2.2 b hb)
  have h2 : 10 ^ l.length ≤ 10 ^ 9 := Nat.pow_le_pow_right (by decide) h.2.1
  have h3 : (10 : Nat) ^ 9 = 1000000000 := by decide
  omega
/-! ### trimmed texts -/
theorem trim_all : ∀ (n : Nat) (u : List Nat), u.length = n → (∀ b ∈ trimR u, b ∈ u) ∧ nth (trimR u) ((trimR u).length - 1) ≠ some 32 ∧ (∀ x, nth u 0 = some x → x ≠ 32 → nth (trimR u) 0 = some x) := by
  intro n
  induction n with
  | zero =>
    intro u hn
    obtain rfl : u = [] := List.eq_nil_of_length_eq_zero hn
    exact ⟨fun b hb => hb, by decide, fun x hx => by cases hx⟩
  | succ n ih =>
    intro u hn
    obtain ⟨r, y, rfl⟩ : ∃ r x, u = r ++ [x] := by
      have hne : u ≠ [] := by intro h; rw [h] at hn; cases hn
      exact ⟨u.dropLast, u.getLast hne, (List.dropLast_concat_getLast hne).symm⟩
    rw [trim_cut]
    by_cases hy : y = 32
    · rw [if_pos hy]
      obtain ⟨h1, h2, h3⟩ := ih r (by simpa using hn)
      refine ⟨fun b hb => List.mem_append_left _ (h1 b hb), h2, fun x hx hne => h3 x ?_ hne⟩
      cases r with
      | nil =>
        have : some y = some x := hx
        injection this with this
        exact absurd (this ▸ hy) hne
      | cons z r => exact hx
    · rw [if_neg hy]
      refine ⟨fun b hb => hb, ?_, fun x hx _ => hx⟩
      rw [last_is]; intro k; injection k with k; exact hy k
theorem trim_self {u : List Nat} (h : nth u (u.length - 1) ≠ some 32) : trimR u = u := by
  cases hu : u with
  | nil => rfl
  | cons z v =>
    rw [← hu]
    have hne : u ≠ [] := by rw [hu]; simp
    have e := (List.dropLast_concat_getLast hne)
    rw [← e] at h ⊢
    rw [last_is] at h
    rw [trim_cut, if_neg (fun k => h (by rw [k]))]
/-! ### the law -/
theorem odd_line {w u : List Nat} (hw : ∀ b ∈ w, 33 ≤ b ∧ b ≤ 126) (hu : ∀ b ∈ u, 32 ≤ b ∧ b ≤ 126) : fstN oddB (w ++ 32 :: u) 0 = none := by
  refine fst_of 0 fun b hb => ?_
  rcases List.mem_append.1 hb with hb | hb
  · have := hw b hb; exact odd_not (by omega) this.2
  · rcases List.mem_cons.1 hb with rfl | hb
    · rfl
    · have := hu b hb; exact odd_not this.1 this.2
theorem readF_word {w : W} {j : Nat} {rr : List W} (hd : wT.drop j = w :: rr) {t : List Nat} (ht : t = [] ∨ ∃ u, t = 32 :: u) (hl : (w.word ++ t).length ≤ 500) (ho : fstN oddB (w.word ++ t) 0 = none) :
    readF (w.word ++ t) = readW w (w.word ++ t) (skipF (w.word ++ t) w.word.length) := by
  have hm := drop_mem hd
  have hc := fun b hb => word_char hm (b := b) hb
  unfold readF
  rw [if_neg (Nat.not_lt.2 hl), ho]
  simp only
  rw [skip0 (word_pos hm) hc, end0 hc ht, word_is, (wT_at hd).2]
  simp only [hd]
theorem app_is (a b : List Nat) : app (app a [32]) b = a ++ 32 :: b := by
  rw [app_eq, app_eq, List.append_assoc]; rfl
theorem shown_read {c : Cmd} {s : List Nat} (h : showF c = some s) : readF s = some c := by
  obtain ⟨K, n, l⟩ := c
  unfold showF at h
  simp only at h
  cases hj : fndW (kindP K) wT 0 with
  | none => rw [hj] at h; cases h
  | some j =>
    rw [hj] at h
    obtain ⟨w, rr, hd, hk, _, hm⟩ := fndW_some hj
    rw [Nat.sub_zero] at hd
    simp only [hd] at h
    have hc := fun b hb => word_char hm (b := b) hb
    have hp := word_pos hm
    have h6 := wT_short w hm
    have hK : K = Int.ofNat w.kind := by
      unfold kindP at hk
      rw [eqI_eq] at hk
      exact (of_decide_eq_true hk).symm
    split at h
    · rename_i hb
      split at h
      · rename_i hh
        obtain ⟨rfl, rfl⟩ := hh
        injection h with h
        subst h
        have ho : fstN oddB (w.word ++ []) 0 = none := fst_of 0 fun b hb => by
          rw [List.append_nil] at hb
          have := hc b hb; exact odd_not (by omega) this.2
        have := readF_word hd (.inl rfl) (by rw [List.append_nil]; omega) ho
        rw [skip_nil, List.append_nil] at this
        rw [this]
        unfold readW
        rw [if_pos hb, if_neg (Nat.lt_irrefl _), hK]
      · cases h
    · rename_i hb0
      split at h
      · rename_i hb1
        split at h
        · rename_i hh
          obtain ⟨h1, h2, rfl⟩ := hh
          injection h with h
          subst h
          obtain ⟨m, rfl⟩ : ∃ m : Nat, n = Int.ofNat m := ⟨n.toNat, (Int.toNat_of_nonneg h1).symm⟩
          have hm9 : m ≤ 999999999 := by have h2 : (m : Int) ≤ 999999999 := h2; omega
          have e : (Int.ofNat m).toNat = m := rfl
          rw [e, app_is]
          obtain ⟨q1, q2, q3, q4⟩ := decN_all m
          have q5 := decN_len hm9
          have q6 := decN_num hm9
          have hne : ∀ b ∈ decN m, b ≠ 32 := fun b hb => by have := (q2 b hb).1; omega
          have ho : fstN oddB (w.word ++ 32 :: decN m) 0 = none := odd_line hc fun b hb => by have := q2 b hb; exact ⟨by have := this.1; omega, by have := this.2; omega⟩
          rw [readF_word hd (.inr ⟨_, rfl⟩) (by rw [List.length_append, List.length_cons]; omega) ho]
          have hs : skipF (w.word ++ 32 :: decN m) w.word.length = w.word.length + 1 := by
            cases hx : decN m with
            | nil => exact absurd hx q3
            | cons x r => exact skip1 (hne x (by rw [hx]; exact List.mem_cons_self ..))
          rw [hs]
          unfold readW
          rw [if_neg hb0, if_neg (by rw [List.length_append, List.length_cons]; have := List.length_pos_iff.2 q3; omega), if_neg (by omega), end1 hne, tail_is, if_pos ⟨q6, skip_end⟩, q1, hK]
        · cases h
      · rename_i hb1
        split at h
        · rename_i hh
          obtain ⟨rfl, q1, q2, q3, q4, q5⟩ : n = 0 ∧ IsText l := hh
          injection h with h
          subst h
          rw [app_is]
          have ho : fstN oddB (w.word ++ 32 :: l) 0 = none := odd_line hc fun b hb => odd_is (fst_none q1 b hb)
          rw [readF_word hd (.inr ⟨_, rfl⟩) (by rw [List.length_append, List.length_cons]; omega) ho]
          have hs : skipF (w.word ++ 32 :: l) w.word.length = w.word.length + 1 := by
            cases l with
            | nil => cases q2
            | cons x r => exact skip1 (fun k => q4 (by rw [k]; rfl))
          have hb2 : w.behind = 2 := by rcases wT_behind w hm with h | h | h <;> first | exact h | exact absurd h hb0 | exact absurd h hb1
          rw [hs]
          unfold readW
          rw [if_neg hb0, if_neg (by rw [List.length_append, List.length_cons]; omega), if_pos hb2, len_eq, tail_is, trim_self q5, if_pos q3, hK]
        · cases h
/-- What is read can be shown. -/
theorem read_shown {l : List Nat} {c : Cmd} (h : readF l = some c) : ∃ s, showF c = some s := by
  unfold readF at h
  split at h
  · cases h
  cases ho : fstN oddB l 0 with
  | some j => rw [ho] at h; cases h
  | none =>
  rw [ho] at h
  simp only at h
  have k1 := skip_le (l := l) (i := 0) (Nat.zero_le _)
  generalize skipF l 0 = a at *
  have k2 := end_le (l := l) (i := a) k1.2
  generalize endF l a = b at *
  cases hj : fndW (wordP (takeB (b - a) (dropN a l))) wT 0 with
  | none => rw [hj] at h; cases h
  | some j =>
  rw [hj] at h
  obtain ⟨w, rr, hd, _, _, hm⟩ := fndW_some hj
  rw [Nat.sub_zero] at hd
  simp only [hd] at h
  have hw := (wT_at hd).1
  have k3 := skip_le (l := l) (i := b) k2.2
  have k4 := fun h => skip_spot (l := l) (i := b) k2.2 h
  generalize skipF l b = r at *
  have hshow : ∀ (n : Int) (t : List Nat), showF ⟨Int.ofNat w.kind, n, t⟩ = showF ⟨Int.ofNat w.kind, n, t⟩ := fun _ _ => rfl
  unfold readW at h
  split at h
  · rename_i hb
    split at h
    · cases h
    · injection h with h
      subst h
      unfold showF
      simp only [hw, hd]
      rw [if_pos hb, if_pos ⟨by trivial, by trivial⟩]; exact ⟨_, rfl⟩
  · rename_i hb0
    split at h
    · split at h
      · rename_i hk
        injection h with h
        subst h
        have hb1 := back_one hm hk
        unfold showF
        simp only [hw, hd]
        rw [if_neg hb0, if_pos hb1, if_pos ⟨by decide, by decide, by trivial⟩]; exact ⟨_, rfl⟩
      · cases h
    · rename_i hr
      split at h
      · rename_i hb2
        split at h
        · rename_i h490
          injection h with h
          subst h
          unfold showF
          simp only [hw, hd]
          obtain ⟨x, hx, hne⟩ := k4 (by omega)
          have e : takeB (len l - r) (dropN r l) = l.drop r := by
            rw [takeB_eq, dropN_eq, len_eq, List.take_of_length_le (by rw [List.length_drop]; omega)]
          rw [e] at h490 ⊢
          obtain ⟨t1, t2, t3⟩ := trim_all _ (l.drop r) rfl
          have hx0 : nth (l.drop r) 0 = some x := by rw [nth_eq, List.getElem?_drop, Nat.add_zero, ← nth_eq]; exact hx
          have t4 := t3 x hx0 hne
          have htext : IsText (trimR (l.drop r)) := by
            refine ⟨fst_of 0 fun b hb => fst_none ho b (List.mem_of_mem_drop (t1 b hb)), ?_, h490, ?_, t2⟩
            · rcases Nat.eq_zero_or_pos (trimR (l.drop r)).length with h0 | h0
              · rw [List.eq_nil_of_length_eq_zero h0] at t4; cases t4
              · exact h0
            · rw [t4]; intro k; injection k with k; exact hne k
          rw [if_neg hb0, if_neg (by omega), if_pos ⟨by trivial, htext⟩]; exact ⟨_, rfl⟩
        · cases h
      · rename_i hb2
        split at h
        · rename_i hn
          injection h with h
          subst h
          unfold showF
          simp only [hw, hd]
          have hb1 : w.behind = 1 := by rcases wT_behind w hm with h | h | h <;> first | exact h | exact absurd h hb0 | exact absurd h hb2
          have hle := num_le hn.1
          have h2 : Int.ofNat (valF 0 (takeB (endF l r - r) (dropN r l))) ≤ 999999999 := by
            show ((valF 0 (takeB (endF l r - r) (dropN r l)) : Nat) : Int) ≤ 999999999
            omega
          rw [if_neg hb0, if_pos hb1, if_pos ⟨Int.natCast_nonneg _, h2, by trivial⟩]; exact ⟨_, rfl⟩
        · cases h
end
end Go.AM.S40.Sy
end
section
/- The law, walked. -/
set_option maxRecDepth 100000
namespace Go.AM.S40.Sy
open Go Go.Proofs
noncomputable section
/-- Are two commands the same? -/
noncomputable def eqC (K n : Int) (l : List Nat) (K' n' : Int) (l' : List Nat) : Option Bool := boolC (eqI K K') (some false) (boolC (eqI n n') (some false) (boolC (same l l') (some false) (some true)))
theorem eqC_self (K n : Int) (l : List Nat) : eqC K n l K n l = some true := by
  unfold eqC; rw [eqI_self, eqI_self, same_self]; rfl
noncomputable def q3_1 (K : Int) (n : Int) (l : List Nat) : S := mkS 1 [(0, .cells true 24 [.int .i64 K, .int .i64 n, .str l])]
noncomputable def q3_2 (K : Int) (n : Int) (l : List Nat) : S := mkS 2 [(0, .cells true 24 [.int .i64 K, .int .i64 n, .str l]), (1, .cells true 24 [.int .i64 K, .int .i64 n, .str l])]
noncomputable def q3_3 (K : Int) (n : Int) (K2 : Int) (n2 : Int) (l : List Nat) (l2 : List Nat) : S := mkS 3 [(0, .cells true 24 [.int .i64 K, .int .i64 n, .str l]), (1, .cells true 24 [.int .i64 K, .int .i64 n, .str l]), (2, .cells true 24 [.int .i64 K2, .int .i64 n2, .str l2])]
noncomputable def q3_4 (K : Int) (n : Int) (K2 : Int) (n2 : Int) (l : List Nat) (l2 : List Nat) : S := mkS 4 [(0, .cells true 24 [.int .i64 K, .int .i64 n, .str l]), (1, .cells true 24 [.int .i64 K, .int .i64 n, .str l]), (2, .cells true 24 [.int .i64 K2, .int .i64 n2, .str l2]), (3, .cells true 24 [.int .i64 K2, .int .i64 n2, .str l2])]
noncomputable def q3_5 (K : Int) (n : Int) (l : List Nat) : S := mkS 3 [(0, .cells true 24 [.int .i64 K, .int .i64 n, .str l]), (1, .cells true 24 [.int .i64 K, .int .i64 n, .str l]), (2, .cells true 24 [.int .i64 0, .int .i64 0, .str []])]
noncomputable def q3_6 (K : Int) (n : Int) (K2 : Int) (n2 : Int) (l : List Nat) (l2 : List Nat) : S := mkS 2 [(0, .cells true 24 [.int .i64 K, .int .i64 n, .str l]), (1, .cells true 24 [.int .i64 K2, .int .i64 n2, .str l2])]
noncomputable def q3_7 (K : Int) (n : Int) (K2 : Int) (n2 : Int) (l : List Nat) (l2 : List Nat) : S := mkS 3 [(0, .cells true 24 [.int .i64 K, .int .i64 n, .str l]), (1, .cells true 24 [.int .i64 K2, .int .i64 n2, .str l2]), (2, .cells true 24 [.int .i64 K2, .int .i64 n2, .str l2])]
noncomputable def q3_8 (K : Int) (n : Int) (l : List Nat) : S := mkS 2 [(0, .cells true 24 [.int .i64 K, .int .i64 n, .str l]), (1, .cells true 24 [.int .i64 0, .int .i64 0, .str []])]
theorem w3_r0 (K n K2 n2 m e : Int) (l l2 line s1 s2 : List Nat) (rc : Rec) : (rc.call 4 [] (q3_1 K n l) = .ret (.bool true) (q3_1 K n l) false) → (rc.call 5 [.agg [.int .i64 K, .int .i64 n, .str l]] (q3_1 K n l) = .ret (.tup [.str s1, .int .i64 0]) (q3_1 K n l) false) → (rc.call 6 [.str s1] (q3_1 K n l) = .ret (.tup [.agg [.int .i64 K, .int .i64 n, .str l], .int .i64 0, .int .i64 0]) (q3_1 K n l) false) → ((eqC K n l K n l) = some true) → (rc.call 6 [.str line] (q3_2 K n l) = .ret (.tup [.agg [.int .i64 K2, .int .i64 n2, .str l2], .int .i64 0, .int .i64 0]) (q3_2 K n l) false) → (rc.call 5 [.agg [.int .i64 K2, .int .i64 n2, .str l2]] (q3_3 K n K2 n2 l l2) = .ret (.tup [.str s2, .int .i64 0]) (q3_3 K n K2 n2 l l2) false) → (rc.call 6 [.str s2] (q3_3 K n K2 n2 l l2) = .ret (.tup [.agg [.int .i64 K2, .int .i64 n2, .str l2], .int .i64 0, .int .i64 0]) (q3_3 K n K2 n2 l l2) false) → ((eqC K2 n2 l2 K2 n2 l2) = some true) → doBody EA rc 3 [.agg [.int .i64 K, .int .i64 n, .str l], .str line] false none (mkS 0 []) = .ret (.bool true) (q3_4 K n K2 n2 l l2) false := by
  refine cast ?_ (doQ_ok EA rc 3 [.agg [.int .i64 K, .int .i64 n, .str l], .str line] (mkS 0 []) [(2, .cl (.bool true)), (2, .cl (.tup [.str s1, .int .i64 0])), (8, .cl (.tup [.agg [.int .i64 K, .int .i64 n, .str l], .int .i64 0, .int .i64 0])), (17, .eqs true), (2, .cl (.tup [.agg [.int .i64 K2, .int .i64 n2, .str l2], .int .i64 0, .int .i64 0])), (11, .cl (.tup [.str s2, .int .i64 0])), (6, .cl (.tup [.agg [.int .i64 K2, .int .i64 n2, .str l2], .int .i64 0, .int .i64 0])), (17, .eqs true)]); kernel_rfl
theorem w3_r1 (K n K2 n2 m e : Int) (l l2 line s1 s2 : List Nat) (rc : Rec) : (rc.call 4 [] (q3_1 K n l) = .ret (.bool true) (q3_1 K n l) false) → (rc.call 5 [.agg [.int .i64 K, .int .i64 n, .str l]] (q3_1 K n l) = .ret (.tup [.str s1, .int .i64 0]) (q3_1 K n l) false) → (rc.call 6 [.str s1] (q3_1 K n l) = .ret (.tup [.agg [.int .i64 K, .int .i64 n, .str l], .int .i64 0, .int .i64 0]) (q3_1 K n l) false) → ((eqC K n l K n l) = some true) → (rc.call 6 [.str line] (q3_2 K n l) = .ret (.tup [.agg [.int .i64 0, .int .i64 0, .str []], .int .i64 m, .int .i64 e]) (q3_2 K n l) false) → ((!eqI e 0) = true) → doBody EA rc 3 [.agg [.int .i64 K, .int .i64 n, .str l], .str line] false none (mkS 0 []) = .ret (.bool true) (q3_5 K n l) false := by
  refine cast ?_ (doQ_ok EA rc 3 [.agg [.int .i64 K, .int .i64 n, .str l], .str line] (mkS 0 []) [(2, .cl (.bool true)), (2, .cl (.tup [.str s1, .int .i64 0])), (8, .cl (.tup [.agg [.int .i64 K, .int .i64 n, .str l], .int .i64 0, .int .i64 0])), (17, .eqs true), (2, .cl (.tup [.agg [.int .i64 0, .int .i64 0, .str []], .int .i64 m, .int .i64 e])), (9, .bl true)]); kernel_rfl
theorem w3_r2 (K n K2 n2 m e : Int) (l l2 line s1 s2 : List Nat) (rc : Rec) : (rc.call 4 [] (q3_1 K n l) = .ret (.bool true) (q3_1 K n l) false) → (rc.call 5 [.agg [.int .i64 K, .int .i64 n, .str l]] (q3_1 K n l) = .ret (.tup [.str [], .int .i64 1]) (q3_1 K n l) false) → (rc.call 6 [.str line] (q3_1 K n l) = .ret (.tup [.agg [.int .i64 K2, .int .i64 n2, .str l2], .int .i64 0, .int .i64 0]) (q3_1 K n l) false) → (rc.call 5 [.agg [.int .i64 K2, .int .i64 n2, .str l2]] (q3_6 K n K2 n2 l l2) = .ret (.tup [.str s2, .int .i64 0]) (q3_6 K n K2 n2 l l2) false) → (rc.call 6 [.str s2] (q3_6 K n K2 n2 l l2) = .ret (.tup [.agg [.int .i64 K2, .int .i64 n2, .str l2], .int .i64 0, .int .i64 0]) (q3_6 K n K2 n2 l l2) false) → ((eqC K2 n2 l2 K2 n2 l2) = some true) → doBody EA rc 3 [.agg [.int .i64 K, .int .i64 n, .str l], .str line] false none (mkS 0 []) = .ret (.bool true) (q3_7 K n K2 n2 l l2) false := by
  refine cast ?_ (doQ_ok EA rc 3 [.agg [.int .i64 K, .int .i64 n, .str l], .str line] (mkS 0 []) [(2, .cl (.bool true)), (2, .cl (.tup [.str [], .int .i64 1])), (8, .cl (.tup [.agg [.int .i64 K2, .int .i64 n2, .str l2], .int .i64 0, .int .i64 0])), (11, .cl (.tup [.str s2, .int .i64 0])), (6, .cl (.tup [.agg [.int .i64 K2, .int .i64 n2, .str l2], .int .i64 0, .int .i64 0])), (17, .eqs true)]); kernel_rfl
theorem w3_r3 (K n K2 n2 m e : Int) (l l2 line s1 s2 : List Nat) (rc : Rec) : (rc.call 4 [] (q3_1 K n l) = .ret (.bool true) (q3_1 K n l) false) → (rc.call 5 [.agg [.int .i64 K, .int .i64 n, .str l]] (q3_1 K n l) = .ret (.tup [.str [], .int .i64 1]) (q3_1 K n l) false) → (rc.call 6 [.str line] (q3_1 K n l) = .ret (.tup [.agg [.int .i64 0, .int .i64 0, .str []], .int .i64 m, .int .i64 e]) (q3_1 K n l) false) → ((!eqI e 0) = true) → doBody EA rc 3 [.agg [.int .i64 K, .int .i64 n, .str l], .str line] false none (mkS 0 []) = .ret (.bool true) (q3_8 K n l) false := by
  refine cast ?_ (doQ_ok EA rc 3 [.agg [.int .i64 K, .int .i64 n, .str l], .str line] (mkS 0 []) [(2, .cl (.bool true)), (2, .cl (.tup [.str [], .int .i64 1])), (8, .cl (.tup [.agg [.int .i64 0, .int .i64 0, .str []], .int .i64 m, .int .i64 e])), (9, .bl true)]); kernel_rfl
theorem call4 (N : Nat) (s : S) : (recN EA (N + 1)).call 4 [] s = .ret (.bool true) s false := by kernel_rfl
theorem call5 (args : List V) (N : Nat) (s : S) : (recN EA (N + 1)).call 5 args s = callE EA (recN EA N) 5 args s := by kernel_rfl
theorem call6 (args : List V) (N : Nat) (s : S) : (recN EA (N + 1)).call 6 args s = callE EA (recN EA N) 6 args s := by kernel_rfl
theorem rsv_c (h : Tr B) (K n : Int) (l : List Nat) : rsvL (rsvN h noBlk deep false) [.agg [.int .i64 K, .int .i64 n, .str l]] = some [.agg [.int .i64 K, .int .i64 n, .str l]] := by kernel_rfl
theorem rsv_sv (h : Tr B) (l : List Nat) (n : Int) : rsvN h noBlk deep false (.tup [.str l, .int .i64 n]) = some (.tup [.str l, .int .i64 n]) := by kernel_rfl
theorem lit_sv (l : List Nat) (n : Int) : hasLit (.tup [.str l, .int .i64 n]) = false := by kernel_rfl
theorem rsv_rv (h : Tr B) (K n m e : Int) (l : List Nat) : rsvN h noBlk deep false (.tup [.agg [.int .i64 K, .int .i64 n, .str l], .int .i64 m, .int .i64 e]) = some (.tup [.agg [.int .i64 K, .int .i64 n, .str l], .int .i64 m, .int .i64 e]) := by kernel_rfl
theorem lit_rv (K n m e : Int) (l : List Nat) : hasLit (.tup [.agg [.int .i64 K, .int .i64 n, .str l], .int .i64 m, .int .i64 e]) = false := by kernel_rfl
theorem show_at (c : Cmd) (N : Nat) (s : S) (hl : c.text.length < 140737488355328) (hN : c.text.length + 40 < N) : (recN EA (N + 1)).call 5 [.agg (cellsC c)] s = .ret (showV (showF c)) s false := by
  obtain ⟨s1, h⟩ := do5 c N hl hN
  rw [call5]
  refine callE_at (rsv_c ..) h ?_ ?_
  · cases showF c <;> exact rsv_sv ..
  · cases showF c <;> exact lit_sv ..
theorem read_at (l : List Nat) (N : Nat) (s : S) (hl : l.length < 140737488355328) (hN : l.length + 40 < N) : ∃ v, (recN EA (N + 1)).call 6 [.str l] s = .ret v s false ∧ ReadV v (readF l) := by
  obtain ⟨v, s1, h, hv⟩ := do6 l N hl hN
  refine ⟨v, ?_, hv⟩
  rw [call6]
  refine callE_at (rsv_str _ l) h ?_ ?_
  · cases hr : readF l with
    | some c => rw [hr] at hv; rw [show v = _ from hv]; exact rsv_rv ..
    | none => rw [hr] at hv; obtain ⟨n, e, rfl, _⟩ := hv; exact rsv_rv ..
  · cases hr : readF l with
    | some c => rw [hr] at hv; rw [show v = _ from hv]; exact lit_rv ..
    | none => rw [hr] at hv; obtain ⟨n, e, rfl, _⟩ := hv; exact lit_rv ..
theorem read_ok {l : List Nat} {c : Cmd} (h : readF l = some c) (N : Nat) (s : S) (hl : l.length < 140737488355328) (hN : l.length + 40 < N) : (recN EA (N + 1)).call 6 [.str l] s = .ret (.tup [.agg (cellsC c), .int .i64 0, .int .i64 0]) s false := by
  obtain ⟨v, h1, h2⟩ := read_at l N s hl hN
  rw [h] at h2
  rw [h1, show v = _ from h2]
/-- What is shown is short. -/
theorem shown_len {c : Cmd} {s : List Nat} (h : showF c = some s) : s.length ≤ 500 := by
  have := shown_read h
  unfold readF at this
  split at this
  · cases this
  · omega
theorem shown_text {c : Cmd} {s : List Nat} (h : showF c = some s) : c.text.length ≤ s.length := by
  unfold showF at h
  split at h
  · cases h
  · split at h
    · cases h
    · split at h
      · split at h
        · rename_i hh
          rw [hh.2]; exact Nat.zero_le _
        · cases h
      · split at h
        · split at h
          · rename_i hh
            rw [hh.2.2]; exact Nat.zero_le _
          · cases h
        · split at h
          · injection h with h
            rw [← h, app_is, List.length_append, List.length_cons]; omega
          · cases h
/-- The law: at all commands and lines it returns true. -/
theorem do3 (c : Cmd) (line : List Nat) (N : Nat) (hc : c.text.length < 140737488355328) (hl : line.length < 140737488355328) (hN : c.text.length + line.length + 600 < N) :
    ∃ s1, doBody EA (recN EA N) 3 [.agg (cellsC c), .str line] false none s0 = .ret (.bool true) s1 false := by
  obtain ⟨N, rfl⟩ : ∃ n, N = n + 1 := ⟨N - 1, by omega⟩
  have h4 := fun M => call4 N M
  have h5 := fun M => show_at c N M hc (by omega)
  have hr : ∀ {l : List Nat} {d : Cmd}, readF l = some d → l.length ≤ 500 → ∀ M, (recN EA (N + 1)).call 6 [.str l] M = .ret (.tup [.agg (cellsC d), .int .i64 0, .int .i64 0]) M false := fun h k M => read_ok h N M (by omega) (by omega)
  cases hs : showF c with
  | some s1 =>
    rw [hs] at h5
    have h6 := hr (shown_read hs) (shown_len hs)
    obtain ⟨K, n, l⟩ := c
    cases hd : readF line with
    | none =>
      have h7 : ∃ m e : Int, e ≠ 0 ∧ ∀ M, (recN EA (N + 1)).call 6 [.str line] M = .ret (.tup [.agg [.int .i64 0, .int .i64 0, .str []], .int .i64 m, .int .i64 e]) M false := by
        obtain ⟨v, s9, h, hv⟩ := do6 line N hl (by omega)
        rw [hd] at hv
        obtain ⟨m, e, rfl, he⟩ := hv
        exact ⟨m, e, he, fun M => by rw [call6]; exact callE_at (rsv_str _ line) h (rsv_rv ..) (lit_rv ..)⟩
      obtain ⟨m, e, he, h7⟩ := h7
      exact ⟨_, w3_r1 K n 0 0 m e l [] line s1 [] _ (h4 _) (h5 _) (h6 _) (eqC_self ..) (h7 _) (nz_true he)⟩
    | some d =>
      have h7 := fun M => read_ok hd N M hl (by omega)
      obtain ⟨s2, hs2⟩ := read_shown hd
      have hdt : d.text.length < 140737488355328 ∧ d.text.length + 40 < N := by
        have hx : d.text.length ≤ s2.length := shown_text hs2
        have := shown_len hs2
        omega
      have h8 := fun M => show_at d N M hdt.1 hdt.2
      rw [hs2] at h8
      have h9 := hr (shown_read hs2) (shown_len hs2)
      obtain ⟨K2, n2, l2⟩ := d
      exact ⟨_, w3_r0 K n K2 n2 0 0 l l2 line s1 s2 _ (h4 _) (h5 _) (h6 _) (eqC_self ..) (h7 _) (h8 _) (h9 _) (eqC_self ..)⟩
  | none =>
    rw [hs] at h5
    obtain ⟨K, n, l⟩ := c
    cases hd : readF line with
    | none =>
      have h7 : ∃ m e : Int, e ≠ 0 ∧ ∀ M, (recN EA (N + 1)).call 6 [.str line] M = .ret (.tup [.agg [.int .i64 0, .int .i64 0, .str []], .int .i64 m, .int .i64 e]) M false := by
        obtain ⟨v, s9, h, hv⟩ := do6 line N hl (by omega)
        rw [hd] at hv
        obtain ⟨m, e, rfl, he⟩ := hv
        exact ⟨m, e, he, fun M => by rw [call6]; exact callE_at (rsv_str _ line) h (rsv_rv ..) (lit_rv ..)⟩
      obtain ⟨m, e, he, h7⟩ := h7
      exact ⟨_, w3_r3 K n 0 0 m e l [] line [] [] _ (h4 _) (h5 _) (h7 _) (nz_true he)⟩
    | some d =>
      have h7 := fun M => read_ok hd N M hl (by omega)
      obtain ⟨s2, hs2⟩ := read_shown hd
      have hdt : d.text.length < 140737488355328 ∧ d.text.length + 40 < N := by
        have hx : d.text.length ≤ s2.length := shown_text hs2
        have := shown_len hs2
        omega
      have h8 := fun M => show_at d N M hdt.1 hdt.2
      rw [hs2] at h8
      have h9 := hr (shown_read hs2) (shown_len hs2)
      obtain ⟨K2, n2, l2⟩ := d
      exact ⟨_, w3_r2 K n K2 n2 0 0 l l2 line [] s2 _ (h4 _) (h5 _) (h7 _) (h8 _) (h9 _) (eqC_self ..)⟩
end
end Go.AM.S40.Sy
end
section
/- The machine's facts: known results, struct equality, modes. -/
set_option maxRecDepth 100000
namespace Go.AM.S40.Sy
open Go Go.Proofs
noncomputable section
theorem eqs23 : eqsOk Tryz.prog 23 = true := by kernel_rfl
theorem eqs_ok (t : Nat) (h : eqsZ t = true) : eqsOk Tryz.prog t = true := by
  have h : Nat.beq t 23 = true := h
  have := Nat.eq_of_beq_eq_true h
  rw [this]; exact eqs23
theorem words_run : runE E3 30 8 [] = some (LW wT) := by kernel_rfl
theorem words_fact : Fact E3 Tryz.prog 8 ([], LW wT) := ⟨E3, 30, env3_ok, ov3_ok, rfl, words_run⟩
theorem tabsZ_ok : TabsOk E3 Tryz.prog tZ := TabsOk.cons (fun q hq => by
  rw [List.mem_singleton] at hq; subst hq; exact sane_fact) (TabsOk.cons (fun q hq => by
  rw [List.mem_singleton] at hq; subst hq; exact words_fact) TabsOk.nil)
theorem ovL_ok : OvOk (layer E3 E3 0 tZ) Tryz.prog := layer_ov ov3_ok env3_ok ov3_ok rfl tabsZ_ok
theorem envA_ok : EnvOk EA Tryz.prog := envOk_wm (((layer_env env3_ok).over ovI).withEqs eqs_ok)
theorem ovA_of (hI : SumOk (layer E3 E3 0 tZ) Tryz.prog 12 itoaH) : OvOk EA Tryz.prog := ovOk_wm (OvOk.withEqs (ovL_ok.over fun f k hk => by
  unfold ovI at hk
  rw [boolC_eq] at hk
  split at hk
  · rename_i hf
    have hf := Nat.eq_of_beq_eq_true hf
    subst hf
    injection hk with hk
    subst hk
    exact hI
  · cases hk))
end
end Go.AM.S40.Sy
end
