import Derived.Test.YtejhioblmaaokaaGreatDoorS40K
import Derived.Test.YtejhioblmaaokaaGreatDoorS40L6
set_option linter.all false
section
/- strconv.Itoa, walked. -/
set_option maxRecDepth 100000
namespace Go.AM.S40.Sy
open Go Go.Proofs
noncomputable section
noncomputable def digsL : List Nat := [48, 49, 50, 51, 52, 53, 54, 55, 56, 57, 97, 98, 99, 100, 101, 102, 103, 104, 105, 106, 107, 108, 109, 110, 111, 112, 113, 114, 115, 116, 117, 118, 119, 120, 121, 122]
noncomputable def len8L : List Nat := [0, 1, 2, 2, 3, 3, 3, 3, 4, 4, 4, 4, 4, 4, 4, 4, 5, 5, 5, 5, 5, 5, 5, 5, 5, 5, 5, 5, 5, 5, 5, 5, 6, 6, 6, 6, 6, 6, 6, 6, 6, 6, 6, 6, 6, 6, 6, 6, 6, 6, 6, 6, 6, 6, 6, 6, 6, 6, 6, 6, 6, 6, 6, 6, 7, 7, 7, 7, 7, 7, 7, 7, 7, 7, 7, 7, 7, 7, 7, 7, 7, 7, 7, 7, 7, 7, 7, 7, 7, 7, 7, 7, 7, 7, 7, 7, 7, 7, 7, 7, 7, 7, 7, 7, 7, 7, 7, 7, 7, 7, 7, 7, 7, 7, 7, 7, 7, 7, 7, 7, 7, 7, 7, 7, 7, 7, 7, 7, 8, 8, 8, 8, 8, 8, 8, 8, 8, 8, 8, 8, 8, 8, 8, 8, 8, 8, 8, 8, 8, 8, 8, 8, 8, 8, 8, 8, 8, 8, 8, 8, 8, 8, 8, 8, 8, 8, 8, 8, 8, 8, 8, 8, 8, 8, 8, 8, 8, 8, 8, 8, 8, 8, 8, 8, 8, 8, 8, 8, 8, 8, 8, 8, 8, 8, 8, 8, 8, 8, 8, 8, 8, 8, 8, 8, 8, 8, 8, 8, 8, 8, 8, 8, 8, 8, 8, 8, 8, 8, 8, 8, 8, 8, 8, 8, 8, 8, 8, 8, 8, 8, 8, 8, 8, 8, 8, 8, 8, 8, 8, 8, 8, 8, 8, 8, 8, 8, 8, 8, 8, 8, 8, 8, 8, 8, 8, 8]
noncomputable def smallsL : List Nat := [48, 48, 48, 49, 48, 50, 48, 51, 48, 52, 48, 53, 48, 54, 48, 55, 48, 56, 48, 57, 49, 48, 49, 49, 49, 50, 49, 51, 49, 52, 49, 53, 49, 54, 49, 55, 49, 56, 49, 57, 50, 48, 50, 49, 50, 50, 50, 51, 50, 52, 50, 53, 50, 54, 50, 55, 50, 56, 50, 57, 51, 48, 51, 49, 51, 50, 51, 51, 51, 52, 51, 53, 51, 54, 51, 55, 51, 56, 51, 57, 52, 48, 52, 49, 52, 50, 52, 51, 52, 52, 52, 53, 52, 54, 52, 55, 52, 56, 52, 57, 53, 48, 53, 49, 53, 50, 53, 51, 53, 52, 53, 53, 53, 54, 53, 55, 53, 56, 53, 57, 54, 48, 54, 49, 54, 50, 54, 51, 54, 52, 54, 53, 54, 54, 54, 55, 54, 56, 54, 57, 55, 48, 55, 49, 55, 50, 55, 51, 55, 52, 55, 53, 55, 54, 55, 55, 55, 56, 55, 57, 56, 48, 56, 49, 56, 50, 56, 51, 56, 52, 56, 53, 56, 54, 56, 55, 56, 56, 56, 57, 57, 48, 57, 49, 57, 50, 57, 51, 57, 52, 57, 53, 57, 54, 57, 55, 57, 56, 57, 57]
theorem w112t_r0 (rc : Rec) (s : S) : doBody E3 rc 112 [.bool true] false none s = .ret (.int .i64 1) s false := by
  refine cast ?_ (doQ_ok E3 rc 112 [.bool true] s []); kernel_rfl
theorem w112f_r0 (rc : Rec) (s : S) : doBody E3 rc 112 [.bool false] false none s = .ret (.int .i64 0) s false := by
  refine cast ?_ (doQ_ok E3 rc 112 [.bool false] s []); kernel_rfl
theorem w110_r0 (b : Nat) (rc : Rec) (s : S) (y1 : Nat) (y2 : Nat) : ((wrap .i64 ((Int.ofNat b) * 78913)) = Int.ofNat y1) → ((Int.fdiv (Int.ofNat y1) 262144) = Int.ofNat y2) → doBody E3 rc 110 [.int .i64 (Int.ofNat b)] false none s = .ret (.int .i64 (Int.ofNat y2)) s false := by
  refine cast ?_ (doQ_ok E3 rc 110 [.int .i64 (Int.ofNat b)] s [(2, .nat y1), (0, .nat y2)]); kernel_rfl
theorem w111_r0 (n : Nat) (rc : Rec) (s : S) (y1 : Nat) (y2 : Nat) (y3 : Nat) (x4 : Nat) (y4 : Nat) (y5 : Nat) (y6 : Nat) (x8 : Nat) (y7 : Nat) (y8 : Nat) (y9 : Nat) (y10 : Nat) (x13 : Nat) (y11 : Nat) (y12 : Nat) (y13 : Nat) (x17 : Nat) (y14 : Nat) (y15 : Nat) : ((leI 4294967296 (Int.ofNat n)) = false) → ((leI 65536 (Int.ofNat n)) = true) → ((Int.fdiv (Int.ofNat n) 65536) = Int.ofNat y1) → ((leI 256 (Int.ofNat y1)) = true) → ((Int.fdiv (Int.ofNat y1) 256) = Int.ofNat y2) → ((wrap .u8 (Int.ofNat y2)) = Int.ofNat y3) → ((nth len8L y3) = some x4) → ((wrap .i64 (Int.ofNat x4)) = Int.ofNat y4) → ((wrap .i64 (24 + (Int.ofNat y4))) = Int.ofNat y5) → doBody E3 rc 111 [.int .u64 (Int.ofNat n)] false none s = .ret (.int .i64 (Int.ofNat y5)) s false := by
  refine cast ?_ (doQ_ok E3 rc 111 [.int .u64 (Int.ofNat n)] s [(2, .bl false), (1, .bl true), (1, .nat y1), (5, .bl true), (1, .nat y2), (6, .nat y3), (0, .ix x4), (0, .nat y4), (0, .nat y5)]); kernel_rfl
theorem w111_r1 (n : Nat) (rc : Rec) (s : S) (y1 : Nat) (y2 : Nat) (y3 : Nat) (x4 : Nat) (y4 : Nat) (y5 : Nat) (y6 : Nat) (x8 : Nat) (y7 : Nat) (y8 : Nat) (y9 : Nat) (y10 : Nat) (x13 : Nat) (y11 : Nat) (y12 : Nat) (y13 : Nat) (x17 : Nat) (y14 : Nat) (y15 : Nat) : ((leI 4294967296 (Int.ofNat n)) = false) → ((leI 65536 (Int.ofNat n)) = true) → ((Int.fdiv (Int.ofNat n) 65536) = Int.ofNat y1) → ((leI 256 (Int.ofNat y1)) = false) → ((wrap .u8 (Int.ofNat y1)) = Int.ofNat y6) → ((nth len8L y6) = some x8) → ((wrap .i64 (Int.ofNat x8)) = Int.ofNat y7) → ((wrap .i64 (16 + (Int.ofNat y7))) = Int.ofNat y8) → doBody E3 rc 111 [.int .u64 (Int.ofNat n)] false none s = .ret (.int .i64 (Int.ofNat y8)) s false := by
  refine cast ?_ (doQ_ok E3 rc 111 [.int .u64 (Int.ofNat n)] s [(2, .bl false), (1, .bl true), (1, .nat y1), (5, .bl false), (2, .nat y6), (0, .ix x8), (0, .nat y7), (0, .nat y8)]); kernel_rfl
theorem w111_r2 (n : Nat) (rc : Rec) (s : S) (y1 : Nat) (y2 : Nat) (y3 : Nat) (x4 : Nat) (y4 : Nat) (y5 : Nat) (y6 : Nat) (x8 : Nat) (y7 : Nat) (y8 : Nat) (y9 : Nat) (y10 : Nat) (x13 : Nat) (y11 : Nat) (y12 : Nat) (y13 : Nat) (x17 : Nat) (y14 : Nat) (y15 : Nat) : ((leI 4294967296 (Int.ofNat n)) = false) → ((leI 65536 (Int.ofNat n)) = false) → ((leI 256 (Int.ofNat n)) = true) → ((Int.fdiv (Int.ofNat n) 256) = Int.ofNat y9) → ((wrap .u8 (Int.ofNat y9)) = Int.ofNat y10) → ((nth len8L y10) = some x13) → ((wrap .i64 (Int.ofNat x13)) = Int.ofNat y11) → ((wrap .i64 (8 + (Int.ofNat y11))) = Int.ofNat y12) → doBody E3 rc 111 [.int .u64 (Int.ofNat n)] false none s = .ret (.int .i64 (Int.ofNat y12)) s false := by
  refine cast ?_ (doQ_ok E3 rc 111 [.int .u64 (Int.ofNat n)] s [(2, .bl false), (1, .bl false), (1, .bl true), (1, .nat y9), (6, .nat y10), (0, .ix x13), (0, .nat y11), (0, .nat y12)]); kernel_rfl
theorem w111_r3 (n : Nat) (rc : Rec) (s : S) (y1 : Nat) (y2 : Nat) (y3 : Nat) (x4 : Nat) (y4 : Nat) (y5 : Nat) (y6 : Nat) (x8 : Nat) (y7 : Nat) (y8 : Nat) (y9 : Nat) (y10 : Nat) (x13 : Nat) (y11 : Nat) (y12 : Nat) (y13 : Nat) (x17 : Nat) (y14 : Nat) (y15 : Nat) : ((leI 4294967296 (Int.ofNat n)) = false) → ((leI 65536 (Int.ofNat n)) = false) → ((leI 256 (Int.ofNat n)) = false) → ((wrap .u8 (Int.ofNat n)) = Int.ofNat y13) → ((nth len8L y13) = some x17) → ((wrap .i64 (Int.ofNat x17)) = Int.ofNat y14) → ((wrap .i64 (0 + (Int.ofNat y14))) = Int.ofNat y15) → doBody E3 rc 111 [.int .u64 (Int.ofNat n)] false none s = .ret (.int .i64 (Int.ofNat y15)) s false := by
  refine cast ?_ (doQ_ok E3 rc 111 [.int .u64 (Int.ofNat n)] s [(2, .bl false), (1, .bl false), (1, .bl false), (2, .nat y13), (0, .ix x17), (0, .nat y14), (0, .nat y15)]); kernel_rfl
theorem w58_2_r0 (n b : Nat) (rc : Rec) (s : S) : (rc.call 111 [.int .u64 (Int.ofNat n)] s = .ret (.int .i64 (Int.ofNat b)) s false) → (rc.call 110 [.int .i64 (Int.ofNat b)] s = .ret (.int .i64 2) s false) → ((leI 100 (Int.ofNat n)) = true) → (rc.call 112 [.bool true] s = .ret (.int .i64 1) s false) → doBody E3 rc 58 [.int .u64 (Int.ofNat n)] false none s = .ret (.int .i64 3) s false := by
  refine cast ?_ (doQ_ok E3 rc 58 [.int .u64 (Int.ofNat n)] s [(2, .cl (.int .i64 (Int.ofNat b))), (0, .cl (.int .i64 2)), (6, .bl true), (0, .cl (.int .i64 1))]); kernel_rfl
theorem w58_2_r1 (n b : Nat) (rc : Rec) (s : S) : (rc.call 111 [.int .u64 (Int.ofNat n)] s = .ret (.int .i64 (Int.ofNat b)) s false) → (rc.call 110 [.int .i64 (Int.ofNat b)] s = .ret (.int .i64 2) s false) → ((leI 100 (Int.ofNat n)) = false) → (rc.call 112 [.bool false] s = .ret (.int .i64 0) s false) → doBody E3 rc 58 [.int .u64 (Int.ofNat n)] false none s = .ret (.int .i64 2) s false := by
  refine cast ?_ (doQ_ok E3 rc 58 [.int .u64 (Int.ofNat n)] s [(2, .cl (.int .i64 (Int.ofNat b))), (0, .cl (.int .i64 2)), (6, .bl false), (0, .cl (.int .i64 0))]); kernel_rfl
theorem w58_3_r0 (n b : Nat) (rc : Rec) (s : S) : (rc.call 111 [.int .u64 (Int.ofNat n)] s = .ret (.int .i64 (Int.ofNat b)) s false) → (rc.call 110 [.int .i64 (Int.ofNat b)] s = .ret (.int .i64 3) s false) → ((leI 1000 (Int.ofNat n)) = true) → (rc.call 112 [.bool true] s = .ret (.int .i64 1) s false) → doBody E3 rc 58 [.int .u64 (Int.ofNat n)] false none s = .ret (.int .i64 4) s false := by
  refine cast ?_ (doQ_ok E3 rc 58 [.int .u64 (Int.ofNat n)] s [(2, .cl (.int .i64 (Int.ofNat b))), (0, .cl (.int .i64 3)), (6, .bl true), (0, .cl (.int .i64 1))]); kernel_rfl
theorem w58_3_r1 (n b : Nat) (rc : Rec) (s : S) : (rc.call 111 [.int .u64 (Int.ofNat n)] s = .ret (.int .i64 (Int.ofNat b)) s false) → (rc.call 110 [.int .i64 (Int.ofNat b)] s = .ret (.int .i64 3) s false) → ((leI 1000 (Int.ofNat n)) = false) → (rc.call 112 [.bool false] s = .ret (.int .i64 0) s false) → doBody E3 rc 58 [.int .u64 (Int.ofNat n)] false none s = .ret (.int .i64 3) s false := by
  refine cast ?_ (doQ_ok E3 rc 58 [.int .u64 (Int.ofNat n)] s [(2, .cl (.int .i64 (Int.ofNat b))), (0, .cl (.int .i64 3)), (6, .bl false), (0, .cl (.int .i64 0))]); kernel_rfl
theorem w58_4_r0 (n b : Nat) (rc : Rec) (s : S) : (rc.call 111 [.int .u64 (Int.ofNat n)] s = .ret (.int .i64 (Int.ofNat b)) s false) → (rc.call 110 [.int .i64 (Int.ofNat b)] s = .ret (.int .i64 4) s false) → ((leI 10000 (Int.ofNat n)) = true) → (rc.call 112 [.bool true] s = .ret (.int .i64 1) s false) → doBody E3 rc 58 [.int .u64 (Int.ofNat n)] false none s = .ret (.int .i64 5) s false := by
  refine cast ?_ (doQ_ok E3 rc 58 [.int .u64 (Int.ofNat n)] s [(2, .cl (.int .i64 (Int.ofNat b))), (0, .cl (.int .i64 4)), (6, .bl true), (0, .cl (.int .i64 1))]); kernel_rfl
theorem w58_4_r1 (n b : Nat) (rc : Rec) (s : S) : (rc.call 111 [.int .u64 (Int.ofNat n)] s = .ret (.int .i64 (Int.ofNat b)) s false) → (rc.call 110 [.int .i64 (Int.ofNat b)] s = .ret (.int .i64 4) s false) → ((leI 10000 (Int.ofNat n)) = false) → (rc.call 112 [.bool false] s = .ret (.int .i64 0) s false) → doBody E3 rc 58 [.int .u64 (Int.ofNat n)] false none s = .ret (.int .i64 4) s false := by
  refine cast ?_ (doQ_ok E3 rc 58 [.int .u64 (Int.ofNat n)] s [(2, .cl (.int .i64 (Int.ofNat b))), (0, .cl (.int .i64 4)), (6, .bl false), (0, .cl (.int .i64 0))]); kernel_rfl
theorem w58_5_r0 (n b : Nat) (rc : Rec) (s : S) : (rc.call 111 [.int .u64 (Int.ofNat n)] s = .ret (.int .i64 (Int.ofNat b)) s false) → (rc.call 110 [.int .i64 (Int.ofNat b)] s = .ret (.int .i64 5) s false) → ((leI 100000 (Int.ofNat n)) = true) → (rc.call 112 [.bool true] s = .ret (.int .i64 1) s false) → doBody E3 rc 58 [.int .u64 (Int.ofNat n)] false none s = .ret (.int .i64 6) s false := by
  refine cast ?_ (doQ_ok E3 rc 58 [.int .u64 (Int.ofNat n)] s [(2, .cl (.int .i64 (Int.ofNat b))), (0, .cl (.int .i64 5)), (6, .bl true), (0, .cl (.int .i64 1))]); kernel_rfl
theorem w58_5_r1 (n b : Nat) (rc : Rec) (s : S) : (rc.call 111 [.int .u64 (Int.ofNat n)] s = .ret (.int .i64 (Int.ofNat b)) s false) → (rc.call 110 [.int .i64 (Int.ofNat b)] s = .ret (.int .i64 5) s false) → ((leI 100000 (Int.ofNat n)) = false) → (rc.call 112 [.bool false] s = .ret (.int .i64 0) s false) → doBody E3 rc 58 [.int .u64 (Int.ofNat n)] false none s = .ret (.int .i64 5) s false := by
  refine cast ?_ (doQ_ok E3 rc 58 [.int .u64 (Int.ofNat n)] s [(2, .cl (.int .i64 (Int.ofNat b))), (0, .cl (.int .i64 5)), (6, .bl false), (0, .cl (.int .i64 0))]); kernel_rfl
theorem w58_6_r0 (n b : Nat) (rc : Rec) (s : S) : (rc.call 111 [.int .u64 (Int.ofNat n)] s = .ret (.int .i64 (Int.ofNat b)) s false) → (rc.call 110 [.int .i64 (Int.ofNat b)] s = .ret (.int .i64 6) s false) → ((leI 1000000 (Int.ofNat n)) = true) → (rc.call 112 [.bool true] s = .ret (.int .i64 1) s false) → doBody E3 rc 58 [.int .u64 (Int.ofNat n)] false none s = .ret (.int .i64 7) s false := by
  refine cast ?_ (doQ_ok E3 rc 58 [.int .u64 (Int.ofNat n)] s [(2, .cl (.int .i64 (Int.ofNat b))), (0, .cl (.int .i64 6)), (6, .bl true), (0, .cl (.int .i64 1))]); kernel_rfl
theorem w58_6_r1 (n b : Nat) (rc : Rec) (s : S) : (rc.call 111 [.int .u64 (Int.ofNat n)] s = .ret (.int .i64 (Int.ofNat b)) s false) → (rc.call 110 [.int .i64 (Int.ofNat b)] s = .ret (.int .i64 6) s false) → ((leI 1000000 (Int.ofNat n)) = false) → (rc.call 112 [.bool false] s = .ret (.int .i64 0) s false) → doBody E3 rc 58 [.int .u64 (Int.ofNat n)] false none s = .ret (.int .i64 6) s false := by
  refine cast ?_ (doQ_ok E3 rc 58 [.int .u64 (Int.ofNat n)] s [(2, .cl (.int .i64 (Int.ofNat b))), (0, .cl (.int .i64 6)), (6, .bl false), (0, .cl (.int .i64 0))]); kernel_rfl
theorem w58_7_r0 (n b : Nat) (rc : Rec) (s : S) : (rc.call 111 [.int .u64 (Int.ofNat n)] s = .ret (.int .i64 (Int.ofNat b)) s false) → (rc.call 110 [.int .i64 (Int.ofNat b)] s = .ret (.int .i64 7) s false) → ((leI 10000000 (Int.ofNat n)) = true) → (rc.call 112 [.bool true] s = .ret (.int .i64 1) s false) → doBody E3 rc 58 [.int .u64 (Int.ofNat n)] false none s = .ret (.int .i64 8) s false := by
  refine cast ?_ (doQ_ok E3 rc 58 [.int .u64 (Int.ofNat n)] s [(2, .cl (.int .i64 (Int.ofNat b))), (0, .cl (.int .i64 7)), (6, .bl true), (0, .cl (.int .i64 1))]); kernel_rfl
theorem w58_7_r1 (n b : Nat) (rc : Rec) (s : S) : (rc.call 111 [.int .u64 (Int.ofNat n)] s = .ret (.int .i64 (Int.ofNat b)) s false) → (rc.call 110 [.int .i64 (Int.ofNat b)] s = .ret (.int .i64 7) s false) → ((leI 10000000 (Int.ofNat n)) = false) → (rc.call 112 [.bool false] s = .ret (.int .i64 0) s false) → doBody E3 rc 58 [.int .u64 (Int.ofNat n)] false none s = .ret (.int .i64 7) s false := by
  refine cast ?_ (doQ_ok E3 rc 58 [.int .u64 (Int.ofNat n)] s [(2, .cl (.int .i64 (Int.ofNat b))), (0, .cl (.int .i64 7)), (6, .bl false), (0, .cl (.int .i64 0))]); kernel_rfl
theorem w58_8_r0 (n b : Nat) (rc : Rec) (s : S) : (rc.call 111 [.int .u64 (Int.ofNat n)] s = .ret (.int .i64 (Int.ofNat b)) s false) → (rc.call 110 [.int .i64 (Int.ofNat b)] s = .ret (.int .i64 8) s false) → ((leI 100000000 (Int.ofNat n)) = true) → (rc.call 112 [.bool true] s = .ret (.int .i64 1) s false) → doBody E3 rc 58 [.int .u64 (Int.ofNat n)] false none s = .ret (.int .i64 9) s false := by
  refine cast ?_ (doQ_ok E3 rc 58 [.int .u64 (Int.ofNat n)] s [(2, .cl (.int .i64 (Int.ofNat b))), (0, .cl (.int .i64 8)), (6, .bl true), (0, .cl (.int .i64 1))]); kernel_rfl
theorem w58_8_r1 (n b : Nat) (rc : Rec) (s : S) : (rc.call 111 [.int .u64 (Int.ofNat n)] s = .ret (.int .i64 (Int.ofNat b)) s false) → (rc.call 110 [.int .i64 (Int.ofNat b)] s = .ret (.int .i64 8) s false) → ((leI 100000000 (Int.ofNat n)) = false) → (rc.call 112 [.bool false] s = .ret (.int .i64 0) s false) → doBody E3 rc 58 [.int .u64 (Int.ofNat n)] false none s = .ret (.int .i64 8) s false := by
  refine cast ?_ (doQ_ok E3 rc 58 [.int .u64 (Int.ofNat n)] s [(2, .cl (.int .i64 (Int.ofNat b))), (0, .cl (.int .i64 8)), (6, .bl false), (0, .cl (.int .i64 0))]); kernel_rfl
theorem w58_9_r0 (n b : Nat) (rc : Rec) (s : S) : (rc.call 111 [.int .u64 (Int.ofNat n)] s = .ret (.int .i64 (Int.ofNat b)) s false) → (rc.call 110 [.int .i64 (Int.ofNat b)] s = .ret (.int .i64 9) s false) → ((leI 1000000000 (Int.ofNat n)) = true) → (rc.call 112 [.bool true] s = .ret (.int .i64 1) s false) → doBody E3 rc 58 [.int .u64 (Int.ofNat n)] false none s = .ret (.int .i64 10) s false := by
  refine cast ?_ (doQ_ok E3 rc 58 [.int .u64 (Int.ofNat n)] s [(2, .cl (.int .i64 (Int.ofNat b))), (0, .cl (.int .i64 9)), (6, .bl true), (0, .cl (.int .i64 1))]); kernel_rfl
theorem w58_9_r1 (n b : Nat) (rc : Rec) (s : S) : (rc.call 111 [.int .u64 (Int.ofNat n)] s = .ret (.int .i64 (Int.ofNat b)) s false) → (rc.call 110 [.int .i64 (Int.ofNat b)] s = .ret (.int .i64 9) s false) → ((leI 1000000000 (Int.ofNat n)) = false) → (rc.call 112 [.bool false] s = .ret (.int .i64 0) s false) → doBody E3 rc 58 [.int .u64 (Int.ofNat n)] false none s = .ret (.int .i64 9) s false := by
  refine cast ?_ (doQ_ok E3 rc 58 [.int .u64 (Int.ofNat n)] s [(2, .cl (.int .i64 (Int.ofNat b))), (0, .cl (.int .i64 9)), (6, .bl false), (0, .cl (.int .i64 0))]); kernel_rfl
theorem w57_r0 (n : Nat) (rc : Rec) (s : S) (y1 : Nat) (y2 : Nat) (y3 : Nat) : ((!leI 10 (Int.ofNat n)) = true) → ((wrap .i64 ((Int.ofNat n) + 1)) = Int.ofNat y1) → ((inB n y1 (len digsL) (len digsL)) = true) → doBody E3 rc 57 [.int .i64 (Int.ofNat n)] false none s = .ret (.str (takeB (y1 - n) (dropN n digsL))) s false := by
  refine cast ?_ (doQ_ok E3 rc 57 [.int .i64 (Int.ofNat n)] s [(2, .bl true), (2, .nat y1), (0, .cut)]); kernel_rfl
theorem w57_r1 (n : Nat) (rc : Rec) (s : S) (y1 : Nat) (y2 : Nat) (y3 : Nat) : ((!leI 10 (Int.ofNat n)) = false) → ((wrap .i64 ((Int.ofNat n) * 2)) = Int.ofNat y2) → ((wrap .i64 ((Int.ofNat y2) + 2)) = Int.ofNat y3) → ((inB y2 y3 (len smallsL) (len smallsL)) = true) → doBody E3 rc 57 [.int .i64 (Int.ofNat n)] false none s = .ret (.str (takeB (y3 - y2) (dropN y2 smallsL))) s false := by
  have h_ : (((!leI 10 (Int.ofNat n)) = false) → ((wrap .i64 ((Int.ofNat n) * 2)) = Int.ofNat y2) → ((wrap .i64 ((Int.ofNat n) * 2)) = Int.ofNat y2) → ((wrap .i64 ((Int.ofNat y2) + 2)) = Int.ofNat y3) → ((inB y2 y3 (len smallsL) (len smallsL)) = true) → doBody E3 rc 57 [.int .i64 (Int.ofNat n)] false none s = .ret (.str (takeB (y3 - y2) (dropN y2 smallsL))) s false) := by refine cast ?_ (doQ_ok E3 rc 57 [.int .i64 (Int.ofNat n)] s [(2, .bl false), (1, .nat y2), (1, .nat y2), (0, .nat y3), (0, .cut)]); kernel_rfl
  exact fun h_0 h_1 h_2 h_3 => h_ h_0 h_1 h_1 h_2 h_3
noncomputable def q59_3_1  : S := mkS 1 [(0, .cells true 124 [.int .u8 0, .int .u8 0, .int .u8 0, .int .u8 0, .int .u8 0, .int .u8 0, .int .u8 0, .int .u8 0, .int .u8 0, .int .u8 0, .int .u8 0, .int .u8 0, .int .u8 0, .int .u8 0, .int .u8 0, .int .u8 0, .int .u8 0, .int .u8 0, .int .u8 0, .int .u8 0, .int .u8 0, .int .u8 0, .int .u8 0, .int .u8 0])]
noncomputable def q59_3_2 (x6 : Nat) (x7 : Nat) (y7 : Nat) : S := mkS 1 [(0, .cells true 124 [.int .u8 0, .int .u8 (Int.ofNat y7), .int .u8 (Int.ofNat x7), .int .u8 (Int.ofNat x6), .int .u8 0, .int .u8 0, .int .u8 0, .int .u8 0, .int .u8 0, .int .u8 0, .int .u8 0, .int .u8 0, .int .u8 0, .int .u8 0, .int .u8 0, .int .u8 0, .int .u8 0, .int .u8 0, .int .u8 0, .int .u8 0, .int .u8 0, .int .u8 0, .int .u8 0, .int .u8 0])]
theorem w59_3_r0 (n : Nat) (rc rc1 : Rec) (y1 : Nat) (y2 : Nat) (y3 : Nat) (y4 : Nat) (y5 : Nat) (x6 : Nat) (x7 : Nat) (y6 : Nat) (y7 : Nat) : ((wrap .u32 (Int.ofNat n)) = Int.ofNat y1) → (((Int.tmod (Int.ofNat y1) 100)) = Int.ofNat y2) → ((wrap .u32 ((Int.ofNat y2) * 2)) = Int.ofNat y3) → ((wrap .u32 (Int.tdiv (Int.ofNat y1) 100)) = Int.ofNat y4) → ((wrap .u32 ((Int.ofNat y3) + 1)) = Int.ofNat y5) → ((nth smallsL y5) = some x6) → ((nth smallsL y3) = some x7) → ((wrap .u32 (48 + (Int.ofNat y4))) = Int.ofNat y6) → ((wrap .u8 (Int.ofNat y6)) = Int.ofNat y7) → doBody E3 rc 59 [.sl 0 1 3 1 (some 23), .int .u64 (Int.ofNat n)] false none q59_3_1 = .ret (.tup []) (q59_3_2 x6 x7 y7) false := by
  refine cast ?_ (doQ_ok E3 rc 59 [.sl 0 1 3 1 (some 23), .int .u64 (Int.ofNat n)] q59_3_1 [(3, .un []), (3, .nat y1), (6, .nat y2), (0, .nat y3), (2, .nat y4), (8, .nat y5), (0, .ix x6), (1, .ix x7), (11, .nat y6), (0, .nat y7)]); kernel_rfl
noncomputable def q59_4_1  : S := mkS 1 [(0, .cells true 124 [.int .u8 0, .int .u8 0, .int .u8 0, .int .u8 0, .int .u8 0, .int .u8 0, .int .u8 0, .int .u8 0, .int .u8 0, .int .u8 0, .int .u8 0, .int .u8 0, .int .u8 0, .int .u8 0, .int .u8 0, .int .u8 0, .int .u8 0, .int .u8 0, .int .u8 0, .int .u8 0, .int .u8 0, .int .u8 0, .int .u8 0, .int .u8 0])]
noncomputable def q59_4_2 (x9 : Nat) (x10 : Nat) (x12 : Nat) (x13 : Nat) : S := mkS 1 [(0, .cells true 124 [.int .u8 0, .int .u8 (Int.ofNat x13), .int .u8 (Int.ofNat x12), .int .u8 (Int.ofNat x10), .int .u8 (Int.ofNat x9), .int .u8 0, .int .u8 0, .int .u8 0, .int .u8 0, .int .u8 0, .int .u8 0, .int .u8 0, .int .u8 0, .int .u8 0, .int .u8 0, .int .u8 0, .int .u8 0, .int .u8 0, .int .u8 0, .int .u8 0, .int .u8 0, .int .u8 0, .int .u8 0, .int .u8 0])]
theorem w59_4_r0 (n : Nat) (rc rc1 : Rec) (y1 : Nat) (y2 : Nat) (y3 : Nat) (y4 : Nat) (y5 : Nat) (y6 : Nat) (y7 : Nat) (y8 : Nat) (x9 : Nat) (x10 : Nat) (y9 : Nat) (x12 : Nat) (x13 : Nat) : ((wrap .u32 (Int.ofNat n)) = Int.ofNat y1) → (((Int.tmod (Int.ofNat y1) 10000)) = Int.ofNat y2) → ((wrap .u32 (Int.tdiv (Int.ofNat y1) 10000)) = Int.ofNat y3) → ((wrap .u32 (Int.tdiv (Int.ofNat y2) 100)) = Int.ofNat y4) → ((wrap .u32 ((Int.ofNat y4) * 2)) = Int.ofNat y5) → (((Int.tmod (Int.ofNat y2) 100)) = Int.ofNat y6) → ((wrap .u32 ((Int.ofNat y6) * 2)) = Int.ofNat y7) → ((wrap .u32 ((Int.ofNat y7) + 1)) = Int.ofNat y8) → ((nth smallsL y8) = some x9) → ((nth smallsL y7) = some x10) → ((wrap .u32 ((Int.ofNat y5) + 1)) = Int.ofNat y9) → ((nth smallsL y9) = some x12) → ((nth smallsL y5) = some x13) → doBody E3 rc 59 [.sl 0 1 4 1 (some 23), .int .u64 (Int.ofNat n)] false none q59_4_1 = .ret (.tup []) (q59_4_2 x9 x10 x12 x13) false := by
  refine cast ?_ (doQ_ok E3 rc 59 [.sl 0 1 4 1 (some 23), .int .u64 (Int.ofNat n)] q59_4_1 [(3, .un []), (3, .nat y1), (4, .nat y2), (2, .nat y3), (2, .nat y4), (0, .nat y5), (1, .nat y6), (0, .nat y7), (9, .nat y8), (0, .ix x9), (1, .ix x10), (11, .nat y9), (0, .ix x12), (1, .ix x13)]); kernel_rfl
noncomputable def q59_5_1  : S := mkS 1 [(0, .cells true 124 [.int .u8 0, .int .u8 0, .int .u8 0, .int .u8 0, .int .u8 0, .int .u8 0, .int .u8 0, .int .u8 0, .int .u8 0, .int .u8 0, .int .u8 0, .int .u8 0, .int .u8 0, .int .u8 0, .int .u8 0, .int .u8 0, .int .u8 0, .int .u8 0, .int .u8 0, .int .u8 0, .int .u8 0, .int .u8 0, .int .u8 0, .int .u8 0])]
noncomputable def q59_5_2 (x9 : Nat) (x10 : Nat) (x12 : Nat) (x13 : Nat) (y11 : Nat) : S := mkS 1 [(0, .cells true 124 [.int .u8 0, .int .u8 (Int.ofNat y11), .int .u8 (Int.ofNat x13), .int .u8 (Int.ofNat x12), .int .u8 (Int.ofNat x10), .int .u8 (Int.ofNat x9), .int .u8 0, .int .u8 0, .int .u8 0, .int .u8 0, .int .u8 0, .int .u8 0, .int .u8 0, .int .u8 0, .int .u8 0, .int .u8 0, .int .u8 0, .int .u8 0, .int .u8 0, .int .u8 0, .int .u8 0, .int .u8 0, .int .u8 0, .int .u8 0])]
theorem w59_5_r0 (n : Nat) (rc rc1 : Rec) (y1 : Nat) (y2 : Nat) (y3 : Nat) (y4 : Nat) (y5 : Nat) (y6 : Nat) (y7 : Nat) (y8 : Nat) (x9 : Nat) (x10 : Nat) (y9 : Nat) (x12 : Nat) (x13 : Nat) (y10 : Nat) (y11 : Nat) : ((wrap .u32 (Int.ofNat n)) = Int.ofNat y1) → (((Int.tmod (Int.ofNat y1) 10000)) = Int.ofNat y2) → ((wrap .u32 (Int.tdiv (Int.ofNat y1) 10000)) = Int.ofNat y3) → ((wrap .u32 (Int.tdiv (Int.ofNat y2) 100)) = Int.ofNat y4) → ((wrap .u32 ((Int.ofNat y4) * 2)) = Int.ofNat y5) → (((Int.tmod (Int.ofNat y2) 100)) = Int.ofNat y6) → ((wrap .u32 ((Int.ofNat y6) * 2)) = Int.ofNat y7) → ((wrap .u32 ((Int.ofNat y7) + 1)) = Int.ofNat y8) → ((nth smallsL y8) = some x9) → ((nth smallsL y7) = some x10) → ((wrap .u32 ((Int.ofNat y5) + 1)) = Int.ofNat y9) → ((nth smallsL y9) = some x12) → ((nth smallsL y5) = some x13) → ((wrap .u32 (48 + (Int.ofNat y3))) = Int.ofNat y10) → ((wrap .u8 (Int.ofNat y10)) = Int.ofNat y11) → doBody E3 rc 59 [.sl 0 1 5 1 (some 23), .int .u64 (Int.ofNat n)] false none q59_5_1 = .ret (.tup []) (q59_5_2 x9 x10 x12 x13 y11) false := by
  refine cast ?_ (doQ_ok E3 rc 59 [.sl 0 1 5 1 (some 23), .int .u64 (Int.ofNat n)] q59_5_1 [(3, .un []), (3, .nat y1), (4, .nat y2), (2, .nat y3), (2, .nat y4), (0, .nat y5), (1, .nat y6), (0, .nat y7), (9, .nat y8), (0, .ix x9), (1, .ix x10), (11, .nat y9), (0, .ix x12), (1, .ix x13), (13, .nat y10), (0, .nat y11)]); kernel_rfl
noncomputable def q59_6_1  : S := mkS 1 [(0, .cells true 124 [.int .u8 0, .int .u8 0, .int .u8 0, .int .u8 0, .int .u8 0, .int .u8 0, .int .u8 0, .int .u8 0, .int .u8 0, .int .u8 0, .int .u8 0, .int .u8 0, .int .u8 0, .int .u8 0, .int .u8 0, .int .u8 0, .int .u8 0, .int .u8 0, .int .u8 0, .int .u8 0, .int .u8 0, .int .u8 0, .int .u8 0, .int .u8 0])]
noncomputable def q59_6_2 (x9 : Nat) (x10 : Nat) (x12 : Nat) (x13 : Nat) (x18 : Nat) (x19 : Nat) : S := mkS 1 [(0, .cells true 124 [.int .u8 0, .int .u8 (Int.ofNat x19), .int .u8 (Int.ofNat x18), .int .u8 (Int.ofNat x13), .int .u8 (Int.ofNat x12), .int .u8 (Int.ofNat x10), .int .u8 (Int.ofNat x9), .int .u8 0, .int .u8 0, .int .u8 0, .int .u8 0, .int .u8 0, .int .u8 0, .int .u8 0, .int .u8 0, .int .u8 0, .int .u8 0, .int .u8 0, .int .u8 0, .int .u8 0, .int .u8 0, .int .u8 0, .int .u8 0, .int .u8 0])]
theorem w59_6_r0 (n : Nat) (rc rc1 : Rec) (y1 : Nat) (y2 : Nat) (y3 : Nat) (y4 : Nat) (y5 : Nat) (y6 : Nat) (y7 : Nat) (y8 : Nat) (x9 : Nat) (x10 : Nat) (y9 : Nat) (x12 : Nat) (x13 : Nat) (y10 : Nat) (y11 : Nat) (y12 : Nat) (y13 : Nat) (x18 : Nat) (x19 : Nat) : ((wrap .u32 (Int.ofNat n)) = Int.ofNat y1) → (((Int.tmod (Int.ofNat y1) 10000)) = Int.ofNat y2) → ((wrap .u32 (Int.tdiv (Int.ofNat y1) 10000)) = Int.ofNat y3) → ((wrap .u32 (Int.tdiv (Int.ofNat y2) 100)) = Int.ofNat y4) → ((wrap .u32 ((Int.ofNat y4) * 2)) = Int.ofNat y5) → (((Int.tmod (Int.ofNat y2) 100)) = Int.ofNat y6) → ((wrap .u32 ((Int.ofNat y6) * 2)) = Int.ofNat y7) → ((wrap .u32 ((Int.ofNat y7) + 1)) = Int.ofNat y8) → ((nth smallsL y8) = some x9) → ((nth smallsL y7) = some x10) → ((wrap .u32 ((Int.ofNat y5) + 1)) = Int.ofNat y9) → ((nth smallsL y9) = some x12) → ((nth smallsL y5) = some x13) → (((Int.tmod (Int.ofNat y3) 100)) = Int.ofNat y10) → ((wrap .u32 ((Int.ofNat y10) * 2)) = Int.ofNat y11) → ((wrap .u32 (Int.tdiv (Int.ofNat y3) 100)) = Int.ofNat y12) → ((wrap .u32 ((Int.ofNat y11) + 1)) = Int.ofNat y13) → ((nth smallsL y13) = some x18) → ((nth smallsL y11) = some x19) → doBody E3 rc 59 [.sl 0 1 6 1 (some 23), .int .u64 (Int.ofNat n)] false none q59_6_1 = .ret (.tup []) (q59_6_2 x9 x10 x12 x13 x18 x19) false := by
  refine cast ?_ (doQ_ok E3 rc 59 [.sl 0 1 6 1 (some 23), .int .u64 (Int.ofNat n)] q59_6_1 [(3, .un []), (3, .nat y1), (4, .nat y2), (2, .nat y3), (2, .nat y4), (0, .nat y5), (1, .nat y6), (0, .nat y7), (9, .nat y8), (0, .ix x9), (1, .ix x10), (11, .nat y9), (0, .ix x12), (1, .ix x13), (10, .nat y10), (0, .nat y11), (2, .nat y12), (8, .nat y13), (0, .ix x18), (1, .ix x19)]); kernel_rfl
noncomputable def q59_7_1  : S := mkS 1 [(0, .cells true 124 [.int .u8 0, .int .u8 0, .int .u8 0, .int .u8 0, .int .u8 0, .int .u8 0, .int .u8 0, .int .u8 0, .int .u8 0, .int .u8 0, .int .u8 0, .int .u8 0, .int .u8 0, .int .u8 0, .int .u8 0, .int .u8 0, .int .u8 0, .int .u8 0, .int .u8 0, .int .u8 0, .int .u8 0, .int .u8 0, .int .u8 0, .int .u8 0])]
noncomputable def q59_7_2 (x9 : Nat) (x10 : Nat) (x12 : Nat) (x13 : Nat) (x18 : Nat) (x19 : Nat) (y15 : Nat) : S := mkS 1 [(0, .cells true 124 [.int .u8 0, .int .u8 (Int.ofNat y15), .int .u8 (Int.ofNat x19), .int .u8 (Int.ofNat x18), .int .u8 (Int.ofNat x13), .int .u8 (Int.ofNat x12), .int .u8 (Int.ofNat x10), .int .u8 (Int.ofNat x9), .int .u8 0, .int .u8 0, .int .u8 0, .int .u8 0, .int .u8 0, .int .u8 0, .int .u8 0, .int .u8 0, .int .u8 0, .int .u8 0, .int .u8 0, .int .u8 0, .int .u8 0, .int .u8 0, .int .u8 0, .int .u8 0])]
theorem w59_7_r0 (n : Nat) (rc rc1 : Rec) (y1 : Nat) (y2 : Nat) (y3 : Nat) (y4 : Nat) (y5 : Nat) (y6 : Nat) (y7 : Nat) (y8 : Nat) (x9 : Nat) (x10 : Nat) (y9 : Nat) (x12 : Nat) (x13 : Nat) (y10 : Nat) (y11 : Nat) (y12 : Nat) (y13 : Nat) (x18 : Nat) (x19 : Nat) (y14 : Nat) (y15 : Nat) : ((wrap .u32 (Int.ofNat n)) = Int.ofNat y1) → (((Int.tmod (Int.ofNat y1) 10000)) = Int.ofNat y2) → ((wrap .u32 (Int.tdiv (Int.ofNat y1) 10000)) = Int.ofNat y3) → ((wrap .u32 (Int.tdiv (Int.ofNat y2) 100)) = Int.ofNat y4) → ((wrap .u32 ((Int.ofNat y4) * 2)) = Int.ofNat y5) → (((Int.tmod (Int.ofNat y2) 100)) = Int.ofNat y6) → ((wrap .u32 ((Int.ofNat y6) * 2)) = Int.ofNat y7) → ((wrap .u32 ((Int.ofNat y7) + 1)) = Int.ofNat y8) → ((nth smallsL y8) = some x9) → ((nth smallsL y7) = some x10) → ((wrap .u32 ((Int.ofNat y5) + 1)) = Int.ofNat y9) → ((nth smallsL y9) = some x12) → ((nth smallsL y5) = some x13) → (((Int.tmod (Int.ofNat y3) 100)) = Int.ofNat y10) → ((wrap .u32 ((Int.ofNat y10) * 2)) = Int.ofNat y11) → ((wrap .u32 (Int.tdiv (Int.ofNat y3) 100)) = Int.ofNat y12) → ((wrap .u32 ((Int.ofNat y11) + 1)) = Int.ofNat y13) → ((nth smallsL y13) = some x18) → ((nth smallsL y11) = some x19) → ((wrap .u32 (48 + (Int.ofNat y12))) = Int.ofNat y14) → ((wrap .u8 (Int.ofNat y14)) = Int.ofNat y15) → doBody E3 rc 59 [.sl 0 1 7 1 (some 23), .int .u64 (Int.ofNat n)] false none q59_7_1 = .ret (.tup []) (q59_7_2 x9 x10 x12 x13 x18 x19 y15) false := by
  refine cast ?_ (doQ_ok E3 rc 59 [.sl 0 1 7 1 (some 23), .int .u64 (Int.ofNat n)] q59_7_1 [(3, .un []), (3, .nat y1), (4, .nat y2), (2, .nat y3), (2, .nat y4), (0, .nat y5), (1, .nat y6), (0, .nat y7), (9, .nat y8), (0, .ix x9), (1, .ix x10), (11, .nat y9), (0, .ix x12), (1, .ix x13), (10, .nat y10), (0, .nat y11), (2, .nat y12), (8, .nat y13), (0, .ix x18), (1, .ix x19), (11, .nat y14), (0, .nat y15)]); kernel_rfl
noncomputable def q59_8_1  : S := mkS 1 [(0, .cells true 124 [.int .u8 0, .int .u8 0, .int .u8 0, .int .u8 0, .int .u8 0, .int .u8 0, .int .u8 0, .int .u8 0, .int .u8 0, .int .u8 0, .int .u8 0, .int .u8 0, .int .u8 0, .int .u8 0, .int .u8 0, .int .u8 0, .int .u8 0, .int .u8 0, .int .u8 0, .int .u8 0, .int .u8 0, .int .u8 0, .int .u8 0, .int .u8 0])]
noncomputable def q59_8_2 (x15 : Nat) (x16 : Nat) (x18 : Nat) (x19 : Nat) (x21 : Nat) (x22 : Nat) (x24 : Nat) (x25 : Nat) : S := mkS 1 [(0, .cells true 124 [.int .u8 0, .int .u8 (Int.ofNat x25), .int .u8 (Int.ofNat x24), .int .u8 (Int.ofNat x22), .int .u8 (Int.ofNat x21), .int .u8 (Int.ofNat x19), .int .u8 (Int.ofNat x18), .int .u8 (Int.ofNat x16), .int .u8 (Int.ofNat x15), .int .u8 0, .int .u8 0, .int .u8 0, .int .u8 0, .int .u8 0, .int .u8 0, .int .u8 0, .int .u8 0, .int .u8 0, .int .u8 0, .int .u8 0, .int .u8 0, .int .u8 0, .int .u8 0, .int .u8 0])]
theorem w59_8_r0 (n : Nat) (rc rc1 : Rec) (y1 : Nat) (y2 : Nat) (y3 : Nat) (y4 : Nat) (y5 : Nat) (y6 : Nat) (y7 : Nat) (y8 : Nat) (y9 : Nat) (y10 : Nat) (y11 : Nat) (y12 : Nat) (y13 : Nat) (y14 : Nat) (x15 : Nat) (x16 : Nat) (y15 : Nat) (x18 : Nat) (x19 : Nat) (y16 : Nat) (x21 : Nat) (x22 : Nat) (y17 : Nat) (x24 : Nat) (x25 : Nat) (y18 : Nat) : (rc = recS E3 rc1) → (((Int.tmod (Int.ofNat n) 100000000)) = Int.ofNat y1) → ((wrap .u32 (Int.ofNat y1)) = Int.ofNat y2) → ((wrap .u64 (Int.tdiv (Int.ofNat n) 100000000)) = Int.ofNat y3) → ((wrap .u32 (Int.tdiv (Int.ofNat y2) 10000)) = Int.ofNat y4) → (((Int.tmod (Int.ofNat y2) 10000)) = Int.ofNat y5) → ((wrap .u32 (Int.tdiv (Int.ofNat y5) 100)) = Int.ofNat y6) → ((wrap .u32 ((Int.ofNat y6) * 2)) = Int.ofNat y7) → (((Int.tmod (Int.ofNat y5) 100)) = Int.ofNat y8) → ((wrap .u32 ((Int.ofNat y8) * 2)) = Int.ofNat y9) → ((wrap .u32 (Int.tdiv (Int.ofNat y4) 100)) = Int.ofNat y10) → ((wrap .u32 ((Int.ofNat y10) * 2)) = Int.ofNat y11) → (((Int.tmod (Int.ofNat y4) 100)) = Int.ofNat y12) → ((wrap .u32 ((Int.ofNat y12) * 2)) = Int.ofNat y13) → ((wrap .u32 ((Int.ofNat y9) + 1)) = Int.ofNat y14) → ((nth smallsL y14) = some x15) → ((nth smallsL y9) = some x16) → ((wrap .u32 ((Int.ofNat y7) + 1)) = Int.ofNat y15) → ((nth smallsL y15) = some x18) → ((nth smallsL y7) = some x19) → ((wrap .u32 ((Int.ofNat y13) + 1)) = Int.ofNat y16) → ((nth smallsL y16) = some x21) → ((nth smallsL y13) = some x22) → ((wrap .u32 ((Int.ofNat y11) + 1)) = Int.ofNat y17) → ((nth smallsL y17) = some x24) → ((nth smallsL y11) = some x25) → ((wrap .u32 (Int.ofNat y3)) = Int.ofNat y18) → doBody E3 rc 59 [.sl 0 1 8 1 (some 23), .int .u64 (Int.ofNat n)] false none q59_8_1 = .ret (.tup []) (q59_8_2 x15 x16 x18 x19 x21 x22 x24 x25) false := by
  refine cast ?_ (doQ_ok E3 rc 59 [.sl 0 1 8 1 (some 23), .int .u64 (Int.ofNat n)] q59_8_1 [(3, .un [rc1]), (3, .nat y1), (0, .nat y2), (2, .nat y3), (2, .nat y4), (1, .nat y5), (3, .nat y6), (0, .nat y7), (1, .nat y8), (0, .nat y9), (3, .nat y10), (0, .nat y11), (1, .nat y12), (0, .nat y13), (9, .nat y14), (0, .ix x15), (1, .ix x16), (11, .nat y15), (0, .ix x18), (1, .ix x19), (11, .nat y16), (0, .ix x21), (1, .ix x22), (11, .nat y17), (0, .ix x24), (1, .ix x25), (10, .nat y18)]); kernel_rfl
noncomputable def q59_9_1  : S := mkS 1 [(0, .cells true 124 [.int .u8 0, .int .u8 0, .int .u8 0, .int .u8 0, .int .u8 0, .int .u8 0, .int .u8 0, .int .u8 0, .int .u8 0, .int .u8 0, .int .u8 0, .int .u8 0, .int .u8 0, .int .u8 0, .int .u8 0, .int .u8 0, .int .u8 0, .int .u8 0, .int .u8 0, .int .u8 0, .int .u8 0, .int .u8 0, .int .u8 0, .int .u8 0])]
noncomputable def q59_9_2 (x15 : Nat) (x16 : Nat) (x18 : Nat) (x19 : Nat) (x21 : Nat) (x22 : Nat) (x24 : Nat) (x25 : Nat) (y20 : Nat) : S := mkS 1 [(0, .cells true 124 [.int .u8 0, .int .u8 (Int.ofNat y20), .int .u8 (Int.ofNat x25), .int .u8 (Int.ofNat x24), .int .u8 (Int.ofNat x22), .int .u8 (Int.ofNat x21), .int .u8 (Int.ofNat x19), .int .u8 (Int.ofNat x18), .int .u8 (Int.ofNat x16), .int .u8 (Int.ofNat x15), .int .u8 0, .int .u8 0, .int .u8 0, .int .u8 0, .int .u8 0, .int .u8 0, .int .u8 0, .int .u8 0, .int .u8 0, .int .u8 0, .int .u8 0, .int .u8 0, .int .u8 0, .int .u8 0])]
theorem w59_9_r0 (n : Nat) (rc rc1 : Rec) (y1 : Nat) (y2 : Nat) (y3 : Nat) (y4 : Nat) (y5 : Nat) (y6 : Nat) (y7 : Nat) (y8 : Nat) (y9 : Nat) (y10 : Nat) (y11 : Nat) (y12 : Nat) (y13 : Nat) (y14 : Nat) (x15 : Nat) (x16 : Nat) (y15 : Nat) (x18 : Nat) (x19 : Nat) (y16 : Nat) (x21 : Nat) (x22 : Nat) (y17 : Nat) (x24 : Nat) (x25 : Nat) (y18 : Nat) (y19 : Nat) (y20 : Nat) : (rc = recS E3 rc1) → (((Int.tmod (Int.ofNat n) 100000000)) = Int.ofNat y1) → ((wrap .u32 (Int.ofNat y1)) = Int.ofNat y2) → ((wrap .u64 (Int.tdiv (Int.ofNat n) 100000000)) = Int.ofNat y3) → ((wrap .u32 (Int.tdiv (Int.ofNat y2) 10000)) = Int.ofNat y4) → (((Int.tmod (Int.ofNat y2) 10000)) = Int.ofNat y5) → ((wrap .u32 (Int.tdiv (Int.ofNat y5) 100)) = Int.ofNat y6) → ((wrap .u32 ((Int.ofNat y6) * 2)) = Int.ofNat y7) → (((Int.tmod (Int.ofNat y5) 100)) = Int.ofNat y8) → ((wrap .u32 ((Int.ofNat y8) * 2)) = Int.ofNat y9) → ((wrap .u32 (Int.tdiv (Int.ofNat y4) 100)) = Int.ofNat y10) → ((wrap .u32 ((Int.ofNat y10) * 2)) = Int.ofNat y11) → (((Int.tmod (Int.ofNat y4) 100)) = Int.ofNat y12) → ((wrap .u32 ((Int.ofNat y12) * 2)) = Int.ofNat y13) → ((wrap .u32 ((Int.ofNat y9) + 1)) = Int.ofNat y14) → ((nth smallsL y14) = some x15) → ((nth smallsL y9) = some x16) → ((wrap .u32 ((Int.ofNat y7) + 1)) = Int.ofNat y15) → ((nth smallsL y15) = some x18) → ((nth smallsL y7) = some x19) → ((wrap .u32 ((Int.ofNat y13) + 1)) = Int.ofNat y16) → ((nth smallsL y16) = some x21) → ((nth smallsL y13) = some x22) → ((wrap .u32 ((Int.ofNat y11) + 1)) = Int.ofNat y17) → ((nth smallsL y17) = some x24) → ((nth smallsL y11) = some x25) → ((wrap .u32 (Int.ofNat y3)) = Int.ofNat y18) → ((wrap .u32 (48 + (Int.ofNat y18))) = Int.ofNat y19) → ((wrap .u8 (Int.ofNat y19)) = Int.ofNat y20) → doBody E3 rc 59 [.sl 0 1 9 1 (some 23), .int .u64 (Int.ofNat n)] false none q59_9_1 = .ret (.tup []) (q59_9_2 x15 x16 x18 x19 x21 x22 x24 x25 y20) false := by
  refine cast ?_ (doQ_ok E3 rc 59 [.sl 0 1 9 1 (some 23), .int .u64 (Int.ofNat n)] q59_9_1 [(3, .un [rc1]), (3, .nat y1), (0, .nat y2), (2, .nat y3), (2, .nat y4), (1, .nat y5), (3, .nat y6), (0, .nat y7), (1, .nat y8), (0, .nat y9), (3, .nat y10), (0, .nat y11), (1, .nat y12), (0, .nat y13), (9, .nat y14), (0, .ix x15), (1, .ix x16), (11, .nat y15), (0, .ix x18), (1, .ix x19), (11, .nat y16), (0, .ix x21), (1, .ix x22), (11, .nat y17), (0, .ix x24), (1, .ix x25), (10, .nat y18), (9, .nat y19), (0, .nat y20)]); kernel_rfl
theorem w40s_r0 (n : Nat) (r : List Nat) (rc : Rec) : ((leI 0 (Int.ofNat n)) = true) → ((!leI 100 (Int.ofNat n)) = true) → (rc.call 57 [.int .i64 (Int.ofNat n)] (mkS 0 []) = .ret (.str r) (mkS 0 []) false) → doBody E3 rc 40 [.int .i64 (Int.ofNat n), .int .i64 10] false none (mkS 0 []) = .ret (.str r) (mkS 0 []) false := by
  refine cast ?_ (doQ_ok E3 rc 40 [.int .i64 (Int.ofNat n), .int .i64 10] (mkS 0 []) [(4, .bl true), (2, .bl true), (2, .cl (.str r))]); kernel_rfl
noncomputable def q40_3_1  : S := mkS 1 [(0, .cells true 124 [.int .u8 0, .int .u8 0, .int .u8 0, .int .u8 0, .int .u8 0, .int .u8 0, .int .u8 0, .int .u8 0, .int .u8 0, .int .u8 0, .int .u8 0, .int .u8 0, .int .u8 0, .int .u8 0, .int .u8 0, .int .u8 0, .int .u8 0, .int .u8 0, .int .u8 0, .int .u8 0, .int .u8 0, .int .u8 0, .int .u8 0, .int .u8 0])]
noncomputable def q40_3_2 (z1 : Nat) (z2 : Nat) (z3 : Nat) : S := mkS 1 [(0, .cells true 124 [.int .u8 0, .int .u8 (Int.ofNat z1), .int .u8 (Int.ofNat z2), .int .u8 (Int.ofNat z3), .int .u8 0, .int .u8 0, .int .u8 0, .int .u8 0, .int .u8 0, .int .u8 0, .int .u8 0, .int .u8 0, .int .u8 0, .int .u8 0, .int .u8 0, .int .u8 0, .int .u8 0, .int .u8 0, .int .u8 0, .int .u8 0, .int .u8 0, .int .u8 0, .int .u8 0, .int .u8 0])]
theorem w40_3_r0 (n z1 z2 z3 : Nat) (rc : Rec) (y1 : Nat) : ((leI 0 (Int.ofNat n)) = true) → ((!leI 100 (Int.ofNat n)) = false) → ((wrap .u64 (Int.ofNat n)) = Int.ofNat y1) → ((!leI 0 (Int.ofNat n)) = false) → (rc.call 58 [.int .u64 (Int.ofNat y1)] q40_3_1 = .ret (.int .i64 3) q40_3_1 false) → (rc.call 59 [.sl 0 1 3 1 (some 23), .int .u64 (Int.ofNat y1)] q40_3_1 = .ret (.tup []) (q40_3_2 z1 z2 z3) false) → ((bytesOf [.int .u8 (Int.ofNat z1), .int .u8 (Int.ofNat z2), .int .u8 (Int.ofNat z3)]) = some [z1, z2, z3]) → doBody E3 rc 40 [.int .i64 (Int.ofNat n), .int .i64 10] false none (mkS 0 []) = .ret (.str [z1, z2, z3]) (q40_3_2 z1 z2 z3) false := by
  have h_ : (((leI 0 (Int.ofNat n)) = true) → ((!leI 100 (Int.ofNat n)) = false) → ((wrap .u64 (Int.ofNat n)) = Int.ofNat y1) → ((!leI 0 (Int.ofNat n)) = false) → (rc.call 58 [.int .u64 (Int.ofNat y1)] q40_3_1 = .ret (.int .i64 3) q40_3_1 false) → (rc.call 59 [.sl 0 1 3 1 (some 23), .int .u64 (Int.ofNat y1)] q40_3_1 = .ret (.tup []) (q40_3_2 z1 z2 z3) false) → ((!leI 0 (Int.ofNat n)) = false) → ((bytesOf [.int .u8 (Int.ofNat z1), .int .u8 (Int.ofNat z2), .int .u8 (Int.ofNat z3)]) = some [z1, z2, z3]) → doBody E3 rc 40 [.int .i64 (Int.ofNat n), .int .i64 10] false none (mkS 0 []) = .ret (.str [z1, z2, z3]) (q40_3_2 z1 z2 z3) false) := by refine cast ?_ (doQ_ok E3 rc 40 [.int .i64 (Int.ofNat n), .int .i64 10] (mkS 0 []) [(4, .bl true), (2, .bl false), (3, .nat y1), (2, .bl false), (1, .cl (.int .i64 3)), (5, .cs (.tup []) (q40_3_2 z1 z2 z3)), (1, .bl false), (3, .str [z1, z2, z3])]); kernel_rfl
  exact fun h_0 h_1 h_2 h_3 h_4 h_5 h_6 => h_ h_0 h_1 h_2 h_3 h_4 h_5 h_3 h_6
noncomputable def q40_4_1  : S := mkS 1 [(0, .cells true 124 [.int .u8 0, .int .u8 0, .int .u8 0, .int .u8 0, .int .u8 0, .int .u8 0, .int .u8 0, .int .u8 0, .int .u8 0, .int .u8 0, .int .u8 0, .int .u8 0, .int .u8 0, .int .u8 0, .int .u8 0, .int .u8 0, .int .u8 0, .int .u8 0, .int .u8 0, .int .u8 0, .int .u8 0, .int .u8 0, .int .u8 0, .int .u8 0])]
noncomputable def q40_4_2 (z1 : Nat) (z2 : Nat) (z3 : Nat) (z4 : Nat) : S := mkS 1 [(0, .cells true 124 [.int .u8 0, .int .u8 (Int.ofNat z1), .int .u8 (Int.ofNat z2), .int .u8 (Int.ofNat z3), .int .u8 (Int.ofNat z4), .int .u8 0, .int .u8 0, .int .u8 0, .int .u8 0, .int .u8 0, .int .u8 0, .int .u8 0, .int .u8 0, .int .u8 0, .int .u8 0, .int .u8 0, .int .u8 0, .int .u8 0, .int .u8 0, .int .u8 0, .int .u8 0, .int .u8 0, .int .u8 0, .int .u8 0])]
theorem w40_4_r0 (n z1 z2 z3 z4 : Nat) (rc : Rec) (y1 : Nat) : ((leI 0 (Int.ofNat n)) = true) → ((!leI 100 (Int.ofNat n)) = false) → ((wrap .u64 (Int.ofNat n)) = Int.ofNat y1) → ((!leI 0 (Int.ofNat n)) = false) → (rc.call 58 [.int .u64 (Int.ofNat y1)] q40_4_1 = .ret (.int .i64 4) q40_4_1 false) → (rc.call 59 [.sl 0 1 4 1 (some 23), .int .u64 (Int.ofNat y1)] q40_4_1 = .ret (.tup []) (q40_4_2 z1 z2 z3 z4) false) → ((bytesOf [.int .u8 (Int.ofNat z1), .int .u8 (Int.ofNat z2), .int .u8 (Int.ofNat z3), .int .u8 (Int.ofNat z4)]) = some [z1, z2, z3, z4]) → doBody E3 rc 40 [.int .i64 (Int.ofNat n), .int .i64 10] false none (mkS 0 []) = .ret (.str [z1, z2, z3, z4]) (q40_4_2 z1 z2 z3 z4) false := by
  have h_ : (((leI 0 (Int.ofNat n)) = true) → ((!leI 100 (Int.ofNat n)) = false) → ((wrap .u64 (Int.ofNat n)) = Int.ofNat y1) → ((!leI 0 (Int.ofNat n)) = false) → (rc.call 58 [.int .u64 (Int.ofNat y1)] q40_4_1 = .ret (.int .i64 4) q40_4_1 false) → (rc.call 59 [.sl 0 1 4 1 (some 23), .int .u64 (Int.ofNat y1)] q40_4_1 = .ret (.tup []) (q40_4_2 z1 z2 z3 z4) false) → ((!leI 0 (Int.ofNat n)) = false) → ((bytesOf [.int .u8 (Int.ofNat z1), .int .u8 (Int.ofNat z2), .int .u8 (Int.ofNat z3), .int .u8 (Int.ofNat z4)]) = some [z1, z2, z3, z4]) → doBody E3 rc 40 [.int .i64 (Int.ofNat n), .int .i64 10] false none (mkS 0 []) = .ret (.str [z1, z2, z3, z4]) (q40_4_2 z1 z2 z3 z4) false) := by refine cast ?_ (doQ_ok E3 rc 40 [.int .i64 (Int.ofNat n), .int .i64 10] (mkS 0 []) [(4, .bl true), (2, .bl false), (3, .nat y1), (2, .bl false), (1, .cl (.int .i64 4)), (5, .cs (.tup []) (q40_4_2 z1 z2 z3 z4)), (1, .bl false), (3, .str [z1, z2, z3, z4])]); kernel_rfl
  exact fun h_0 h_1 h_2 h_3 h_4 h_5 h_6 => h_ h_0 h_1 h_2 h_3 h_4 h_5 h_3 h_6
noncomputable def q40_5_1  : S := mkS 1 [(0, .cells true 124 [.int .u8 0, .int .u8 0, .int .u8 0, .int .u8 0, .int .u8 0, .int .u8 0, .int .u8 0, .int .u8 0, .int .u8 0, .int .u8 0, .int .u8 0, .int .u8 0, .int .u8 0, .int .u8 0, .int .u8 0, .int .u8 0, .int .u8 0, .int .u8 0, .int .u8 0, .int .u8 0, .int .u8 0, .int .u8 0, .int .u8 0, .int .u8 0])]
noncomputable def q40_5_2 (z1 : Nat) (z2 : Nat) (z3 : Nat) (z4 : Nat) (z5 : Nat) : S := mkS 1 [(0, .cells true 124 [.int .u8 0, .int .u8 (Int.ofNat z1), .int .u8 (Int.ofNat z2), .int .u8 (Int.ofNat z3), .int .u8 (Int.ofNat z4), .int .u8 (Int.ofNat z5), .int .u8 0, .int .u8 0, .int .u8 0, .int .u8 0, .int .u8 0, .int .u8 0, .int .u8 0, .int .u8 0, .int .u8 0, .int .u8 0, .int .u8 0, .int .u8 0, .int .u8 0, .int .u8 0, .int .u8 0, .int .u8 0, .int .u8 0, .int .u8 0])]
theorem w40_5_r0 (n z1 z2 z3 z4 z5 : Nat) (rc : Rec) (y1 : Nat) : ((leI 0 (Int.ofNat n)) = true) → ((!leI 100 (Int.ofNat n)) = false) → ((wrap .u64 (Int.ofNat n)) = Int.ofNat y1) → ((!leI 0 (Int.ofNat n)) = false) → (rc.call 58 [.int .u64 (Int.ofNat y1)] q40_5_1 = .ret (.int .i64 5) q40_5_1 false) → (rc.call 59 [.sl 0 1 5 1 (some 23), .int .u64 (Int.ofNat y1)] q40_5_1 = .ret (.tup []) (q40_5_2 z1 z2 z3 z4 z5) false) → ((bytesOf [.int .u8 (Int.ofNat z1), .int .u8 (Int.ofNat z2), .int .u8 (Int.ofNat z3), .int .u8 (Int.ofNat z4), .int .u8 (Int.ofNat z5)]) = some [z1, z2, z3, z4, z5]) → doBody E3 rc 40 [.int .i64 (Int.ofNat n), .int .i64 10] false none (mkS 0 []) = .ret (.str [z1, z2, z3, z4, z5]) (q40_5_2 z1 z2 z3 z4 z5) false := by
  have h_ : (((leI 0 (Int.ofNat n)) = true) → ((!leI 100 (Int.ofNat n)) = false) → ((wrap .u64 (Int.ofNat n)) = Int.ofNat y1) → ((!leI 0 (Int.ofNat n)) = false) → (rc.call 58 [.int .u64 (Int.ofNat y1)] q40_5_1 = .ret (.int .i64 5) q40_5_1 false) → (rc.call 59 [.sl 0 1 5 1 (some 23), .int .u64 (Int.ofNat y1)] q40_5_1 = .ret (.tup []) (q40_5_2 z1 z2 z3 z4 z5) false) → ((!leI 0 (Int.ofNat n)) = false) → ((bytesOf [.int .u8 (Int.ofNat z1), .int .u8 (Int.ofNat z2), .int .u8 (Int.ofNat z3), .int .u8 (Int.ofNat z4), .int .u8 (Int.ofNat z5)]) = some [z1, z2, z3, z4, z5]) → doBody E3 rc 40 [.int .i64 (Int.ofNat n), .int .i64 10] false none (mkS 0 []) = .ret (.str [z1, z2, z3, z4, z5]) (q40_5_2 z1 z2 z3 z4 z5) false) := by refine cast ?_ (doQ_ok E3 rc 40 [.int .i64 (Int.ofNat n), .int .i64 10] (mkS 0 []) [(4, .bl true), (2, .bl false), (3, .nat y1), (2, .bl false), (1, .cl (.int .i64 5)), (5, .cs (.tup []) (q40_5_2 z1 z2 z3 z4 z5)), (1, .bl false), (3, .str [z1, z2, z3, z4, z5])]); kernel_rfl
  exact fun h_0 h_1 h_2 h_3 h_4 h_5 h_6 => h_ h_0 h_1 h_2 h_3 h_4 h_5 h_3 h_6
noncomputable def q40_6_1  : S := mkS 1 [(0, .cells true 124 [.int .u8 0, .int .u8 0, .int .u8 0, .int .u8 0, .int .u8 0, .int .u8 0, .int .u8 0, .int .u8 0, .int .u8 0, .int .u8 0, .int .u8 0, .int .u8 0, .int .u8 0, .int .u8 0, .int .u8 0, .int .u8 0, .int .u8 0, .int .u8 0, .int .u8 0, .int .u8 0, .int .u8 0, .int .u8 0, .int .u8 0, .int .u8 0])]
noncomputable def q40_6_2 (z1 : Nat) (z2 : Nat) (z3 : Nat) (z4 : Nat) (z5 : Nat) (z6 : Nat) : S := mkS 1 [(0, .cells true 124 [.int .u8 0, .int .u8 (Int.ofNat z1), .int .u8 (Int.ofNat z2), .int .u8 (Int.ofNat z3), .int .u8 (Int.ofNat z4), .int .u8 (Int.ofNat z5), .int .u8 (Int.ofNat z6), .int .u8 0, .int .u8 0, .int .u8 0, .int .u8 0, .int .u8 0, .int .u8 0, .int .u8 0, .int .u8 0, .int .u8 0, .int .u8 0, .int .u8 0, .int .u8 0, .int .u8 0, .int .u8 0, .int .u8 0, .int .u8 0, .int .u8 0])]
theorem w40_6_r0 (n z1 z2 z3 z4 z5 z6 : Nat) (rc : Rec) (y1 : Nat) : ((leI 0 (Int.ofNat n)) = true) → ((!leI 100 (Int.ofNat n)) = false) → ((wrap .u64 (Int.ofNat n)) = Int.ofNat y1) → ((!leI 0 (Int.ofNat n)) = false) → (rc.call 58 [.int .u64 (Int.ofNat y1)] q40_6_1 = .ret (.int .i64 6) q40_6_1 false) → (rc.call 59 [.sl 0 1 6 1 (some 23), .int .u64 (Int.ofNat y1)] q40_6_1 = .ret (.tup []) (q40_6_2 z1 z2 z3 z4 z5 z6) false) → ((bytesOf [.int .u8 (Int.ofNat z1), .int .u8 (Int.ofNat z2), .int .u8 (Int.ofNat z3), .int .u8 (Int.ofNat z4), .int .u8 (Int.ofNat z5), .int .u8 (Int.ofNat z6)]) = some [z1, z2, z3, z4, z5, z6]) → doBody E3 rc 40 [.int .i64 (Int.ofNat n), .int .i64 10] false none (mkS 0 []) = .ret (.str [z1, z2, z3, z4, z5, z6]) (q40_6_2 z1 z2 z3 z4 z5 z6) false := by
  have h_ : (((leI 0 (Int.ofNat n)) = true) → ((!leI 100 (Int.ofNat n)) = false) → ((wrap .u64 (Int.ofNat n)) = Int.ofNat y1) → ((!leI 0 (Int.ofNat n)) = false) → (rc.call 58 [.int .u64 (Int.ofNat y1)] q40_6_1 = .ret (.int .i64 6) q40_6_1 false) → (rc.call 59 [.sl 0 1 6 1 (some 23), .int .u64 (Int.ofNat y1)] q40_6_1 = .ret (.tup []) (q40_6_2 z1 z2 z3 z4 z5 z6) false) → ((!leI 0 (Int.ofNat n)) = false) → ((bytesOf [.int .u8 (Int.ofNat z1), .int .u8 (Int.ofNat z2), .int .u8 (Int.ofNat z3), .int .u8 (Int.ofNat z4), .int .u8 (Int.ofNat z5), .int .u8 (Int.ofNat z6)]) = some [z1, z2, z3, z4, z5, z6]) → doBody E3 rc 40 [.int .i64 (Int.ofNat n), .int .i64 10] false none (mkS 0 []) = .ret (.str [z1, z2, z3, z4, z5, z6]) (q40_6_2 z1 z2 z3 z4 z5 z6) false) := by refine cast ?_ (doQ_ok E3 rc 40 [.int .i64 (Int.ofNat n), .int .i64 10] (mkS 0 []) [(4, .bl true), (2, .bl false), (3, .nat y1), (2, .bl false), (1, .cl (.int .i64 6)), (5, .cs (.tup []) (q40_6_2 z1 z2 z3 z4 z5 z6)), (1, .bl false), (3, .str [z1, z2, z3, z4, z5, z6])]); kernel_rfl
  exact fun h_0 h_1 h_2 h_3 h_4 h_5 h_6 => h_ h_0 h_1 h_2 h_3 h_4 h_5 h_3 h_6
noncomputable def q40_7_1  : S := mkS 1 [(0, .cells true 124 [.int .u8 0, .int .u8 0, .int .u8 0, .int .u8 0, .int .u8 0, .int .u8 0, .int .u8 0, .int .u8 0, .int .u8 0, .int .u8 0, .int .u8 0, .int .u8 0, .int .u8 0, .int .u8 0, .int .u8 0, .int .u8 0, .int .u8 0, .int .u8 0, .int .u8 0, .int .u8 0, .int .u8 0, .int .u8 0, .int .u8 0, .int .u8 0])]
noncomputable def q40_7_2 (z1 : Nat) (z2 : Nat) (z3 : Nat) (z4 : Nat) (z5 : Nat) (z6 : Nat) (z7 : Nat) : S := mkS 1 [(0, .cells true 124 [.int .u8 0, .int .u8 (Int.ofNat z1), .int .u8 (Int.ofNat z2), .int .u8 (Int.ofNat z3), .int .u8 (Int.ofNat z4), .int .u8 (Int.ofNat z5), .int .u8 (Int.ofNat z6), .int .u8 (Int.ofNat z7), .int .u8 0, .int .u8 0, .int .u8 0, .int .u8 0, .int .u8 0, .int .u8 0, .int .u8 0, .int .u8 0, .int .u8 0, .int .u8 0, .int .u8 0, .int .u8 0, .int .u8 0, .int .u8 0, .int .u8 0, .int .u8 0])]
theorem w40_7_r0 (n z1 z2 z3 z4 z5 z6 z7 : Nat) (rc : Rec) (y1 : Nat) : ((leI 0 (Int.ofNat n)) = true) → ((!leI 100 (Int.ofNat n)) = false) → ((wrap .u64 (Int.ofNat n)) = Int.ofNat y1) → ((!leI 0 (Int.ofNat n)) = false) → (rc.call 58 [.int .u64 (Int.ofNat y1)] q40_7_1 = .ret (.int .i64 7) q40_7_1 false) → (rc.call 59 [.sl 0 1 7 1 (some 23), .int .u64 (Int.ofNat y1)] q40_7_1 = .ret (.tup []) (q40_7_2 z1 z2 z3 z4 z5 z6 z7) false) → ((bytesOf [.int .u8 (Int.ofNat z1), .int .u8 (Int.ofNat z2), .int .u8 (Int.ofNat z3), .int .u8 (Int.ofNat z4), .int .u8 (Int.ofNat z5), .int .u8 (Int.ofNat z6), .int .u8 (Int.ofNat z7)]) = some [z1, z2, z3, z4, z5, z6, z7]) → doBody E3 rc 40 [.int .i64 (Int.ofNat n), .int .i64 10] false none (mkS 0 []) = .ret (.str [z1, z2, z3, z4, z5, z6, z7]) (q40_7_2 z1 z2 z3 z4 z5 z6 z7) false := by
  have h_ : (((leI 0 (Int.ofNat n)) = true) → ((!leI 100 (Int.ofNat n)) = false) → ((wrap .u64 (Int.ofNat n)) = Int.ofNat y1) → ((!leI 0 (Int.ofNat n)) = false) → (rc.call 58 [.int .u64 (Int.ofNat y1)] q40_7_1 = .ret (.int .i64 7) q40_7_1 false) → (rc.call 59 [.sl 0 1 7 1 (some 23), .int .u64 (Int.ofNat y1)] q40_7_1 = .ret (.tup []) (q40_7_2 z1 z2 z3 z4 z5 z6 z7) false) → ((!leI 0 (Int.ofNat n)) = false) → ((bytesOf [.int .u8 (Int.ofNat z1), .int .u8 (Int.ofNat z2), .int .u8 (Int.ofNat z3), .int .u8 (Int.ofNat z4), .int .u8 (Int.ofNat z5), .int .u8 (Int.ofNat z6), .int .u8 (Int.ofNat z7)]) = some [z1, z2, z3, z4, z5, z6, z7]) → doBody E3 rc 40 [.int .i64 (Int.ofNat n), .int .i64 10] false none (mkS 0 []) = .ret (.str [z1, z2, z3, z4, z5, z6, z7]) (q40_7_2 z1 z2 z3 z4 z5 z6 z7) false) := by refine cast ?_ (doQ_ok E3 rc 40 [.int .i64 (Int.ofNat n), .int .i64 10] (mkS 0 []) [(4, .bl true), (2, .bl false), (3, .nat y1), (2, .bl false), (1, .cl (.int .i64 7)), (5, .cs (.tup []) (q40_7_2 z1 z2 z3 z4 z5 z6 z7)), (1, .bl false), (3, .str [z1, z2, z3, z4, z5, z6, z7])]); kernel_rfl
  exact fun h_0 h_1 h_2 h_3 h_4 h_5 h_6 => h_ h_0 h_1 h_2 h_3 h_4 h_5 h_3 h_6
noncomputable def q40_8_1  : S := mkS 1 [(0, .cells true 124 [.int .u8 0, .int .u8 0, .int .u8 0, .int .u8 0, .int .u8 0, .int .u8 0, .int .u8 0, .int .u8 0, .int .u8 0, .int .u8 0, .int .u8 0, .int .u8 0, .int .u8 0, .int .u8 0, .int .u8 0, .int .u8 0, .int .u8 0, .int .u8 0, .int .u8 0, .int .u8 0, .int .u8 0, .int .u8 0, .int .u8 0, .int .u8 0])]
noncomputable def q40_8_2 (z1 : Nat) (z2 : Nat) (z3 : Nat) (z4 : Nat) (z5 : Nat) (z6 : Nat) (z7 : Nat) (z8 : Nat) : S := mkS 1 [(0, .cells true 124 [.int .u8 0, .int .u8 (Int.ofNat z1), .int .u8 (Int.ofNat z2), .int .u8 (Int.ofNat z3), .int .u8 (Int.ofNat z4), .int .u8 (Int.ofNat z5), .int .u8 (Int.ofNat z6), .int .u8 (Int.ofNat z7), .int .u8 (Int.ofNat z8), .int .u8 0, .int .u8 0, .int .u8 0, .int .u8 0, .int .u8 0, .int .u8 0, .int .u8 0, .int .u8 0, .int .u8 0, .int .u8 0, .int .u8 0, .int .u8 0, .int .u8 0, .int .u8 0, .int .u8 0])]
theorem w40_8_r0 (n z1 z2 z3 z4 z5 z6 z7 z8 : Nat) (rc : Rec) (y1 : Nat) : ((leI 0 (Int.ofNat n)) = true) → ((!leI 100 (Int.ofNat n)) = false) → ((wrap .u64 (Int.ofNat n)) = Int.ofNat y1) → ((!leI 0 (Int.ofNat n)) = false) → (rc.call 58 [.int .u64 (Int.ofNat y1)] q40_8_1 = .ret (.int .i64 8) q40_8_1 false) → (rc.call 59 [.sl 0 1 8 1 (some 23), .int .u64 (Int.ofNat y1)] q40_8_1 = .ret (.tup []) (q40_8_2 z1 z2 z3 z4 z5 z6 z7 z8) false) → ((bytesOf [.int .u8 (Int.ofNat z1), .int .u8 (Int.ofNat z2), .int .u8 (Int.ofNat z3), .int .u8 (Int.ofNat z4), .int .u8 (Int.ofNat z5), .int .u8 (Int.ofNat z6), .int .u8 (Int.ofNat z7), .int .u8 (Int.ofNat z8)]) = some [z1, z2, z3, z4, z5, z6, z7, z8]) → doBody E3 rc 40 [.int .i64 (Int.ofNat n), .int .i64 10] false none (mkS 0 []) = .ret (.str [z1, z2, z3, z4, z5, z6, z7, z8]) (q40_8_2 z1 z2 z3 z4 z5 z6 z7 z8) false := by
  have h_ : (((leI 0 (Int.ofNat n)) = true) → ((!leI 100 (Int.ofNat n)) = false) → ((wrap .u64 (Int.ofNat n)) = Int.ofNat y1) → ((!leI 0 (Int.ofNat n)) = false) → (rc.call 58 [.int .u64 (Int.ofNat y1)] q40_8_1 = .ret (.int .i64 8) q40_8_1 false) → (rc.call 59 [.sl 0 1 8 1 (some 23), .int .u64 (Int.ofNat y1)] q40_8_1 = .ret (.tup []) (q40_8_2 z1 z2 z3 z4 z5 z6 z7 z8) false) → ((!leI 0 (Int.ofNat n)) = false) → ((bytesOf [.int .u8 (Int.ofNat z1), .int .u8 (Int.ofNat z2), .int .u8 (Int.ofNat z3), .int .u8 (Int.ofNat z4), .int .u8 (Int.ofNat z5), .int .u8 (Int.ofNat z6), .int .u8 (Int.ofNat z7), .int .u8 (Int.ofNat z8)]) = some [z1, z2, z3, z4, z5, z6, z7, z8]) → doBody E3 rc 40 [.int .i64 (Int.ofNat n), .int .i64 10] false none (mkS 0 []) = .ret (.str [z1, z2, z3, z4, z5, z6, z7, z8]) (q40_8_2 z1 z2 z3 z4 z5 z6 z7 z8) false) := by refine cast ?_ (doQ_ok E3 rc 40 [.int .i64 (Int.ofNat n), .int .i64 10] (mkS 0 []) [(4, .bl true), (2, .bl false), (3, .nat y1), (2, .bl false), (1, .cl (.int .i64 8)), (5, .cs (.tup []) (q40_8_2 z1 z2 z3 z4 z5 z6 z7 z8)), (1, .bl false), (3, .str [z1, z2, z3, z4, z5, z6, z7, z8])]); kernel_rfl
  exact fun h_0 h_1 h_2 h_3 h_4 h_5 h_6 => h_ h_0 h_1 h_2 h_3 h_4 h_5 h_3 h_6
noncomputable def q40_9_1  : S := mkS 1 [(0, .cells true 124 [.int .u8 0, .int .u8 0, .int .u8 0, .int .u8 0, .int .u8 0, .int .u8 0, .int .u8 0, .int .u8 0, .int .u8 0, .int .u8 0, .int .u8 0, .int .u8 0, .int .u8 0, .int .u8 0, .int .u8 0, .int .u8 0, .int .u8 0, .int .u8 0, .int .u8 0, .int .u8 0, .int .u8 0, .int .u8 0, .int .u8 0, .int .u8 0])]
noncomputable def q40_9_2 (z1 : Nat) (z2 : Nat) (z3 : Nat) (z4 : Nat) (z5 : Nat) (z6 : Nat) (z7 : Nat) (z8 : Nat) (z9 : Nat) : S := mkS 1 [(0, .cells true 124 [.int .u8 0, .int .u8 (Int.ofNat z1), .int .u8 (Int.ofNat z2), .int .u8 (Int.ofNat z3), .int .u8 (Int.ofNat z4), .int .u8 (Int.ofNat z5), .int .u8 (Int.ofNat z6), .int .u8 (Int.ofNat z7), .int .u8 (Int.ofNat z8), .int .u8 (Int.ofNat z9), .int .u8 0, .int .u8 0, .int .u8 0, .int .u8 0, .int .u8 0, .int .u8 0, .int .u8 0, .int .u8 0, .int .u8 0, .int .u8 0, .int .u8 0, .int .u8 0, .int .u8 0, .int .u8 0])]
theorem w40_9_r0 (n z1 z2 z3 z4 z5 z6 z7 z8 z9 : Nat) (rc : Rec) (y1 : Nat) : ((leI 0 (Int.ofNat n)) = true) → ((!leI 100 (Int.ofNat n)) = false) → ((wrap .u64 (Int.ofNat n)) = Int.ofNat y1) → ((!leI 0 (Int.ofNat n)) = false) → (rc.call 58 [.int .u64 (Int.ofNat y1)] q40_9_1 = .ret (.int .i64 9) q40_9_1 false) → (rc.call 59 [.sl 0 1 9 1 (some 23), .int .u64 (Int.ofNat y1)] q40_9_1 = .ret (.tup []) (q40_9_2 z1 z2 z3 z4 z5 z6 z7 z8 z9) false) → ((bytesOf [.int .u8 (Int.ofNat z1), .int .u8 (Int.ofNat z2), .int .u8 (Int.ofNat z3), .int .u8 (Int.ofNat z4), .int .u8 (Int.ofNat z5), .int .u8 (Int.ofNat z6), .int .u8 (Int.ofNat z7), .int .u8 (Int.ofNat z8), .int .u8 (Int.ofNat z9)]) = some [z1, z2, z3, z4, z5, z6, z7, z8, z9]) → doBody E3 rc 40 [.int .i64 (Int.ofNat n), .int .i64 10] false none (mkS 0 []) = .ret (.str [z1, z2, z3, z4, z5, z6, z7, z8, z9]) (q40_9_2 z1 z2 z3 z4 z5 z6 z7 z8 z9) false := by
  have h_ : (((leI 0 (Int.ofNat n)) = true) → ((!leI 100 (Int.ofNat n)) = false) → ((wrap .u64 (Int.ofNat n)) = Int.ofNat y1) → ((!leI 0 (Int.ofNat n)) = false) → (rc.call 58 [.int .u64 (Int.ofNat y1)] q40_9_1 = .ret (.int .i64 9) q40_9_1 false) → (rc.call 59 [.sl 0 1 9 1 (some 23), .int .u64 (Int.ofNat y1)] q40_9_1 = .ret (.tup []) (q40_9_2 z1 z2 z3 z4 z5 z6 z7 z8 z9) false) → ((!leI 0 (Int.ofNat n)) = false) → ((bytesOf [.int .u8 (Int.ofNat z1), .int .u8 (Int.ofNat z2), .int .u8 (Int.ofNat z3), .int .u8 (Int.ofNat z4), .int .u8 (Int.ofNat z5), .int .u8 (Int.ofNat z6), .int .u8 (Int.ofNat z7), .int .u8 (Int.ofNat z8), .int .u8 (Int.ofNat z9)]) = some [z1, z2, z3, z4, z5, z6, z7, z8, z9]) → doBody E3 rc 40 [.int .i64 (Int.ofNat n), .int .i64 10] false none (mkS 0 []) = .ret (.str [z1, z2, z3, z4, z5, z6, z7, z8, z9]) (q40_9_2 z1 z2 z3 z4 z5 z6 z7 z8 z9) false) := by refine cast ?_ (doQ_ok E3 rc 40 [.int .i64 (Int.ofNat n), .int .i64 10] (mkS 0 []) [(4, .bl true), (2, .bl false), (3, .nat y1), (2, .bl false), (1, .cl (.int .i64 9)), (5, .cs (.tup []) (q40_9_2 z1 z2 z3 z4 z5 z6 z7 z8 z9)), (1, .bl false), (3, .str [z1, z2, z3, z4, z5, z6, z7, z8, z9])]); kernel_rfl
  exact fun h_0 h_1 h_2 h_3 h_4 h_5 h_6 => h_ h_0 h_1 h_2 h_3 h_4 h_5 h_3 h_6
theorem w22_r0 (n : Nat) (r : List Nat) (rc : Rec) (s s2 : S) : (rc.call 40 [.int .i64 (Int.ofNat n), .int .i64 10] s = .ret (.str r) s2 false) → doBody E3 rc 22 [.int .i64 (Int.ofNat n)] false none s = .ret (.str r) s2 false := by
  refine cast ?_ (doQ_ok E3 rc 22 [.int .i64 (Int.ofNat n)] s [(2, .cs (.str r) s2)]); kernel_rfl
theorem w12_r0 (n : Nat) (r : List Nat) (rc : Rec) (s s2 : S) : (rc.call 22 [.int .i64 (Int.ofNat n)] s = .ret (.str r) s2 false) → doBody E3 rc 12 [.int .i64 (Int.ofNat n)] false none s = .ret (.str r) s2 false := by
  refine cast ?_ (doQ_ok E3 rc 12 [.int .i64 (Int.ofNat n)] s [(2, .cs (.str r) s2)]); kernel_rfl
end
end Go.AM.S40.Sy
end
section
/- strconv.Itoa, whole. -/
set_option maxRecDepth 100000
namespace Go.AM.S40.Sy
open Go Go.Proofs
noncomputable section
theorem wr8 {m : Nat} (h : m < 256) : wrap .u8 (Int.ofNat m) = Int.ofNat m := wrap_u8 h
theorem wr32 {m : Nat} (h : m < 4294967296) : wrap .u32 (Int.ofNat m) = Int.ofNat m := by
  rw [wrap_eq]
  have h1 : (Int.ofNat m : Int) = (m : Int) := rfl
  rw [h1]
  simp [IntKind.wrap, IntKind.signed, IntKind.bits]
  omega
theorem wr64 {m : Nat} (h : m < 18446744073709551616) : wrap .u64 (Int.ofNat m) = Int.ofNat m := by
  rw [wrap_eq]
  have h1 : (Int.ofNat m : Int) = (m : Int) := rfl
  rw [h1]
  simp [IntKind.wrap, IntKind.signed, IntKind.bits]
  omega
theorem sm_all : (List.range 100).all (fun k => (match nth smallsL (k * 2) with | some x => Nat.beq x (48 + k / 10) | none => false) && (match nth smallsL (k * 2 + 1) with | some x => Nat.beq x (48 + k % 10) | none => false)) = true := by kernel_rfl
theorem sm_at {k : Nat} (h : k < 100) : nth smallsL (k * 2) = some (48 + k / 10) ∧ nth smallsL (k * 2 + 1) = some (48 + k % 10) := by
  have := List.all_eq_true.1 sm_all k (List.mem_range.2 h)
  rw [Bool.and_eq_true] at this
  obtain ⟨h1, h2⟩ := this
  refine ⟨?_, ?_⟩
  · cases h3 : nth smallsL (k * 2) with
    | none => rw [h3] at h1; cases h1
    | some x => rw [h3] at h1; rw [Nat.eq_of_beq_eq_true h1]
  · cases h3 : nth smallsL (k * 2 + 1) with
    | none => rw [h3] at h2; cases h2
    | some x => rw [h3] at h2; rw [Nat.eq_of_beq_eq_true h2]
theorem nn_le (n : Nat) : leI 0 (Int.ofNat n) = true := by rw [leI_eq]; exact decide_eq_true (Int.natCast_nonneg n)
theorem nn_lt (n : Nat) : (!leI 0 (Int.ofNat n)) = false := by rw [nn_le]; rfl
theorem bytes_cons {x : Nat} {l : List V} {r : List Nat} (h : x < 256) (t : bytesOf l = some r) : bytesOf (.int .u8 (Int.ofNat x) :: l) = some (x :: r) := by
  show consO (boolC (Nat.blt x 256) none (some x)) (bytesOf l) = _
  rw [t, show Nat.blt x 256 = true from by rw [Nat.blt_eq]; exact h]; rfl
theorem v59_3 (n : Nat) (hn : n < 1000) (rc : Rec) : doBody E3 (recS E3 rc) 59 [.sl 0 1 3 1 (some 23), .int .u64 (Int.ofNat n)] false none q40_3_1 = .ret (.tup []) (q40_3_2 (48 + (n / 100)) (48 + (n % 100) / 10) (48 + (n % 100) % 10)) false :=
  w59_3_r0 n (recS E3 rc) rc n (n % 100) ((n % 100) * 2) (n / 100) ((n % 100) * 2 + 1) (48 + (n % 100) % 10) (48 + (n % 100) / 10) (48 + (n / 100)) (48 + (n / 100)) (wr32 (m := n) (by omega)) rfl (wr32 (m := ((n % 100) * 2)) (by omega)) (wr32 (m := (n / 100)) (by omega)) (wr32 (m := ((n % 100) * 2 + 1)) (by omega)) (sm_at (k := (n % 100)) (by omega)).2 (sm_at (k := (n % 100)) (by omega)).1 (wr32 (m := (48 + (n / 100))) (by omega)) (wr8 (m := (48 + (n / 100))) (by omega))
theorem v40_3 (n : Nat) (h1 : 100 ≤ n) (h2 : n < 1000) (rc : Rec) (hc : rc.call 58 [.int .u64 (Int.ofNat n)] q40_3_1 = .ret (.int .i64 3) q40_3_1 false) (rc' : Rec) (hf : ∀ a s, rc.call 59 a s = doBody E3 (recS E3 rc') 59 a false none s) : ∃ s1, doBody E3 rc 40 [.int .i64 (Int.ofNat n), .int .i64 10] false none (mkS 0 []) = .ret (.str (decN n)) s1 false := by
  have hd : decN n = [(48 + (n / 100)), (48 + (n % 100) / 10), (48 + (n % 100) % 10)] := by
    rw [decN_big (show ¬ n < 10 by omega)]
    rw [decN_big (show ¬ n / 10 < 10 by omega)]
    rw [decN_small (show n / 10 / 10 < 10 by omega)]
    simp only [List.cons_append, List.nil_append, List.cons.injEq, and_true]
    omega
  rw [hd]
  exact ⟨_, w40_3_r0 n (48 + (n / 100)) (48 + (n % 100) / 10) (48 + (n % 100) % 10) rc n (nn_le n) (lt_false (n := 100) (by omega)) (wr64 (by omega)) (nn_lt n) hc ((hf _ _).trans (v59_3 n h2 _)) (bytes_cons (by omega) (bytes_cons (by omega) (bytes_cons (by omega) rfl)))⟩
theorem v59_4 (n : Nat) (hn : n < 10000) (rc : Rec) : doBody E3 (recS E3 rc) 59 [.sl 0 1 4 1 (some 23), .int .u64 (Int.ofNat n)] false none q40_4_1 = .ret (.tup []) (q40_4_2 (48 + ((n % 10000) / 100) / 10) (48 + ((n % 10000) / 100) % 10) (48 + ((n % 10000) % 100) / 10) (48 + ((n % 10000) % 100) % 10)) false :=
  w59_4_r0 n (recS E3 rc) rc n (n % 10000) (n / 10000) ((n % 10000) / 100) (((n % 10000) / 100) * 2) ((n % 10000) % 100) (((n % 10000) % 100) * 2) (((n % 10000) % 100) * 2 + 1) (48 + ((n % 10000) % 100) % 10) (48 + ((n % 10000) % 100) / 10) (((n % 10000) / 100) * 2 + 1) (48 + ((n % 10000) / 100) % 10) (48 + ((n % 10000) / 100) / 10) (wr32 (m := n) (by omega)) rfl (wr32 (m := (n / 10000)) (by omega)) (wr32 (m := ((n % 10000) / 100)) (by omega)) (wr32 (m := (((n % 10000) / 100) * 2)) (by omega)) rfl (wr32 (m := (((n % 10000) % 100) * 2)) (by omega)) (wr32 (m := (((n % 10000) % 100) * 2 + 1)) (by omega)) (sm_at (k := ((n % 10000) % 100)) (by omega)).2 (sm_at (k := ((n % 10000) % 100)) (by omega)).1 (wr32 (m := (((n % 10000) / 100) * 2 + 1)) (by omega)) (sm_at (k := ((n % 10000) / 100)) (by omega)).2 (sm_at (k := ((n % 10000) / 100)) (by omega)).1
theorem v40_4 (n : Nat) (h1 : 1000 ≤ n) (h2 : n < 10000) (rc : Rec) (hc : rc.call 58 [.int .u64 (Int.ofNat n)] q40_4_1 = .ret (.int .i64 4) q40_4_1 false) (rc' : Rec) (hf : ∀ a s, rc.call 59 a s = doBody E3 (recS E3 rc') 59 a false none s) : ∃ s1, doBody E3 rc 40 [.int .i64 (Int.ofNat n), .int .i64 10] false none (mkS 0 []) = .ret (.str (decN n)) s1 false := by
  have hd : decN n = [(48 + ((n % 10000) / 100) / 10), (48 + ((n % 10000) / 100) % 10), (48 + ((n % 10000) % 100) / 10), (48 + ((n % 10000) % 100) % 10)] := by
    rw [decN_big (show ¬ n < 10 by omega)]
    rw [decN_big (show ¬ n / 10 < 10 by omega)]
    rw [decN_big (show ¬ n / 10 / 10 < 10 by omega)]
    rw [decN_small (show n / 10 / 10 / 10 < 10 by omega)]
    simp only [List.cons_append, List.nil_append, List.cons.injEq, and_true]
    omega
  rw [hd]
  exact ⟨_, w40_4_r0 n (48 + ((n % 10000) / 100) / 10) (48 + ((n % 10000) / 100) % 10) (48 + ((n % 10000) % 100) / 10) (48 + ((n % 10000) % 100) % 10) rc n (nn_le n) (lt_false (n := 100) (by omega)) (wr64 (by omega)) (nn_lt n) hc ((hf _ _).trans (v59_4 n h2 _)) (bytes_cons (by omega) (bytes_cons (by omega) (bytes_cons (by omega) (bytes_cons (by omega) rfl))))⟩
theorem v59_5 (n : Nat) (hn : n < 100000) (rc : Rec) : doBody E3 (recS E3 rc) 59 [.sl 0 1 5 1 (some 23), .int .u64 (Int.ofNat n)] false none q40_5_1 = .ret (.tup []) (q40_5_2 (48 + (n / 10000)) (48 + ((n % 10000) / 100) / 10) (48 + ((n % 10000) / 100) % 10) (48 + ((n % 10000) % 100) / 10) (48 + ((n % 10000) % 100) % 10)) false :=
  w59_5_r0 n (recS E3 rc) rc n (n % 10000) (n / 10000) ((n % 10000) / 100) (((n % 10000) / 100) * 2) ((n % 10000) % 100) (((n % 10000) % 100) * 2) (((n % 10000) % 100) * 2 + 1) (48 + ((n % 10000) % 100) % 10) (48 + ((n % 10000) % 100) / 10) (((n % 10000) / 100) * 2 + 1) (48 + ((n % 10000) / 100) % 10) (48 + ((n % 10000) / 100) / 10) (48 + (n / 10000)) (48 + (n / 10000)) (wr32 (m := n) (by omega)) rfl (wr32 (m := (n / 10000)) (by omega)) (wr32 (m := ((n % 10000) / 100)) (by omega)) (wr32 (m := (((n % 10000) / 100) * 2)) (by omega)) rfl (wr32 (m := (((n % 10000) % 100) * 2)) (by omega)) (wr32 (m := (((n % 10000) % 100) * 2 + 1)) (by omega)) (sm_at (k := ((n % 10000) % 100)) (by omega)).2 (sm_at (k := ((n % 10000) % 100)) (by omega)).1 (wr32 (m := (((n % 10000) / 100) * 2 + 1)) (by omega)) (sm_at (k := ((n % 10000) / 100)) (by omega)).2 (sm_at (k := ((n % 10000) / 100)) (by omega)).1 (wr32 (m := (48 + (n / 10000))) (by omega)) (wr8 (m := (48 + (n / 10000))) (by omega))
theorem v40_5 (n : Nat) (h1 : 10000 ≤ n) (h2 : n < 100000) (rc : Rec) (hc : rc.call 58 [.int .u64 (Int.ofNat n)] q40_5_1 = .ret (.int .i64 5) q40_5_1 false) (rc' : Rec) (hf : ∀ a s, rc.call 59 a s = doBody E3 (recS E3 rc') 59 a false none s) : ∃ s1, doBody E3 rc 40 [.int .i64 (Int.ofNat n), .int .i64 10] false none (mkS 0 []) = .ret (.str (decN n)) s1 false := by
  have hd : decN n = [(48 + (n / 10000)), (48 + ((n % 10000) / 100) / 10), (48 + ((n % 10000) / 100) % 10), (48 + ((n % 10000) % 100) / 10), (48 + ((n % 10000) % 100) % 10)] := by
    rw [decN_big (show ¬ n < 10 by omega)]
    rw [decN_big (show ¬ n / 10 < 10 by omega)]
    rw [decN_big (show ¬ n / 10 / 10 < 10 by omega)]
    rw [decN_big (show ¬ n / 10 / 10 / 10 < 10 by omega)]
    rw [decN_small (show n / 10 / 10 / 10 / 10 < 10 by omega)]
    simp only [List.cons_append, List.nil_append, List.cons.injEq, and_true]
    omega
  rw [hd]
  exact ⟨_, w40_5_r0 n (48 + (n / 10000)) (48 + ((n % 10000) / 100) / 10) (48 + ((n % 10000) / 100) % 10) (48 + ((n % 10000) % 100) / 10) (48 + ((n % 10000) % 100) % 10) rc n (nn_le n) (lt_false (n := 100) (by omega)) (wr64 (by omega)) (nn_lt n) hc ((hf _ _).trans (v59_5 n h2 _)) (bytes_cons (by omega) (bytes_cons (by omega) (bytes_cons (by omega) (bytes_cons (by omega) (bytes_cons (by omega) rfl)))))⟩
theorem v59_6 (n : Nat) (hn : n < 1000000) (rc : Rec) : doBody E3 (recS E3 rc) 59 [.sl 0 1 6 1 (some 23), .int .u64 (Int.ofNat n)] false none q40_6_1 = .ret (.tup []) (q40_6_2 (48 + ((n / 10000) % 100) / 10) (48 + ((n / 10000) % 100) % 10) (48 + ((n % 10000) / 100) / 10) (48 + ((n % 10000) / 100) % 10) (48 + ((n % 10000) % 100) / 10) (48 + ((n % 10000) % 100) % 10)) false :=
  w59_6_r0 n (recS E3 rc) rc n (n % 10000) (n / 10000) ((n % 10000) / 100) (((n % 10000) / 100) * 2) ((n % 10000) % 100) (((n % 10000) % 100) * 2) (((n % 10000) % 100) * 2 + 1) (48 + ((n % 10000) % 100) % 10) (48 + ((n % 10000) % 100) / 10) (((n % 10000) / 100) * 2 + 1) (48 + ((n % 10000) / 100) % 10) (48 + ((n % 10000) / 100) / 10) ((n / 10000) % 100) (((n / 10000) % 100) * 2) ((n / 10000) / 100) (((n / 10000) % 100) * 2 + 1) (48 + ((n / 10000) % 100) % 10) (48 + ((n / 10000) % 100) / 10) (wr32 (m := n) (by omega)) rfl (wr32 (m := (n / 10000)) (by omega)) (wr32 (m := ((n % 10000) / 100)) (by omega)) (wr32 (m := (((n % 10000) / 100) * 2)) (by omega)) rfl (wr32 (m := (((n % 10000) % 100) * 2)) (by omega)) (wr32 (m := (((n % 10000) % 100) * 2 + 1)) (by omega)) (sm_at (k := ((n % 10000) % 100)) (by omega)).2 (sm_at (k := ((n % 10000) % 100)) (by omega)).1 (wr32 (m := (((n % 10000) / 100) * 2 + 1)) (by omega)) (sm_at (k := ((n % 10000) / 100)) (by omega)).2 (sm_at (k := ((n % 10000) / 100)) (by omega)).1 rfl (wr32 (m := (((n / 10000) % 100) * 2)) (by omega)) (wr32 (m := ((n / 10000) / 100)) (by omega)) (wr32 (m := (((n / 10000) % 100) * 2 + 1)) (by omega)) (sm_at (k := ((n / 10000) % 100)) (by omega)).2 (sm_at (k := ((n / 10000) % 100)) (by omega)).1
theorem v40_6 (n : Nat) (h1 : 100000 ≤ n) (h2 : n < 1000000) (rc : Rec) (hc : rc.call 58 [.int .u64 (Int.ofNat n)] q40_6_1 = .ret (.int .i64 6) q40_6_1 false) (rc' : Rec) (hf : ∀ a s, rc.call 59 a s = doBody E3 (recS E3 rc') 59 a false none s) : ∃ s1, doBody E3 rc 40 [.int .i64 (Int.ofNat n), .int .i64 10] false none (mkS 0 []) = .ret (.str (decN n)) s1 false := by
  have hd : decN n = [(48 + ((n / 10000) % 100) / 10), (48 + ((n / 10000) % 100) % 10), (48 + ((n % 10000) / 100) / 10), (48 + ((n % 10000) / 100) % 10), (48 + ((n % 10000) % 100) / 10), (48 + ((n % 10000) % 100) % 10)] := by
    rw [decN_big (show ¬ n < 10 by omega)]
    rw [decN_big (show ¬ n / 10 < 10 by omega)]
    rw [decN_big (show ¬ n / 10 / 10 < 10 by omega)]
    rw [decN_big (show ¬ n / 10 / 10 / 10 < 10 by omega)]
    rw [decN_big (show ¬ n / 10 / 10 / 10 / 10 < 10 by omega)]
    rw [decN_small (show n / 10 / 10 / 10 / 10 / 10 < 10 by omega)]
    simp only [List.cons_append, List.nil_append, List.cons.injEq, and_true]
    omega
  rw [hd]
  exact ⟨_, w40_6_r0 n (48 + ((n / 10000) % 100) / 10) (48 + ((n / 10000) % 100) % 10) (48 + ((n % 10000) / 100) / 10) (48 + ((n % 10000) / 100) % 10) (48 + ((n % 10000) % 100) / 10) (48 + ((n % 10000) % 100) % 10) rc n (nn_le n) (lt_false (n := 100) (by omega)) (wr64 (by omega)) (nn_lt n) hc ((hf _ _).trans (v59_6 n h2 _)) (bytes_cons (by omega) (bytes_cons (by omega) (bytes_cons (by omega) (bytes_cons (by omega) (bytes_cons (by omega) (bytes_cons (by omega) rfl))))))⟩
theorem v59_7 (n : Nat) (hn : n < 10000000) (rc : Rec) : doBody E3 (recS E3 rc) 59 [.sl 0 1 7 1 (some 23), .int .u64 (Int.ofNat n)] false none q40_7_1 = .ret (.tup []) (q40_7_2 (48 + ((n / 10000) / 100)) (48 + ((n / 10000) % 100) / 10) (48 + ((n / 10000) % 100) % 10) (48 + ((n % 10000) / 100) / 10) (48 + ((n % 10000) / 100) % 10) (48 + ((n % 10000) % 100) / 10) (48 + ((n % 10000) % 100) % 10)) false :=
  w59_7_r0 n (recS E3 rc) rc n (n % 10000) (n / 10000) ((n % 10000) / 100) (((n % 10000) / 100) * 2) ((n % 10000) % 100) (((n % 10000) % 100) * 2) (((n % 10000) % 100) * 2 + 1) (48 + ((n % 10000) % 100) % 10) (48 + ((n % 10000) % 100) / 10) (((n % 10000) / 100) * 2 + 1) (48 + ((n % 10000) / 100) % 10) (48 + ((n % 10000) / 100) / 10) ((n / 10000) % 100) (((n / 10000) % 100) * 2) ((n / 10000) / 100) (((n / 10000) % 100) * 2 + 1) (48 + ((n / 10000) % 100) % 10) (48 + ((n / 10000) % 100) / 10) (48 + ((n / 10000) / 100)) (48 + ((n / 10000) / 100)) (wr32 (m := n) (by omega)) rfl (wr32 (m := (n / 10000)) (by omega)) (wr32 (m := ((n % 10000) / 100)) (by omega)) (wr32 (m := (((n % 10000) / 100) * 2)) (by omega)) rfl (wr32 (m := (((n % 10000) % 100) * 2)) (by omega)) (wr32 (m := (((n % 10000) % 100) * 2 + 1)) (by omega)) (sm_at (k := ((n % 10000) % 100)) (by omega)).2 (sm_at (k := ((n % 10000) % 100)) (by omega)).1 (wr32 (m := (((n % 10000) / 100) * 2 + 1)) (by omega)) (sm_at (k := ((n % 10000) / 100)) (by omega)).2 (sm_at (k := ((n % 10000) / 100)) (by omega)).1 rfl (wr32 (m := (((n / 10000) % 100) * 2)) (by omega)) (wr32 (m := ((n / 10000) / 100)) (by omega)) (wr32 (m := (((n / 10000) % 100) * 2 + 1)) (by omega)) (sm_at (k := ((n / 10000) % 100)) (by omega)).2 (sm_at (k := ((n / 10000) % 100)) (by omega)).1 (wr32 (m := (48 + ((n / 10000) / 100))) (by omega)) (wr8 (m := (48 + ((n / 10000) / 100))) (by omega))
theorem v40_7 (n : Nat) (h1 : 1000000 ≤ n) (h2 : n < 10000000) (rc : Rec) (hc : rc.call 58 [.int .u64 (Int.ofNat n)] q40_7_1 = .ret (.int .i64 7) q40_7_1 false) (rc' : Rec) (hf : ∀ a s, rc.call 59 a s = doBody E3 (recS E3 rc') 59 a false none s) : ∃ s1, doBody E3 rc 40 [.int .i64 (Int.ofNat n), .int .i64 10] false none (mkS 0 []) = .ret (.str (decN n)) s1 false := by
  have hd : decN n = [(48 + ((n / 10000) / 100)), (48 + ((n / 10000) % 100) / 10), (48 + ((n / 10000) % 100) % 10), (48 + ((n % 10000) / 100) / 10), (48 + ((n % 10000) / 100) % 10), (48 + ((n % 10000) % 100) / 10), (48 + ((n % 10000) % 100) % 10)] := by
    rw [decN_big (show ¬ n < 10 by omega)]
    rw [decN_big (show ¬ n / 10 < 10 by omega)]
    rw [decN_big (show ¬ n / 10 / 10 < 10 by omega)]
    rw [decN_big (show ¬ n / 10 / 10 / 10 < 10 by omega)]
    rw [decN_big (show ¬ n / 10 / 10 / 10 / 10 < 10 by omega)]
    rw [decN_big (show ¬ n / 10 / 10 / 10 / 10 / 10 < 10 by omega)]
    rw [decN_small (show n / 10 / 10 / 10 / 10 / 10 / 10 < 10 by omega)]
    simp only [List.cons_append, List.nil_append, List.cons.injEq, and_true]
    omega
  rw [hd]
  exact ⟨_, w40_7_r0 n (48 + ((n / 10000) / 100)) (48 + ((n / 10000) % 100) / 10) (48 + ((n / 10000) % 100) % 10) (48 + ((n % 10000) / 100) / 10) (48 + ((n % 10000) / 100) % 10) (48 + ((n % 10000) % 100) / 10) (48 + ((n % 10000) % 100) % 10) rc n (nn_le n) (lt_false (n := 100) (by omega)) (wr64 (by omega)) (nn_lt n) hc ((hf _ _).trans (v59_7 n h2 _)) (bytes_cons (by omega) (bytes_cons (by omega) (bytes_cons (by omega) (bytes_cons (by omega) (bytes_cons (by omega) (bytes_cons (by omega) (bytes_cons (by omega) rfl)))))))⟩
theorem v59_8 (n : Nat) (hn : n < 100000000) (rc : Rec) : doBody E3 (recS E3 rc) 59 [.sl 0 1 8 1 (some 23), .int .u64 (Int.ofNat n)] false none q40_8_1 = .ret (.tup []) (q40_8_2 (48 + (((n % 100000000) / 10000) / 100) / 10) (48 + (((n % 100000000) / 10000) / 100) % 10) (48 + (((n % 100000000) / 10000) % 100) / 10) (48 + (((n % 100000000) / 10000) % 100) % 10) (48 + (((n % 100000000) % 10000) / 100) / 10) (48 + (((n % 100000000) % 10000) / 100) % 10) (48 + (((n % 100000000) % 10000) % 100) / 10) (48 + (((n % 100000000) % 10000) % 100) % 10)) false :=
  w59_8_r0 n (recS E3 rc) rc (n % 100000000) (n % 100000000) (n / 100000000) ((n % 100000000) / 10000) ((n % 100000000) % 10000) (((n % 100000000) % 10000) / 100) ((((n % 100000000) % 10000) / 100) * 2) (((n % 100000000) % 10000) % 100) ((((n % 100000000) % 10000) % 100) * 2) (((n % 100000000) / 10000) / 100) ((((n % 100000000) / 10000) / 100) * 2) (((n % 100000000) / 10000) % 100) ((((n % 100000000) / 10000) % 100) * 2) ((((n % 100000000) % 10000) % 100) * 2 + 1) (48 + (((n % 100000000) % 10000) % 100) % 10) (48 + (((n % 100000000) % 10000) % 100) / 10) ((((n % 100000000) % 10000) / 100) * 2 + 1) (48 + (((n % 100000000) % 10000) / 100) % 10) (48 + (((n % 100000000) % 10000) / 100) / 10) ((((n % 100000000) / 10000) % 100) * 2 + 1) (48 + (((n % 100000000) / 10000) % 100) % 10) (48 + (((n % 100000000) / 10000) % 100) / 10) ((((n % 100000000) / 10000) / 100) * 2 + 1) (48 + (((n % 100000000) / 10000) / 100) % 10) (48 + (((n % 100000000) / 10000) / 100) / 10) (n / 100000000) rfl rfl (wr32 (m := (n % 100000000)) (by omega)) (wr64 (m := (n / 100000000)) (by omega)) (wr32 (m := ((n % 100000000) / 10000)) (by omega)) rfl (wr32 (m := (((n % 100000000) % 10000) / 100)) (by omega)) (wr32 (m := ((((n % 100000000) % 10000) / 100) * 2)) (by omega)) rfl (wr32 (m := ((((n % 100000000) % 10000) % 100) * 2)) (by omega)) (wr32 (m := (((n % 100000000) / 10000) / 100)) (by omega)) (wr32 (m := ((((n % 100000000) / 10000) / 100) * 2)) (by omega)) rfl (wr32 (m := ((((n % 100000000) / 10000) % 100) * 2)) (by omega)) (wr32 (m := ((((n % 100000000) % 10000) % 100) * 2 + 1)) (by omega)) (sm_at (k := (((n % 100000000) % 10000) % 100)) (by omega)).2 (sm_at (k := (((n % 100000000) % 10000) % 100)) (by omega)).1 (wr32 (m := ((((n % 100000000) % 10000) / 100) * 2 + 1)) (by omega)) (sm_at (k := (((n % 100000000) % 10000) / 100)) (by omega)).2 (sm_at (k := (((n % 100000000) % 10000) / 100)) (by omega)).1 (wr32 (m := ((((n % 100000000) / 10000) % 100) * 2 + 1)) (by omega)) (sm_at (k := (((n % 100000000) / 10000) % 100)) (by omega)).2 (sm_at (k := (((n % 100000000) / 10000) % 100)) (by omega)).1 (wr32 (m := ((((n % 100000000) / 10000) / 100) * 2 + 1)) (by omega)) (sm_at (k := (((n % 100000000) / 10000) / 100)) (by omega)).2 (sm_at (k := (((n % 100000000) / 10000) / 100)) (by omega)).1 (wr32 (m := (n / 100000000)) (by omega))
theorem v40_8 (n : Nat) (h1 : 10000000 ≤ n) (h2 : n < 100000000) (rc : Rec) (hc : rc.call 58 [.int .u64 (Int.ofNat n)] q40_8_1 = .ret (.int .i64 8) q40_8_1 false) (rc' : Rec) (hf : ∀ a s, rc.call 59 a s = doBody E3 (recS E3 rc') 59 a false none s) : ∃ s1, doBody E3 rc 40 [.int .i64 (Int.ofNat n), .int .i64 10] false none (mkS 0 []) = .ret (.str (decN n)) s1 false := by
  have hd : decN n = [(48 + (((n % 100000000) / 10000) / 100) / 10), (48 + (((n % 100000000) / 10000) / 100) % 10), (48 + (((n % 100000000) / 10000) % 100) / 10), (48 + (((n % 100000000) / 10000) % 100) % 10), (48 + (((n % 100000000) % 10000) / 100) / 10), (48 + (((n % 100000000) % 10000) / 100) % 10), (48 + (((n % 100000000) % 10000) % 100) / 10), (48 + (((n % 100000000) % 10000) % 100) % 10)] := by
    rw [decN_big (show ¬ n < 10 by omega)]
    rw [decN_big (show ¬ n / 10 < 10 by omega)]
    rw [decN_big (show ¬ n / 10 / 10 < 10 by omega)]
    rw [decN_big (show ¬ n / 10 / 10 / 10 < 10 by omega)]
    rw [decN_big (show ¬ n / 10 / 10 / 10 / 10 < 10 by omega)]
    rw [decN_big (show ¬ n / 10 / 10 / 10 / 10 / 10 < 10 by omega)]
    rw [decN_big (show ¬ n / 10 / 10 / 10 / 10 / 10 / 10 < 10 by omega)]
    rw [decN_small (show n / 10 / 10 / 10 / 10 / 10 / 10 / 10 < 10 by omega)]
    simp only [List.cons_append, List.nil_append, List.cons.injEq, and_true]
    omega
  rw [hd]
  exact ⟨_, w40_8_r0 n (48 + (((n % 100000000) / 10000) / 100) / 10) (48 + (((n % 100000000) / 10000) / 100) % 10) (48 + (((n % 100000000) / 10000) % 100) / 10) (48 + (((n % 100000000) / 10000) % 100) % 10) (48 + (((n % 100000000) % 10000) / 100) / 10) (48 + (((n % 100000000) % 10000) / 100) % 10) (48 + (((n % 100000000) % 10000) % 100) / 10) (48 + (((n % 100000000) % 10000) % 100) % 10) rc n (nn_le n) (lt_false (n := 100) (by omega)) (wr64 (by omega)) (nn_lt n) hc ((hf _ _).trans (v59_8 n h2 _)) (bytes_cons (by omega) (bytes_cons (by omega) (bytes_cons (by omega) (bytes_cons (by omega) (bytes_cons (by omega) (bytes_cons (by omega) (bytes_cons (by omega) (bytes_cons (by omega) rfl))))))))⟩
theorem v59_9 (n : Nat) (hn : n < 1000000000) (rc : Rec) : doBody E3 (recS E3 rc) 59 [.sl 0 1 9 1 (some 23), .int .u64 (Int.ofNat n)] false none q40_9_1 = .ret (.tup []) (q40_9_2 (48 + (n / 100000000)) (48 + (((n % 100000000) / 10000) / 100) / 10) (48 + (((n % 100000000) / 10000) / 100) % 10) (48 + (((n % 100000000) / 10000) % 100) / 10) (48 + (((n % 100000000) / 10000) % 100) % 10) (48 + (((n % 100000000) % 10000) / 100) / 10) (48 + (((n % 100000000) % 10000) / 100) % 10) (48 + (((n % 100000000) % 10000) % 100) / 10) (48 + (((n % 100000000) % 10000) % 100) % 10)) false :=
  w59_9_r0 n (recS E3 rc) rc (n % 100000000) (n % 100000000) (n / 100000000) ((n % 100000000) / 10000) ((n % 100000000) % 10000) (((n % 100000000) % 10000) / 100) ((((n % 100000000) % 10000) / 100) * 2) (((n % 100000000) % 10000) % 100) ((((n % 100000000) % 10000) % 100) * 2) (((n % 100000000) / 10000) / 100) ((((n % 100000000) / 10000) / 100) * 2) (((n % 100000000) / 10000) % 100) ((((n % 100000000) / 10000) % 100) * 2) ((((n % 100000000) % 10000) % 100) * 2 + 1) (48 + (((n % 100000000) % 10000) % 100) % 10) (48 + (((n % 100000000) % 10000) % 100) / 10) ((((n % 100000000) % 10000) / 100) * 2 + 1) (48 + (((n % 100000000) % 10000) / 100) % 10) (48 + (((n % 100000000) % 10000) / 100) / 10) ((((n % 100000000) / 10000) % 100) * 2 + 1) (48 + (((n % 100000000) / 10000) % 100) % 10) (48 + (((n % 100000000) / 10000) % 100) / 10) ((((n % 100000000) / 10000) / 100) * 2 + 1) (48 + (((n % 100000000) / 10000) / 100) % 10) (48 + (((n % 100000000) / 10000) / 100) / 10) (n / 100000000) (48 + (n / 100000000)) (48 + (n / 100000000)) rfl rfl (wr32 (m := (n % 100000000)) (by omega)) (wr64 (m := (n / 100000000)) (by omega)) (wr32 (m := ((n % 100000000) / 10000)) (by omega)) rfl (wr32 (m := (((n % 100000000) % 10000) / 100)) (by omega)) (wr32 (m := ((((n % 100000000) % 10000) / 100) * 2)) (by omega)) rfl (wr32 (m := ((((n % 100000000) % 10000) % 100) * 2)) (by omega)) (wr32 (m := (((n % 100000000) / 10000) / 100)) (by omega)) (wr32 (m := ((((n % 100000000) / 10000) / 100) * 2)) (by omega)) rfl (wr32 (m := ((((n % 100000000) / 10000) % 100) * 2)) (by omega)) (wr32 (m := ((((n % 100000000) % 10000) % 100) * 2 + 1)) (by omega)) (sm_at (k := (((n % 100000000) % 10000) % 100)) (by omega)).2 (sm_at (k := (((n % 100000000) % 10000) % 100)) (by omega)).1 (wr32 (m := ((((n % 100000000) % 10000) / 100) * 2 + 1)) (by omega)) (sm_at (k := (((n % 100000000) % 10000) / 100)) (by omega)).2 (sm_at (k := (((n % 100000000) % 10000) / 100)) (by omega)).1 (wr32 (m := ((((n % 100000000) / 10000) % 100) * 2 + 1)) (by omega)) (sm_at (k := (((n % 100000000) / 10000) % 100)) (by omega)).2 (sm_at (k := (((n % 100000000) / 10000) % 100)) (by omega)).1 (wr32 (m := ((((n % 100000000) / 10000) / 100) * 2 + 1)) (by omega)) (sm_at (k := (((n % 100000000) / 10000) / 100)) (by omega)).2 (sm_at (k := (((n % 100000000) / 10000) / 100)) (by omega)).1 (wr32 (m := (n / 100000000)) (by omega)) (wr32 (m := (48 + (n / 100000000))) (by omega)) (wr8 (m := (48 + (n / 100000000))) (by omega))
theorem v40_9 (n : Nat) (h1 : 100000000 ≤ n) (h2 : n < 1000000000) (rc : Rec) (hc : rc.call 58 [.int .u64 (Int.ofNat n)] q40_9_1 = .ret (.int .i64 9) q40_9_1 false) (rc' : Rec) (hf : ∀ a s, rc.call 59 a s = doBody E3 (recS E3 rc') 59 a false none s) : ∃ s1, doBody E3 rc 40 [.int .i64 (Int.ofNat n), .int .i64 10] false none (mkS 0 []) = .ret (.str (decN n)) s1 false := by
  have hd : decN n = [(48 + (n / 100000000)), (48 + (((n % 100000000) / 10000) / 100) / 10), (48 + (((n % 100000000) / 10000) / 100) % 10), (48 + (((n % 100000000) / 10000) % 100) / 10), (48 + (((n % 100000000) / 10000) % 100) % 10), (48 + (((n % 100000000) % 10000) / 100) / 10), (48 + (((n % 100000000) % 10000) / 100) % 10), (48 + (((n % 100000000) % 10000) % 100) / 10), (48 + (((n % 100000000) % 10000) % 100) % 10)] := by
    rw [decN_big (show ¬ n < 10 by omega)]
    rw [decN_big (show ¬ n / 10 < 10 by omega)]
    rw [decN_big (show ¬ n / 10 / 10 < 10 by omega)]
    rw [decN_big (show ¬ n / 10 / 10 / 10 < 10 by omega)]
    rw [decN_big (show ¬ n / 10 / 10 / 10 / 10 < 10 by omega)]
    rw [decN_big (show ¬ n / 10 / 10 / 10 / 10 / 10 < 10 by omega)]
    rw [decN_big (show ¬ n / 10 / 10 / 10 / 10 / 10 / 10 < 10 by omega)]
    rw [decN_big (show ¬ n / 10 / 10 / 10 / 10 / 10 / 10 / 10 < 10 by omega)]
    rw [decN_small (show n / 10 / 10 / 10 / 10 / 10 / 10 / 10 / 10 < 10 by omega)]
    simp only [List.cons_append, List.nil_append, List.cons.injEq, and_true]
    omega
  rw [hd]
  exact ⟨_, w40_9_r0 n (48 + (n / 100000000)) (48 + (((n % 100000000) / 10000) / 100) / 10) (48 + (((n % 100000000) / 10000) / 100) % 10) (48 + (((n % 100000000) / 10000) % 100) / 10) (48 + (((n % 100000000) / 10000) % 100) % 10) (48 + (((n % 100000000) % 10000) / 100) / 10) (48 + (((n % 100000000) % 10000) / 100) % 10) (48 + (((n % 100000000) % 10000) % 100) / 10) (48 + (((n % 100000000) % 10000) % 100) % 10) rc n (nn_le n) (lt_false (n := 100) (by omega)) (wr64 (by omega)) (nn_lt n) hc ((hf _ _).trans (v59_9 n h2 _)) (bytes_cons (by omega) (bytes_cons (by omega) (bytes_cons (by omega) (bytes_cons (by omega) (bytes_cons (by omega) (bytes_cons (by omega) (bytes_cons (by omega) (bytes_cons (by omega) (bytes_cons (by omega) rfl)))))))))⟩
end
end Go.AM.S40.Sy
end
section
/- strconv.Itoa at numbers of up to nine digits. -/
set_option maxRecDepth 100000
namespace Go.AM.S40.Sy
open Go Go.Proofs
noncomputable section
theorem c111 (args : List V) (N : Nat) (s : S) : (recN E3 (N + 1)).call 111 args s = doBody E3 (recN E3 N) 111 args false none s := by kernel_rfl
theorem c110 (args : List V) (N : Nat) (s : S) : (recN E3 (N + 1)).call 110 args s = doBody E3 (recN E3 N) 110 args false none s := by kernel_rfl
theorem c112 (args : List V) (N : Nat) (s : S) : (recN E3 (N + 1)).call 112 args s = doBody E3 (recN E3 N) 112 args false none s := by kernel_rfl
theorem c58 (args : List V) (N : Nat) (s : S) : (recN E3 (N + 1)).call 58 args s = doBody E3 (recN E3 N) 58 args false none s := by kernel_rfl
theorem c59 (args : List V) (N : Nat) (s : S) : (recN E3 (N + 1)).call 59 args s = doBody E3 (recN E3 N) 59 args false none s := by kernel_rfl
theorem c57 (args : List V) (N : Nat) (s : S) : (recN E3 (N + 1)).call 57 args s = doBody E3 (recN E3 N) 57 args false none s := by kernel_rfl
theorem c40 (args : List V) (N : Nat) (s : S) : (recN E3 (N + 1)).call 40 args s = doBody E3 (recN E3 N) 40 args false none s := by kernel_rfl
theorem c22 (args : List V) (N : Nat) (s : S) : (recN E3 (N + 1)).call 22 args s = doBody E3 (recN E3 N) 22 args false none s := by kernel_rfl
/-! bits.Len64 -/
theorem len8_all : (List.range 256).all (fun y => match nth len8L y with | some x => (Nat.ble x 8 && (Nat.blt y (2 ^ x))) && (Nat.beq y 0 || (Nat.ble 1 x && Nat.ble (2 ^ (x - 1)) y)) | none => false) = true := by kernel_rfl
theorem len8_at {y : Nat} (h0 : 0 < y) (h : y < 256) : ∃ x, nth len8L y = some (x + 1) ∧ x < 8 ∧ 2 ^ x ≤ y ∧ y < 2 * 2 ^ x := by
  have := List.all_eq_true.1 len8_all y (List.mem_range.2 h)
  cases h3 : nth len8L y with
  | none => rw [h3] at this; cases this
  | some x =>
    rw [h3] at this
    have this : ((Nat.ble x 8 && (Nat.blt y (2 ^ x))) && (Nat.beq y 0 || (Nat.ble 1 x && Nat.ble (2 ^ (x - 1)) y))) = true := this
    rw [Bool.and_eq_true, Bool.and_eq_true, Bool.or_eq_true, Bool.and_eq_true] at this
    obtain ⟨⟨h4, h5⟩, h6⟩ := this
    have h4 := Nat.le_of_ble_eq_true h4
    rw [Nat.blt_eq] at h5
    rcases h6 with h6 | ⟨h6, h7⟩
    · have := Nat.eq_of_beq_eq_true h6; omega
    · have h6 := Nat.le_of_ble_eq_true h6
      have h7 := Nat.le_of_ble_eq_true h7
      obtain ⟨x, rfl⟩ : ∃ z, x = z + 1 := ⟨x - 1, by omega⟩
      rw [Nat.add_sub_cancel] at h7
      rw [Nat.pow_succ] at h5
      exact ⟨x, rfl, by omega, h7, by omega⟩
theorem fdiv_nat (a b : Nat) (hb : 0 < b) : Int.fdiv (Int.ofNat a) (Int.ofNat b) = Int.ofNat (a / b) := by
  show Int.fdiv (a : Int) (b : Int) = ((a / b : Nat) : Int)
  rw [Int.fdiv_eq_ediv_of_nonneg _ (Int.natCast_nonneg b)]; rfl
theorem wri {m : Nat} (h : m < 1000000000000000000) : wrap .i64 (Int.ofNat m) = Int.ofNat m := wrap_nat h
theorem le_t {a n : Nat} (h : a ≤ n) : leI (Int.ofNat a) (Int.ofNat n) = true := by rw [leI_eq]; exact decide_eq_true (Int.ofNat_le.2 h)
theorem le_f {a n : Nat} (h : n < a) : leI (Int.ofNat a) (Int.ofNat n) = false := by rw [leI_eq]; exact decide_eq_false (fun k => by have := Int.ofNat_le.1 k; omega)
theorem pow_at {b n : Nat} (c : Nat) {x : Nat} (hb : b = c + x + 1) (h1 : 2 ^ c * 2 ^ x ≤ n) (h2 : n < 2 ^ c * (2 * 2 ^ x)) : 2 ^ (b - 1) ≤ n ∧ n < 2 ^ b := by
  subst hb
  have e1 : 2 ^ (c + x + 1 - 1) = 2 ^ c * 2 ^ x := by rw [Nat.add_sub_cancel, Nat.pow_add]
  have e2 : 2 ^ (c + x + 1) = 2 ^ c * (2 * 2 ^ x) := by rw [Nat.add_assoc, Nat.pow_add, Nat.pow_succ, Nat.mul_comm (2 ^ x) 2]
  rw [e1, e2]; exact ⟨h1, h2⟩
theorem len64 (n : Nat) (h0 : 100 ≤ n) (h9 : n < 1000000000) : ∃ b, 2 ^ (b - 1) ≤ n ∧ n < 2 ^ b ∧ ∀ rc s, doBody E3 rc 111 [.int .u64 (Int.ofNat n)] false none s = .ret (.int .i64 (Int.ofNat b)) s false := by
  have h1 : leI 4294967296 (Int.ofNat n) = false := le_f (a := 4294967296) (by omega)
  by_cases c1 : 65536 ≤ n
  · have h2 : leI 65536 (Int.ofNat n) = true := le_t (a := 65536) c1
    by_cases c2 : 256 ≤ n / 65536
    · obtain ⟨x, q1, q2, q3, q4⟩ := len8_at (y := n / 65536 / 256) (by omega) (by omega)
      obtain ⟨r1, r2⟩ := pow_at (b := 24 + (x + 1)) (n := n) 24 (x := x) (by omega) (by omega) (by omega)
      exact ⟨24 + (x + 1), r1, r2, fun rc s => w111_r0 n rc s (n / 65536) (n / 65536 / 256) (n / 65536 / 256) (x + 1) (x + 1) (24 + (x + 1)) 0 0 0 0 0 0 0 0 0 0 0 0 0 h1 h2 (fdiv_nat n 65536 (by decide)) (le_t (a := 256) c2) (fdiv_nat _ 256 (by decide)) (wr8 (by omega)) q1 (wri (by omega)) (wri (m := 24 + (x + 1)) (by omega))⟩
    · obtain ⟨x, q1, q2, q3, q4⟩ := len8_at (y := n / 65536) (by omega) (by omega)
      obtain ⟨r1, r2⟩ := pow_at (b := 16 + (x + 1)) (n := n) 16 (x := x) (by omega) (by omega) (by omega)
      exact ⟨16 + (x + 1), r1, r2, fun rc s => w111_r1 n rc s (n / 65536) 0 0 0 0 0 (n / 65536) (x + 1) (x + 1) (16 + (x + 1)) 0 0 0 0 0 0 0 0 0 h1 h2 (fdiv_nat n 65536 (by decide)) (le_f (a := 256) (by omega)) (wr8 (by omega)) q1 (wri (by omega)) (wri (m := 16 + (x + 1)) (by omega))⟩
  · have h2 : leI 65536 (Int.ofNat n) = false := le_f (a := 65536) (by omega)
    by_cases c2 : 256 ≤ n
    · obtain ⟨x, q1, q2, q3, q4⟩ := len8_at (y := n / 256) (by omega) (by omega)
      obtain ⟨r1, r2⟩ := pow_at (b := 8 + (x + 1)) (n := n) 8 (x := x) (by omega) (by omega) (by omega)
      exact ⟨8 + (x + 1), r1, r2, fun rc s => w111_r2 n rc s 0 0 0 0 0 0 0 0 0 0 (n / 256) (n / 256) (x + 1) (x + 1) (8 + (x + 1)) 0 0 0 0 h1 h2 (le_t (a := 256) c2) (fdiv_nat n 256 (by decide)) (wr8 (by omega)) q1 (wri (by omega)) (wri (m := 8 + (x + 1)) (by omega))⟩
    · obtain ⟨x, q1, q2, q3, q4⟩ := len8_at (y := n) (by omega) (by omega)
      obtain ⟨r1, r2⟩ := pow_at (b := 0 + (x + 1)) (n := n) 0 (x := x) (by omega) (by omega) (by omega)
      exact ⟨0 + (x + 1), r1, r2, fun rc s => w111_r3 n rc s 0 0 0 0 0 0 0 0 0 0 0 0 0 0 0 n (x + 1) (x + 1) (0 + (x + 1)) h1 h2 (le_f (a := 256) (by omega)) (wr8 (by omega)) q1 (wri (by omega)) (wri (m := 0 + (x + 1)) (by omega))⟩
/-! numDigits -/
theorem chk : ∀ b, b < 31 → ∀ i, i < 10 → 3 ≤ i → (b * 78913 / 262144 + 1 = i ∨ b * 78913 / 262144 = i) ∨ 2 ^ b ≤ 10 ^ (i - 1) ∨ 10 ^ i ≤ 2 ^ (b - 1) := by decide
theorem nd_at (n i : Nat) (h3 : 3 ≤ i) (h10 : i < 10) (h1 : 10 ^ (i - 1) ≤ n) (h2 : n < 10 ^ i) (h100 : 100 ≤ n) (h9 : n < 1000000000) : ∃ b k, (k + 1 = i ∨ k = i) ∧ (∀ rc s, doBody E3 rc 111 [.int .u64 (Int.ofNat n)] false none s = .ret (.int .i64 (Int.ofNat b)) s false) ∧ ∀ rc s, doBody E3 rc 110 [.int .i64 (Int.ofNat b)] false none s = .ret (.int .i64 (Int.ofNat k)) s false := by
  obtain ⟨b, r1, r2, r3⟩ := len64 n h100 h9
  have hb : b < 31 := by
    rcases Nat.lt_or_ge b 31 with h | h
    · exact h
    · have : 2 ^ 30 ≤ 2 ^ (b - 1) := Nat.pow_le_pow_right (by decide) (by omega)
      omega
  refine ⟨b, b * 78913 / 262144, ?_, r3, fun rc s => w110_r0 b rc s (b * 78913) _ (wri (m := b * 78913) (by omega)) (fdiv_nat _ 262144 (by decide))⟩
  rcases chk b hb i h10 h3 with h | h | h
  · exact h
  · omega
  · omega
theorem do58_3 (n N : Nat) (s : S) (h1 : 100 ≤ n) (h2 : n < 1000) : (recN E3 (N + 2)).call 58 [.int .u64 (Int.ofNat n)] s = .ret (.int .i64 3) s false := by
  rw [c58]
  obtain ⟨b, k, hk, q1, q2⟩ := nd_at n 3 (by decide) (by decide) h1 h2 (by omega) (by omega)
  have g1 := (c111 [.int .u64 (Int.ofNat n)] N s).trans (q1 _ _)
  have g2 := (c110 [.int .i64 (Int.ofNat b)] N s).trans (q2 _ _)
  rcases hk with hk | hk
  · obtain rfl : k = 2 := by omega
    exact w58_2_r0 n b _ s g1 g2 (le_t (a := 100) h1) ((c112 ..).trans (w112t_r0 ..))
  · subst hk
    exact w58_3_r1 n b _ s g1 g2 (le_f (a := 1000) h2) ((c112 ..).trans (w112f_r0 ..))
theorem do58_4 (n N : Nat) (s : S) (h1 : 1000 ≤ n) (h2 : n < 10000) : (recN E3 (N + 2)).call 58 [.int .u64 (Int.ofNat n)] s = .ret (.int .i64 4) s false := by
  rw [c58]
  obtain ⟨b, k, hk, q1, q2⟩ := nd_at n 4 (by decide) (by decide) h1 h2 (by omega) (by omega)
  have g1 := (c111 [.int .u64 (Int.ofNat n)] N s).trans (q1 _ _)
  have g2 := (c110 [.int .i64 (Int.ofNat b)] N s).trans (q2 _ _)
  rcases hk with hk | hk
  · obtain rfl : k = 3 := by omega
    exact w58_3_r0 n b _ s g1 g2 (le_t (a := 1000) h1) ((c112 ..).trans (w112t_r0 ..))
  · subst hk
    exact w58_4_r1 n b _ s g1 g2 (le_f (a := 10000) h2) ((c112 ..).trans (w112f_r0 ..))
theorem do58_5 (n N : Nat) (s : S) (h1 : 10000 ≤ n) (h2 : n < 100000) : (recN E3 (N + 2)).call 58 [.int .u64 (Int.ofNat n)] s = .ret (.int .i64 5) s false := by
  rw [c58]
  obtain ⟨b, k, hk, q1, q2⟩ := nd_at n 5 (by decide) (by decide) h1 h2 (by omega) (by omega)
  have g1 := (c111 [.int .u64 (Int.ofNat n)] N s).trans (q1 _ _)
  have g2 := (c110 [.int .i64 (Int.ofNat b)] N s).trans (q2 _ _)
  rcases hk with hk | hk
  · obtain rfl : k = 4 := by omega
    exact w58_4_r0 n b _ s g1 g2 (le_t (a := 10000) h1) ((c112 ..).trans (w112t_r0 ..))
  · subst hk
    exact w58_5_r1 n b _ s g1 g2 (le_f (a := 100000) h2) ((c112 ..).trans (w112f_r0 ..))
theorem do58_6 (n N : Nat) (s : S) (h1 : 100000 ≤ n) (h2 : n < 1000000) : (recN E3 (N + 2)).call 58 [.int .u64 (Int.ofNat n)] s = .ret (.int .i64 6) s false := by
  rw [c58]
  obtain ⟨b, k, hk, q1, q2⟩ := nd_at n 6 (by decide) (by decide) h1 h2 (by omega) (by omega)
  have g1 := (c111 [.int .u64 (Int.ofNat n)] N s).trans (q1 _ _)
  have g2 := (c110 [.int .i64 (Int.ofNat b)] N s).trans (q2 _ _)
  rcases hk with hk | hk
  · obtain rfl : k = 5 := by omega
    exact w58_5_r0 n b _ s g1 g2 (le_t (a := 100000) h1) ((c112 ..).trans (w112t_r0 ..))
  · subst hk
    exact w58_6_r1 n b _ s g1 g2 (le_f (a := 1000000) h2) ((c112 ..).trans (w112f_r0 ..))
theorem do58_7 (n N : Nat) (s : S) (h1 : 1000000 ≤ n) (h2 : n < 10000000) : (recN E3 (N + 2)).call 58 [.int .u64 (Int.ofNat n)] s = .ret (.int .i64 7) s false := by
  rw [c58]
  obtain ⟨b, k, hk, q1, q2⟩ := nd_at n 7 (by decide) (by decide) h1 h2 (by omega) (by omega)
  have g1 := (c111 [.int .u64 (Int.ofNat n)] N s).trans (q1 _ _)
  have g2 := (c110 [.int .i64 (Int.ofNat b)] N s).trans (q2 _ _)
  rcases hk with hk | hk
  · obtain rfl : k = 6 := by omega
    exact w58_6_r0 n b _ s g1 g2 (le_t (a := 1000000) h1) ((c112 ..).trans (w112t_r0 ..))
  · subst hk
    exact w58_7_r1 n b _ s g1 g2 (le_f (a := 10000000) h2) ((c112 ..).trans (w112f_r0 ..))
theorem do58_8 (n N : Nat) (s : S) (h1 : 10000000 ≤ n) (h2 : n < 100000000) : (recN E3 (N + 2)).call 58 [.int .u64 (Int.ofNat n)] s = .ret (.int .i64 8) s false := by
  rw [c58]
  obtain ⟨b, k, hk, q1, q2⟩ := nd_at n 8 (by decide) (by decide) h1 h2 (by omega) (by omega)
  have g1 := (c111 [.int .u64 (Int.ofNat n)] N s).trans (q1 _ _)
  have g2 := (c110 [.int .i64 (Int.ofNat b)] N s).trans (q2 _ _)
  rcases hk with hk | hk
  · obtain rfl : k = 7 := by omega
    exact w58_7_r0 n b _ s g1 g2 (le_t (a := 10000000) h1) ((c112 ..).trans (w112t_r0 ..))
  · subst hk
    exact w58_8_r1 n b _ s g1 g2 (le_f (a := 100000000) h2) ((c112 ..).trans (w112f_r0 ..))
theorem do58_9 (n N : Nat) (s : S) (h1 : 100000000 ≤ n) (h2 : n < 1000000000) : (recN E3 (N + 2)).call 58 [.int .u64 (Int.ofNat n)] s = .ret (.int .i64 9) s false := by
  rw [c58]
  obtain ⟨b, k, hk, q1, q2⟩ := nd_at n 9 (by decide) (by decide) h1 h2 (by omega) (by omega)
  have g1 := (c111 [.int .u64 (Int.ofNat n)] N s).trans (q1 _ _)
  have g2 := (c110 [.int .i64 (Int.ofNat b)] N s).trans (q2 _ _)
  rcases hk with hk | hk
  · obtain rfl : k = 8 := by omega
    exact w58_8_r0 n b _ s g1 g2 (le_t (a := 100000000) h1) ((c112 ..).trans (w112t_r0 ..))
  · subst hk
    exact w58_9_r1 n b _ s g1 g2 (le_f (a := 1000000000) h2) ((c112 ..).trans (w112f_r0 ..))
theorem dg_all : (List.range 10).all (fun n => (match takeB (n + 1 - n) (dropN n digsL) with | [a] => Nat.beq a (48 + n) | _ => false) && inB n (n + 1) (len digsL) (len digsL)) = true := by kernel_rfl
theorem s2_all : (List.range 100).all (fun n => (match takeB (n * 2 + 2 - n * 2) (dropN (n * 2) smallsL) with | [a, b] => Nat.beq a (48 + n / 10) && Nat.beq b (48 + n % 10) | _ => false) && inB (n * 2) (n * 2 + 2) (len smallsL) (len smallsL)) = true := by kernel_rfl
theorem do57 (n : Nat) (h : n < 100) (rc : Rec) (s : S) : doBody E3 rc 57 [.int .i64 (Int.ofNat n)] false none s = .ret (.str (decN n)) s false := by
  by_cases c : n < 10
  · have := List.all_eq_true.1 dg_all n (List.mem_range.2 c)
    rw [Bool.and_eq_true] at this
    obtain ⟨h1, h2⟩ := this
    have e : takeB (n + 1 - n) (dropN n digsL) = decN n := by
      rw [decN_small c]
      generalize takeB (n + 1 - n) (dropN n digsL) = L at h1
      match L, h1 with
      | [a], h1 => rw [show a = 48 + n from Nat.eq_of_beq_eq_true h1]
    rw [← e]
    exact w57_r0 n rc s (n + 1) 0 0 (lt_true (n := 10) c) (wri (m := n + 1) (by omega)) h2
  · have := List.all_eq_true.1 s2_all n (List.mem_range.2 h)
    rw [Bool.and_eq_true] at this
    obtain ⟨h1, h2⟩ := this
    have e : takeB (n * 2 + 2 - n * 2) (dropN (n * 2) smallsL) = decN n := by
      rw [decN_big c, decN_small (show n / 10 < 10 by omega)]
      generalize takeB (n * 2 + 2 - n * 2) (dropN (n * 2) smallsL) = L at h1
      match L, h1 with
      | [a, b], h1 =>
        have h1 : (Nat.beq a (48 + n / 10) && Nat.beq b (48 + n % 10)) = true := h1
        rw [Bool.and_eq_true] at h1
        rw [show a = 48 + n / 10 from Nat.eq_of_beq_eq_true h1.1, show b = 48 + n % 10 from Nat.eq_of_beq_eq_true h1.2]; rfl
    rw [← e]
    exact w57_r1 n rc s 0 (n * 2) (n * 2 + 2) (lt_false (n := 10) (by omega)) (wri (m := n * 2) (by omega)) (wri (m := n * 2 + 2) (by omega)) h2
theorem do40 (n : Nat) (h : n ≤ 999999999) (N : Nat) : ∃ s1, doBody E3 (recN E3 (N + 2)) 40 [.int .i64 (Int.ofNat n), .int .i64 10] false none s0 = .ret (.str (decN n)) s1 false := by
  show ∃ s1, doBody E3 (recN E3 (N + 2)) 40 [.int .i64 (Int.ofNat n), .int .i64 10] false none (mkS 0 []) = _
  have hf : ∀ a s, (recN E3 (N + 2)).call 59 a s = doBody E3 (recS E3 (recN E3 N)) 59 a false none s := fun a s => c59 a (N + 1) s
  by_cases c : n < 100
  · exact ⟨_, w40s_r0 n (decN n) _ (nn_le n) (lt_true (n := 100) c) ((c57 _ (N + 1) _).trans (do57 n c _ _))⟩
  by_cases c3 : n < 1000
  · exact v40_3 n (by omega) c3 _ (do58_3 n N _ (by omega) c3) _ hf
  by_cases c4 : n < 10000
  · exact v40_4 n (by omega) c4 _ (do58_4 n N _ (by omega) c4) _ hf
  by_cases c5 : n < 100000
  · exact v40_5 n (by omega) c5 _ (do58_5 n N _ (by omega) c5) _ hf
  by_cases c6 : n < 1000000
  · exact v40_6 n (by omega) c6 _ (do58_6 n N _ (by omega) c6) _ hf
  by_cases c7 : n < 10000000
  · exact v40_7 n (by omega) c7 _ (do58_7 n N _ (by omega) c7) _ hf
  by_cases c8 : n < 100000000
  · exact v40_8 n (by omega) c8 _ (do58_8 n N _ (by omega) c8) _ hf
  by_cases c9 : n < 1000000000
  · exact v40_9 n (by omega) c9 _ (do58_9 n N _ (by omega) c9) _ hf
  omega
theorem do12 (n : Nat) (h : n ≤ 999999999) : ∃ s1, doBody E3 (recN E3 4) 12 [.int .i64 (Int.ofNat n)] false none s0 = .ret (.str (decN n)) s1 false := by
  obtain ⟨s1, h1⟩ := do40 n h 0
  have h2 := w22_r0 n (decN n) (recN E3 3) s0 s1 ((c40 _ 2 _).trans h1)
  exact ⟨s1, w12_r0 n (decN n) (recN E3 4) s0 s1 ((c22 _ 3 _).trans h2)⟩
/-- strconv.Itoa: what is taken for granted of it is so. -/
theorem itoa_ok : SumOk (layer E3 E3 0 tZ) Tryz.prog 12 itoaH := by
  refine SumOk.env (E := E3) (E' := layer E3 E3 0 tZ) rfl ?_
  intro A args xs s μ W R ha
  by_cases hi : ∃ n, args = [.int .i64 (Int.ofNat n)] ∧ n ≤ 999999999
  · obtain ⟨n, rfl, h⟩ := hi
    obtain ⟨s1, h1⟩ := do12 n h
    have hc := callE_ok (f := 12) env3_ok (rec_ok env3_ok ov3_ok 4) R ha
    rw [callE_at (rsv_i1 ..) h1 (rsv_s ..) (lit_s ..)] at hc
    show CallOut E3 _ A s μ W 12 xs (boolC (Nat.ble n 999999999) .fail (.ret (.str (decN n)) s false))
    rw [Nat.ble_eq_true_of_le h]; exact hc
  · have : itoaH args s = .fail := by
      unfold itoaH
      split
      · rename_i n
        cases hb : Nat.ble n 999999999 with
        | true => exact absurd ⟨n, rfl, Nat.le_of_ble_eq_true hb⟩ hi
        | false => rfl
      · rfl
    rw [this]; trivial
end
end Go.AM.S40.Sy
end
