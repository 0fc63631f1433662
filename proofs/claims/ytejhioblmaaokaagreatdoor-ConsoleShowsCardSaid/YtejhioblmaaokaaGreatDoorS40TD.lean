import Derived.Test.YtejhioblmaaokaaGreatDoorS40NJ
import Derived.Test.YtejhioblmaaokaaGreatDoorAm3
set_option linter.all false
/- Known results: the values and the tables. -/
namespace Go.AM.S40
open Go Go.Proofs
noncomputable section
def w0 : V := .str [48, 58, 32, 120, 32, 61, 32, 48, 44, 32, 121, 32, 61, 32, 97, 10]
def w1 : V := .lsl [.str [105, 110, 105, 116, 115]] 1 false
def w2 : V := .lsl [.str [97], .str [98]] 2 false
def w3 : V := .lsl [.str [120], .int .i64 46, .int .i64 10, .nils, .int .i64 0, .int .i64 0, .bool false, .nils, .str [], .nils, .nils, .lsl [.int .i64 1, .int .i64 0, .nils, .int .i64 2, .int .i64 0, .bool false, .nils, .str [], .nils, .nils, .nils, .int .i64 1, .int .i64 0, .nils, .int .i64 2, .int .i64 0, .bool false, .lsl [.int .i64 2] 1 false, .str [], .nils, .nils, .nils] 2 false, .str [121], .int .i64 22, .int .i64 0, .nils, .int .i64 0, .int .i64 0, .bool false, .nils, .str [], .nils, .nils, .lsl [.int .i64 1, .int .i64 0, .nils, .int .i64 4, .int .i64 0, .bool false, .nils, .str [97], .nils, .nils, .nils, .int .i64 1, .int .i64 0, .nils, .int .i64 4, .int .i64 0, .bool false, .nils, .str [98], .nils, .nils, .nils] 2 false] 2 false
def w4 : V := .lsl [.int .i64 2, .int .i64 0, .nils, .int .i64 0, .int .i64 0, .bool false, .nils, .str [], .nils, .nils, .nils] 1 false
def w5 : V := .lsl [.int .i64 5, .int .i64 0, .nils, .int .i64 0, .int .i64 0, .bool false, .nils, .str [], .nils, .nils, w4, .int .i64 46, .int .i64 1, .nils, .int .i64 0, .int .i64 0, .bool false, .nils, .str [], .nils, .nils, .lsl [.int .i64 2, .int .i64 0, .nils, .int .i64 0, .int .i64 0, .bool false, .nils, .str [], .nils, .nils, .nils, .int .i64 1, .int .i64 0, .nils, .int .i64 2, .int .i64 0, .bool false, .lsl [.int .i64 1] 1 false, .str [], .nils, .nils, .nils] 2 false] 2 false
def w6 : V := .lsl [.int .i64 2, .int .i64 1, .nils, .int .i64 0, .int .i64 0, .bool false, .nils, .str [], .nils, .nils, .nils] 1 false
def w7 : V := .lsl [.int .i64 2, .int .i64 1, .nils, .int .i64 0, .int .i64 0, .bool false, .nils, .str [], .nils, .nils, .nils, .int .i64 1, .int .i64 0, .nils, .int .i64 4, .int .i64 0, .bool false, .nils, .str [97], .nils, .nils, .nils] 2 false
def w8 : V := .lsl [.int .i64 19, .int .i64 0, .nils, .int .i64 0, .int .i64 0, .bool false, .nils, .str [], .nils, .nils, w7, .int .i64 19, .int .i64 0, .nils, .int .i64 0, .int .i64 0, .bool false, .nils, .str [], .nils, .nils, .lsl [.int .i64 5, .int .i64 0, .nils, .int .i64 0, .int .i64 0, .bool false, .nils, .str [], .nils, .nils, w6, .int .i64 1, .int .i64 0, .nils, .int .i64 4, .int .i64 0, .bool false, .nils, .str [98], .nils, .nils, .nils] 2 false, .int .i64 19, .int .i64 0, .nils, .int .i64 0, .int .i64 0, .bool false, .nils, .str [], .nils, .nils, .lsl [.int .i64 5, .int .i64 0, .nils, .int .i64 0, .int .i64 0, .bool false, .nils, .str [], .nils, .nils, w4, .int .i64 1, .int .i64 0, .nils, .int .i64 2, .int .i64 0, .bool false, .nils, .str [], .nils, .nils, .nils] 2 false] 3 false
def w9 : V := .lsl [.str [73, 110, 99], .nils, .bool false, .int .i64 11, .int .i64 0, .nils, .int .i64 0, .int .i64 0, .bool false, .nils, .str [], .nils, .nils, .lsl [.int .i64 19, .int .i64 0, .nils, .int .i64 0, .int .i64 0, .bool false, .nils, .str [], .nils, .nils, w5, .int .i64 45, .int .i64 0, .nils, .int .i64 0, .int .i64 0, .bool false, .nils, .str [], .nils, .nils, w6] 2 false, .str [74, 117, 109, 112], .nils, .bool false, .int .i64 11, .int .i64 0, .nils, .int .i64 0, .int .i64 0, .bool false, .nils, .str [], .nils, .nils, w8] 2 false
def w10 : V := .lsl [.int .i64 19, .int .i64 0, .nils, .int .i64 0, .int .i64 0, .bool false, .nils, .str [], .nils, .nils, .lsl [.int .i64 2, .int .i64 0, .nils, .int .i64 0, .int .i64 0, .bool false, .nils, .str [], .nils, .nils, .nils, .int .i64 1, .int .i64 0, .nils, .int .i64 2, .int .i64 0, .bool false, .nils, .str [], .nils, .nils, .nils] 2 false, .int .i64 19, .int .i64 0, .nils, .int .i64 0, .int .i64 0, .bool false, .nils, .str [], .nils, .nils, w7] 2 false
def w11 : V := .lsl [.int .i64 2, .int .i64 0, .nils, .int .i64 0, .int .i64 0, .bool false, .nils, .str [], .nils, .nils, .nils, .int .i64 1, .int .i64 0, .nils, .int .i64 2, .int .i64 0, .bool false, .lsl [.int .i64 2] 1 false, .str [], .nils, .nils, .nils] 2 false
def w12 : V := .lsl [.int .i64 46, .int .i64 8, .nils, .int .i64 0, .int .i64 0, .bool false, .nils, .str [], .nils, .nils, w11, .int .i64 12, .int .i64 0, .nils, .int .i64 0, .int .i64 0, .bool false, .nils, .str [], .nils, .nils, .lsl [.int .i64 6, .int .i64 0, .nils, .int .i64 0, .int .i64 0, .bool false, .nils, .str [], .nils, .nils, .nils, .int .i64 6, .int .i64 1, .nils, .int .i64 0, .int .i64 0, .bool false, .nils, .str [], .nils, .nils, .nils] 2 false, .int .i64 6, .int .i64 1, .nils, .int .i64 0, .int .i64 0, .bool false, .nils, .str [], .nils, .nils, .nils] 3 false
def w13 : V := .agg [w2, .nils, w3, w9, .nils, .int .i64 11, .int .i64 0, .nils, .int .i64 0, .int .i64 0, .bool false, .nils, .str [], .nils, .nils, w10, .int .i64 40, .int .i64 0, .nils, .int .i64 0, .int .i64 0, .bool false, .nils, .str [], .nils, .nils, w12, .nils, .nils, .nils, .nils, .nils, .nils, .nils, .bool false]
def w14 : V := .agg [.nils, .int .i64 0, .nils, .str [], .int .i64 0]
def w15 : V := .agg [.int .i64 4, .int .i64 0, .bool false, .nils, .str [97], .nils, .nils]
def w16 : V := .agg [.int .i64 4, .int .i64 0, .bool false, .nils, .str [98], .nils, .nils]
def w17 : V := .agg [.int .i64 4, .int .i64 0, .bool false, .nils, .str [120], .nils, .nils]
def w18 : V := .agg [.int .i64 4, .int .i64 0, .bool false, .nils, .str [121], .nils, .nils]
def w19 : V := .agg [.int .i64 2, .int .i64 0, .bool false, .lsl [.int .i64 1] 1 false, .str [], .nils, .nils]
def w20 : V := .agg [.bool false, .lsl [.int .i64 1] 1 false]
def w21 : V := .agg [.int .i64 2, .int .i64 0, .bool false, .nils, .str [], .nils, .nils]
def w22 : V := .agg [.int .i64 2, .int .i64 0, .bool false, .lsl [.int .i64 2] 1 false, .str [], .nils, .nils]
def w23 : V := .agg [.bool false, .lsl [.int .i64 2] 1 false]
def w24 : V := .lsl [.int .i64 2, .int .i64 0, .bool false, .nils, .str [], .nils, .nils, .int .i64 4, .int .i64 0, .bool false, .nils, .str [97], .nils, .nils] 2 false
def w25 : V := .lsl [w24, .nils, .nils] 1 false
def w26 : V := .tup [w25, .int .i64 0, .int .i64 0]
def w27 : V := .tup [.bool true, .int .i64 0, .int .i64 0]
def w28 : V := .lsl [.int .i64 4, .int .i64 0, .bool false, .nils, .str [97], .nils, .nils, .int .i64 4, .int .i64 0, .bool false, .nils, .str [98], .nils, .nils] 2 false
def w29 : V := .agg [.int .i64 5, .int .i64 0, .bool false, .nils, .str [], w28, .nils]
def w30 : V := .str [115, 116, 97, 116, 101, 32, 48, 10, 47, 92, 32, 120, 32, 61, 32, 48, 10, 47, 92, 32, 121, 32, 61, 32, 97, 10]
def w31 : V := .lsl [.str [105, 110, 105, 116, 32, 48]] 1 false
def w32 : V := .agg [.lsl [w24] 1 false, .int .i64 0, .nils, .str [], .int .i64 0]
def w33 : V := .str [48, 58, 32, 120, 32, 61, 32, 48, 44, 32, 121, 32, 61, 32, 98, 10, 49, 58, 32, 120, 32, 61, 32, 49, 44, 32, 121, 32, 61, 32, 97, 10]
def w34 : V := .lsl [.str [105, 110, 105, 116, 32, 48], .str [108, 105, 115, 116]] 2 false
def w35 : V := .lsl [.int .i64 2, .int .i64 0, .bool false, .nils, .str [], .nils, .nils, .int .i64 4, .int .i64 0, .bool false, .nils, .str [98], .nils, .nils] 2 false
def w36 : V := .lsl [.int .i64 2, .int .i64 0, .bool false, .lsl [.int .i64 1] 1 false, .str [], .nils, .nils, .int .i64 4, .int .i64 0, .bool false, .nils, .str [97], .nils, .nils] 2 false
def w37 : V := .tup [.lsl [w35, w36] 2 false, .int .i64 0, .int .i64 0]
def w38 : V := .lsl [w36, .lsl [.int .i64 0] 1 false, .lsl [.int .i64 0] 1 false, w35, .lsl [.int .i64 1] 1 false, .lsl [.int .i64 1] 1 false] 2 false
def w39 : V := .tup [w38, .int .i64 0, .int .i64 0]
def w40 : V := .str [48, 58, 32, 73, 110, 99, 10, 99, 104, 97, 110, 103, 101, 100, 58, 32, 120, 10]
def w41 : V := .lsl [.str [105, 110, 105, 116, 32, 48], .str [115, 116, 101, 112, 32, 49], .str [119, 104, 121]] 3 false
def w42 : V := .agg [.lsl [w24, w36] 2 false, .int .i64 1, .nils, .str [], .int .i64 0]
def w43 : V := .str [98, 114, 101, 97, 107, 32, 48, 10, 115, 116, 97, 116, 101, 32, 51, 10, 47, 92, 32, 120, 32, 61, 32, 50, 10, 47, 92, 32, 121, 32, 61, 32, 98, 10]
def w44 : V := .str [98, 114, 101, 97, 107, 32, 120, 32, 61, 32, 50]
def w45 : V := .lsl [.str [105, 110, 105, 116, 32, 48], w44, .str [103, 111, 32, 57]] 3 false
def w46 : V := .lsl [.int .i64 2, .int .i64 0, .bool false, .lsl [.int .i64 1] 1 false, .str [], .nils, .nils, .int .i64 4, .int .i64 0, .bool false, .nils, .str [98], .nils, .nils] 2 false
def w47 : V := .lsl [.int .i64 2, .int .i64 0, .bool false, .lsl [.int .i64 2] 1 false, .str [], .nils, .nils, .int .i64 4, .int .i64 0, .bool false, .nils, .str [98], .nils, .nils] 2 false
def w48 : V := .lsl [.str [120, 32, 61, 32, 50]] 1 false
def w49 : V := .agg [.int .i64 19, .int .i64 0, .nils, .int .i64 0, .int .i64 0, .bool false, .nils, .str [], .nils, .nils, w11]
def w50 : V := .tup [w49, .int .i64 0, .int .i64 0]
def w51 : V := .lsl [.int .i64 14, .int .i64 0, .str [120], .bool false, .nils, .nils, .int .i64 0, .int .i64 1, .int .i64 17, .int .i64 0, .str [], .bool false, .lsl [.int .i64 2] 1 false, .nils, .int .i64 4, .int .i64 5] 2 false
def w52 : V := .agg [.int .i64 21, .int .i64 0, .str [61], .bool false, .nils, w51, .int .i64 0, .int .i64 5]
def w53 : V := .tup [.lsl [.int .i64 1, .str [120], .bool false, .nils, .int .i64 0, .int .i64 1, .int .i64 1, .int .i64 1, .int .i64 5, .str [61], .bool false, .nils, .int .i64 2, .int .i64 3, .int .i64 1, .int .i64 3, .int .i64 2, .str [], .bool false, .lsl [.int .i64 2] 1 false, .int .i64 4, .int .i64 5, .int .i64 1, .int .i64 5] 3 false, .int .i64 0, .int .i64 0]
def w54 : V := .agg [.bool false, .lsl [.int .i64 10] 1 false]
def w55 : V := .tup [.agg [.bool false, .nils], .int .i64 0]
def w56 : V := .agg [.int .i64 17, .int .i64 0, .str [], .bool false, .lsl [.int .i64 2] 1 false, .nils, .int .i64 4, .int .i64 5, .int .i64 4, .int .i64 5]
def w57 : V := .fn (.func 280) [.agg [.bool false]] []
def w58 : V := .agg [.int .i64 14, .int .i64 0, .str [120], .bool false, .nils, .nils, .int .i64 0, .int .i64 1]
def w59 : V := .fn (.func 224) [.agg [.fn (.func 223) [] []]] []
def w60 : V := .agg [.int .i64 2, .int .i64 0, .nils, .int .i64 0, .int .i64 0, .bool false, .nils, .str [], .nils, .nils, .nils]
def w61 : V := .agg [.int .i64 1, .int .i64 0, .nils, .int .i64 2, .int .i64 0, .bool false, .lsl [.int .i64 2] 1 false, .str [], .nils, .nils, .nils]
def w62 : V := .agg [.lsl [w24] 1 false, .int .i64 0, w48, .str [], .int .i64 0]
def w63 : V := .agg [w35, .nils, .bool true, .bool false, .nils]
def w64 : V := .tup [.bool false, .int .i64 0, .int .i64 0]
def w65 : V := .agg [.int .i64 1, .int .i64 0, .bool false, .nils, .str [], .nils, .nils]
def w66 : V := .tup [w65, .int .i64 0, .int .i64 0]
def w67 : V := .tup [.lsl [w46] 1 false, .int .i64 0, .int .i64 0]
def w68 : V := .lsl [w46, .lsl [.int .i64 0] 1 false, .lsl [.int .i64 0] 1 false] 1 false
def w69 : V := .tup [w68, .int .i64 0, .int .i64 0]
def w70 : V := .agg [w46, .nils, .bool true, .bool false, .nils]
def w71 : V := .tup [.lsl [w47] 1 false, .int .i64 0, .int .i64 0]
def w72 : V := .lsl [w47, .lsl [.int .i64 0] 1 false, .lsl [.int .i64 0] 1 false] 1 false
def w73 : V := .tup [w72, .int .i64 0, .int .i64 0]
def w74 : V := .agg [w47, .nils, .bool true, .bool false, .nils]
def w75 : V := .tup [.agg [.int .i64 1, .int .i64 1, .bool false, .nils, .str [], .nils, .nils], .int .i64 0, .int .i64 0]
def w76 : V := .str [32, 32, 48, 58, 32, 120, 32, 61, 32, 48, 44, 32, 121, 32, 61, 32, 97, 10, 32, 32, 49, 58, 32, 120, 32, 61, 32, 49, 44, 32, 121, 32, 61, 32, 97, 10, 62, 32, 50, 58, 32, 120, 32, 61, 32, 50, 44, 32, 121, 32, 61, 32, 97, 10]
def w77 : V := .str [102, 105, 110, 100, 32, 120, 32, 61, 32, 50]
def w78 : V := .lsl [.str [105, 110, 105, 116, 32, 48], w77, .str [114, 117, 110]] 3 false
def w79 : V := .lsl [.int .i64 2, .int .i64 0, .bool false, .lsl [.int .i64 2] 1 false, .str [], .nils, .nils, .int .i64 4, .int .i64 0, .bool false, .nils, .str [97], .nils, .nils] 2 false
def w80 : V := .agg [.lsl [w24, w36, w79] 3 false, .int .i64 2, .nils, .str [], .int .i64 0]
def w81 : V := .agg [w24, .nils, .bool true, .bool false, .nils]
def w82 : V := .agg [w36, .nils, .bool true, .bool false, .nils]
def w83 : V := .tup [.lsl [w35, w79] 2 false, .int .i64 0, .int .i64 0]
def w84 : V := .lsl [w79, .lsl [.int .i64 0] 1 false, .lsl [.int .i64 0] 1 false, w35, .lsl [.int .i64 1] 1 false, .lsl [.int .i64 1] 1 false] 2 false
def w85 : V := .tup [w84, .int .i64 0, .int .i64 0]
def w86 : V := .agg [w79, .nils, .bool true, .bool false, .nils]
def w87 : V := .str [101, 118, 97, 108, 32, 49, 32, 43, 32, 49]
def w88 : V := .lsl [.int .i64 1, .int .i64 0, .nils, .int .i64 2, .int .i64 0, .bool false, .lsl [.int .i64 1] 1 false, .str [], .nils, .nils, .nils, .int .i64 1, .int .i64 0, .nils, .int .i64 2, .int .i64 0, .bool false, .lsl [.int .i64 1] 1 false, .str [], .nils, .nils, .nils] 2 false
def w89 : V := .agg [.int .i64 46, .int .i64 1, .nils, .int .i64 0, .int .i64 0, .bool false, .nils, .str [], .nils, .nils, w88]
def w90 : V := .tup [w89, .int .i64 0, .int .i64 0]
def w91 : V := .lsl [.int .i64 17, .int .i64 0, .str [], .bool false, .lsl [.int .i64 1] 1 false, .nils, .int .i64 0, .int .i64 1, .int .i64 17, .int .i64 0, .str [], .bool false, .lsl [.int .i64 1] 1 false, .nils, .int .i64 4, .int .i64 5] 2 false
def w92 : V := .agg [.int .i64 21, .int .i64 0, .str [43], .bool false, .nils, w91, .int .i64 0, .int .i64 5]
def w93 : V := .tup [.lsl [.int .i64 2, .str [], .bool false, .lsl [.int .i64 1] 1 false, .int .i64 0, .int .i64 1, .int .i64 1, .int .i64 1, .int .i64 5, .str [43], .bool false, .nils, .int .i64 2, .int .i64 3, .int .i64 1, .int .i64 3, .int .i64 2, .str [], .bool false, .lsl [.int .i64 1] 1 false, .int .i64 4, .int .i64 5, .int .i64 1, .int .i64 5] 3 false, .int .i64 0, .int .i64 0]
def w94 : V := .lsl [.int .i64 17, .int .i64 0, .str [], .bool false, .lsl [.int .i64 1] 1 false, .nils, .int .i64 0, .int .i64 1, .int .i64 0, .int .i64 1] 1 false
def w95 : V := .agg [.int .i64 1, .int .i64 0, .nils, .int .i64 2, .int .i64 0, .bool false, .lsl [.int .i64 1] 1 false, .str [], .nils, .nils, .nils]
def w96 : V := .agg [.nils, .nils, .bool false, .bool false, .nils]
def w97 : V := .tup [w22, .int .i64 0, .int .i64 0]
def w98 : V := .str [102, 97, 117, 108, 116, 32, 56, 10]
def w99 : V := .lsl [.str [101, 118, 97, 108, 32, 120]] 1 false
def w100 : V := .tup [w60, .int .i64 0, .int .i64 0]
def w101 : V := .str [62, 32, 45, 32, 49, 57, 10, 32, 32, 62, 32, 45, 46, 48, 32, 49, 10, 32, 32, 60, 32, 45, 46, 48, 32, 49, 10, 32, 32, 62, 32, 45, 46, 49, 32, 49, 10, 32, 32, 60, 32, 45, 46, 49, 32, 50, 10, 60, 32, 45, 32, 70, 65, 76, 83, 69, 10]
def w102 : V := .str [116, 114, 97, 99, 101, 32, 49, 32, 61, 32, 50]
def w103 : V := .lsl [.int .i64 1, .int .i64 0, .nils, .int .i64 2, .int .i64 0, .bool false, .lsl [.int .i64 1] 1 false, .str [], .nils, .nils, .nils, .int .i64 1, .int .i64 0, .nils, .int .i64 2, .int .i64 0, .bool false, .lsl [.int .i64 2] 1 false, .str [], .nils, .nils, .nils] 2 false
def w104 : V := .agg [.int .i64 19, .int .i64 0, .nils, .int .i64 0, .int .i64 0, .bool false, .nils, .str [], .nils, .nils, w103]
def w105 : V := .tup [w104, .int .i64 0, .int .i64 0]
def w106 : V := .lsl [.int .i64 17, .int .i64 0, .str [], .bool false, .lsl [.int .i64 1] 1 false, .nils, .int .i64 0, .int .i64 1, .int .i64 17, .int .i64 0, .str [], .bool false, .lsl [.int .i64 2] 1 false, .nils, .int .i64 4, .int .i64 5] 2 false
def w107 : V := .agg [.int .i64 21, .int .i64 0, .str [61], .bool false, .nils, w106, .int .i64 0, .int .i64 5]
def w108 : V := .tup [.lsl [.int .i64 2, .str [], .bool false, .lsl [.int .i64 1] 1 false, .int .i64 0, .int .i64 1, .int .i64 1, .int .i64 1, .int .i64 5, .str [61], .bool false, .nils, .int .i64 2, .int .i64 3, .int .i64 1, .int .i64 3, .int .i64 2, .str [], .bool false, .lsl [.int .i64 2] 1 false, .int .i64 4, .int .i64 5, .int .i64 1, .int .i64 5] 3 false, .int .i64 0, .int .i64 0]
def w109 : V := .lsl [.bool false, .int .i64 19, .int .i64 (-1), .nils, .int .i64 0, .int .i64 0, .int .i64 0, .bool false, .nils, .str [], .nils, .nils, .int .i64 0, .nils, .bool false, .int .i64 1, .int .i64 (-1), .lsl [.int .i64 0] 1 false, .int .i64 1, .int .i64 0, .int .i64 0, .bool false, .nils, .str [], .nils, .nils, .int .i64 0, .nils, .bool true, .int .i64 1, .int .i64 (-1), .lsl [.int .i64 0] 1 false, .int .i64 1, .int .i64 2, .int .i64 0, .bool false, .lsl [.int .i64 1] 1 false, .str [], .nils, .nils, .int .i64 0, .nils, .bool false, .int .i64 1, .int .i64 (-1), .lsl [.int .i64 1] 1 false, .int .i64 1, .int .i64 0, .int .i64 0, .bool false, .nils, .str [], .nils, .nils, .int .i64 0, .nils, .bool true, .int .i64 1, .int .i64 (-1), .lsl [.int .i64 1] 1 false, .int .i64 1, .int .i64 2, .int .i64 0, .bool false, .lsl [.int .i64 2] 1 false, .str [], .nils, .nils, .int .i64 0, .nils, .bool true, .int .i64 19, .int .i64 (-1), .nils, .int .i64 0, .int .i64 1, .int .i64 0, .bool false, .nils, .str [], .nils, .nils, .int .i64 0, .nils] 6 false
def w110 : V := .str [101, 114, 114, 111, 114, 32, 52, 48, 50, 32, 97, 116, 32, 48, 10]
def w111 : V := .lsl [.str [115, 116, 101, 112, 32, 48]] 1 false
def w112 : V := .str [101, 114, 114, 111, 114, 32, 52, 48, 48, 32, 97, 116, 32, 48, 10]
def w113 : V := .lsl [.str [98, 111, 103, 117, 115]] 1 false
/-- foregone/foregonelaw40.Sample -/
def tn1_21 : List (List V × V) := [([], w13)]
/-- foregone/value.sized -/
def tn1_579 : List (List V × V) := [([w15, .int .i64 8000, .int .i64 50], .tup [.int .i64 1, .int .i64 1]), ([w16, .int .i64 8000, .int .i64 50], .tup [.int .i64 1, .int .i64 1]), ([w17, .int .i64 8000, .int .i64 50], .tup [.int .i64 1, .int .i64 1]), ([w18, .int .i64 8000, .int .i64 50], .tup [.int .i64 1, .int .i64 1]), ([w19, .int .i64 8000, .int .i64 50], .tup [.int .i64 1, .int .i64 1]), ([w21, .int .i64 8000, .int .i64 50], .tup [.int .i64 1, .int .i64 1]), ([w22, .int .i64 8000, .int .i64 50], .tup [.int .i64 1, .int .i64 1]), ([w29, .int .i64 8000, .int .i64 50], .tup [.int .i64 3, .int .i64 2]), ([w65, .int .i64 8000, .int .i64 50], .tup [.int .i64 1, .int .i64 1])]
/-- foregone/value.named -/
def tn1_583 : List (List V × V) := [([.str [97]], .bool true), ([.str [98]], .bool true), ([.str [120]], .bool true), ([.str [121]], .bool true)]
/-- foregone/num.Check -/
def tn1_418 : List (List V × V) := [([w20], .int .i64 0), ([w23], .int .i64 0), ([w54], .int .i64 0)]
/-- foregone/value.formed -/
def tn1_385 : List (List V × V) := [([w21], .bool true)]
/-- foregone/console.isSession -/
def tn1_47 : List (List V × V) := [([w13, w14], .bool true)]
/-- foregone/console.find[byte] -/
def tn1_23 : List (List V × V) := [([.lsl [.int .u8 105, .int .u8 110, .int .u8 105, .int .u8 116, .int .u8 115] 5 false, .fn (.func 24) [] []], .tup [.int .i64 0, .bool false]), ([.lsl [.int .u8 105, .int .u8 110, .int .u8 105, .int .u8 116, .int .u8 32, .int .u8 48] 6 false, .fn (.func 24) [] []], .tup [.int .i64 0, .bool false]), ([.lsl [.int .u8 108, .int .u8 105, .int .u8 115, .int .u8 116] 4 false, .fn (.func 24) [] []], .tup [.int .i64 0, .bool false]), ([.lsl [.int .u8 115, .int .u8 116, .int .u8 101, .int .u8 112, .int .u8 32, .int .u8 49] 6 false, .fn (.func 24) [] []], .tup [.int .i64 0, .bool false]), ([.lsl [.int .u8 119, .int .u8 104, .int .u8 121] 3 false, .fn (.func 24) [] []], .tup [.int .i64 0, .bool false]), ([.lsl [.int .u8 98, .int .u8 114, .int .u8 101, .int .u8 97, .int .u8 107, .int .u8 32, .int .u8 120, .int .u8 32, .int .u8 61, .int .u8 32, .int .u8 50] 11 false, .fn (.func 24) [] []], .tup [.int .i64 0, .bool false]), ([.lsl [.int .u8 103, .int .u8 111, .int .u8 32, .int .u8 57] 4 false, .fn (.func 24) [] []], .tup [.int .i64 0, .bool false]), ([.lsl [.int .u8 102, .int .u8 105, .int .u8 110, .int .u8 100, .int .u8 32, .int .u8 120, .int .u8 32, .int .u8 61, .int .u8 32, .int .u8 50] 10 false, .fn (.func 24) [] []], .tup [.int .i64 0, .bool false]), ([.lsl [.int .u8 114, .int .u8 117, .int .u8 110] 3 false, .fn (.func 24) [] []], .tup [.int .i64 0, .bool false]), ([.lsl [.int .u8 101, .int .u8 118, .int .u8 97, .int .u8 108, .int .u8 32, .int .u8 49, .int .u8 32, .int .u8 43, .int .u8 32, .int .u8 49] 10 false, .fn (.func 24) [] []], .tup [.int .i64 0, .bool false]), ([.lsl [.int .u8 101, .int .u8 118, .int .u8 97, .int .u8 108, .int .u8 32, .int .u8 120] 6 false, .fn (.func 24) [] []], .tup [.int .i64 0, .bool false]), ([.lsl [.int .u8 116, .int .u8 114, .int .u8 97, .int .u8 99, .int .u8 101, .int .u8 32, .int .u8 49, .int .u8 32, .int .u8 61, .int .u8 32, .int .u8 50] 11 false, .fn (.func 24) [] []], .tup [.int .i64 0, .bool false]), ([.lsl [.int .u8 115, .int .u8 116, .int .u8 101, .int .u8 112, .int .u8 32, .int .u8 48] 6 false, .fn (.func 24) [] []], .tup [.int .i64 0, .bool false]), ([.lsl [.int .u8 98, .int .u8 111, .int .u8 103, .int .u8 117, .int .u8 115] 5 false, .fn (.func 24) [] []], .tup [.int .i64 0, .bool false])]
/-- foregone/console.end -/
def tn1_16 : List (List V × V) := [([.str [105, 110, 105, 116, 115], .int .i64 0], .int .i64 5), ([.str [105, 110, 105, 116, 32, 48], .int .i64 0], .int .i64 4), ([.str [108, 105, 115, 116], .int .i64 0], .int .i64 4), ([.str [115, 116, 101, 112, 32, 49], .int .i64 0], .int .i64 4), ([w44, .int .i64 0], .int .i64 5), ([w77, .int .i64 0], .int .i64 4), ([w87, .int .i64 0], .int .i64 4), ([.str [101, 118, 97, 108, 32, 120], .int .i64 0], .int .i64 4), ([w102, .int .i64 0], .int .i64 5), ([.str [115, 116, 101, 112, 32, 48], .int .i64 0], .int .i64 4), ([.str [98, 111, 103, 117, 115], .int .i64 0], .int .i64 5)]
/-- foregone/num.Compare -/
def tn1_682 : List (List V × V) := [([.agg [.bool false, .nils], .agg [.bool false, .nils]], .int .i64 0), ([.agg [.bool false, .nils], w23], .int .i64 (-1)), ([.agg [.bool false, .nils], w20], .int .i64 (-1))]
/-- foregone/value.Compare -/
def tn1_235 : List (List V × V) := [([w16, w15], .int .i64 1), ([w15, w16], .int .i64 (-1)), ([w15, w15], .int .i64 0), ([w16, w16], .int .i64 0), ([w21, w19], .int .i64 (-1)), ([w19, w21], .int .i64 1), ([w21, w22], .int .i64 (-1)), ([w22, w21], .int .i64 1)]
/-- foregone/next.states -/
def tn1_208 : List (List V × V) := [([w25], .lsl [w24] 1 false), ([w68], .lsl [w46] 1 false), ([w72], .lsl [w47] 1 false)]
/-- foregone/num.written -/
def tn1_811 : List (List V × V) := [([.agg [.bool false, .nils]], .str [48]), ([w20], .str [49]), ([w23], .str [50])]
/-- foregone/value.text -/
def tn1_310 : List (List V × V) := [([w15], .str [97]), ([w16], .str [98]), ([w65], .str [70, 65, 76, 83, 69])]
/-- strings.Join -/
def tn1_176 : List (List V × V) := [([.lsl [.str [120, 32, 61, 32, 48], .str [121, 32, 61, 32, 97]] 2 false, .str [44, 32]], .str [120, 32, 61, 32, 48, 44, 32, 121, 32, 61, 32, 97]), ([.lsl [.str [120, 32, 61, 32, 48], .str [121, 32, 61, 32, 98]] 2 false, .str [44, 32]], .str [120, 32, 61, 32, 48, 44, 32, 121, 32, 61, 32, 98]), ([.lsl [.str [120, 32, 61, 32, 49], .str [121, 32, 61, 32, 97]] 2 false, .str [44, 32]], .str [120, 32, 61, 32, 49, 44, 32, 121, 32, 61, 32, 97]), ([.lsl [.str [120, 32, 61, 32, 50], .str [121, 32, 61, 32, 97]] 2 false, .str [44, 32]], .str [120, 32, 61, 32, 50, 44, 32, 121, 32, 61, 32, 97])]
/-- strconv.Atoi -/
def tn1_30 : List (List V × V) := [([.str [48]], .tup [.int .i64 0, .nili]), ([.str [49]], .tup [.int .i64 1, .nili]), ([.str [57]], .tup [.int .i64 9, .nili])]
/-- foregone/console.copied -/
def tn1_49 : List (List V × V) := [([w24], w24), ([w36], w36), ([w35], w35), ([w46], w46), ([w47], w47), ([w79], w79)]
/-- foregone/num.sum -/
def tn1_961 : List (List V × V) := [([.agg [.bool false, .nils], w20], w20), ([.agg [.bool false, .nils], w23], w23), ([w20, w20], w23)]
/-- (foregone/num.size).compare -/
def tn1_836 : List (List V × V) := [([.lsl [.int .i64 1] 1 false, .lsl [.int .i64 2] 1 false], .int .i64 (-1)), ([.lsl [.int .i64 2] 1 false, .lsl [.int .i64 2] 1 false], .int .i64 0)]
/-- foregone/value.integers -/
def tn1_319 : List (List V × V) := [([w20, w20], .int .i64 0), ([w20, w23], .int .i64 (-1)), ([w23, w23], .int .i64 0)]
/-- foregone/num.mul -/
def tn1_917 : List (List V × V) := [([.agg [.bool false, .nils], w54], .agg [.bool false, .nils])]
/-- strings.Fields -/
def tn1_609 : List (List V × V) := [([.str [61, 62]], .lsl [.str [61, 62]] 1 false), ([.str [60, 61, 62, 32, 126, 62]], .lsl [.str [60, 61, 62], .str [126, 62]] 2 false), ([.str [47, 92, 32, 92, 47]], .lsl [.str [47, 92], .str [92, 47]] 2 false), ([.str [61, 32, 35, 32, 60, 32, 62, 32, 60, 61, 32, 62, 61, 32, 92, 105, 110, 32, 92, 110, 111, 116, 105, 110, 32, 92, 115, 117, 98, 115, 101, 116, 101, 113, 32, 92, 115, 117, 112, 115, 101, 116, 101, 113]], .lsl [.str [61], .str [35], .str [60], .str [62], .str [60, 61], .str [62, 61], .str [92, 105, 110], .str [92, 110, 111, 116, 105, 110], .str [92, 115, 117, 98, 115, 101, 116, 101, 113], .str [92, 115, 117, 112, 115, 101, 116, 101, 113]] 10 false), ([.str [92, 115, 113, 115, 117, 98, 115, 101, 116, 101, 113, 32, 92, 112, 114, 101, 99, 32, 92, 115, 117, 99, 99, 32, 92, 115, 105, 109]], .lsl [.str [92, 115, 113, 115, 117, 98, 115, 101, 116, 101, 113], .str [92, 112, 114, 101, 99], .str [92, 115, 117, 99, 99], .str [92, 115, 105, 109]] 4 false), ([.str [92, 99, 100, 111, 116]], .lsl [.str [92, 99, 100, 111, 116]] 1 false), ([.str [64, 64]], .lsl [.str [64, 64]] 1 false), ([.str [58, 62]], .lsl [.str [58, 62]] 1 false), ([.str [92, 99, 117, 112, 32, 92, 99, 97, 112]], .lsl [.str [92, 99, 117, 112], .str [92, 99, 97, 112]] 2 false), ([.str [92]], .lsl [.str [92]] 1 false), ([.str [46, 46]], .lsl [.str [46, 46]] 1 false), ([.str [46, 46, 46]], .lsl [.str [46, 46, 46]] 1 false), ([.str [36, 32, 36, 36, 32, 63, 63, 32, 35, 35, 32, 92, 115, 113, 99, 117, 112, 32, 92, 115, 113, 99, 97, 112]], .lsl [.str [36], .str [36, 36], .str [63, 63], .str [35, 35], .str [92, 115, 113, 99, 117, 112], .str [92, 115, 113, 99, 97, 112]] 6 false), ([.str [43]], .lsl [.str [43]] 1 false), ([.str [40, 43, 41, 32, 43, 43]], .lsl [.str [40, 43, 41], .str [43, 43]] 2 false), ([.str [37]], .lsl [.str [37]] 1 false), ([.str [37, 37, 32, 124, 32, 124, 124]], .lsl [.str [37, 37], .str [124], .str [124, 124]] 3 false), ([.str [92, 88]], .lsl [.str [92, 88]] 1 false), ([.str [45]], .lsl [.str [45]] 1 false), ([.str [40, 45, 41, 32, 45, 45]], .lsl [.str [40, 45, 41], .str [45, 45]] 2 false), ([.str [42, 32, 92, 111]], .lsl [.str [42], .str [92, 111]] 2 false), ([.str [92, 100, 105, 118]], .lsl [.str [92, 100, 105, 118]] 1 false), ([.str [47, 32, 47, 47]], .lsl [.str [47], .str [47, 47]] 2 false), ([.str [42, 42, 32, 40, 46, 41, 32, 38, 32, 38, 38, 32, 92, 115, 116, 97, 114, 32, 92, 98, 117, 108, 108, 101, 116]], .lsl [.str [42, 42], .str [40, 46, 41], .str [38], .str [38, 38], .str [92, 115, 116, 97, 114], .str [92, 98, 117, 108, 108, 101, 116]] 6 false), ([.str [94]], .lsl [.str [94]] 1 false), ([.str [94, 94]], .lsl [.str [94, 94]] 1 false)]
/-- (foregone/parse.waiting).applied -/
def tn1_404 : List (List V × V) := [([.agg [.str [61], .int .i64 5, .int .i64 5, .bool false, .lsl [.int .i64 14, .int .i64 0, .str [120], .bool false, .nils, .nils, .int .i64 0, .int .i64 1, .int .i64 0, .int .i64 1] 1 false, .int .i64 2], w56], .agg [.int .i64 21, .int .i64 0, .str [61], .bool false, .nils, w51, .int .i64 0, .int .i64 5, .int .i64 0, .int .i64 5]), ([.agg [.str [43], .int .i64 10, .int .i64 10, .bool true, w94, .int .i64 2], .agg [.int .i64 17, .int .i64 0, .str [], .bool false, .lsl [.int .i64 1] 1 false, .nils, .int .i64 4, .int .i64 5, .int .i64 4, .int .i64 5]], .agg [.int .i64 21, .int .i64 0, .str [43], .bool false, .nils, w91, .int .i64 0, .int .i64 5, .int .i64 0, .int .i64 5]), ([.agg [.str [61], .int .i64 5, .int .i64 5, .bool false, w94, .int .i64 2], w56], .agg [.int .i64 21, .int .i64 0, .str [61], .bool false, .nils, w106, .int .i64 0, .int .i64 5, .int .i64 0, .int .i64 5])]
/-- foregone/parse.Size -/
def tn1_276 : List (List V × V) := [([w52], .tup [.int .i64 3, .int .i64 2]), ([w92], .tup [.int .i64 3, .int .i64 2]), ([w107], .tup [.int .i64 3, .int .i64 2])]
/-- foregone/lex.Tokens -/
def tn1_272 : List (List V × V) := [([.str [120]], .tup [.lsl [.int .i64 1, .str [120], .bool false, .nils, .int .i64 0, .int .i64 1, .int .i64 1, .int .i64 1] 1 false, .int .i64 0, .int .i64 0])]
/-- (foregone/elab.copier).expr -/
def tn1_224 : List (List V × V) := [([.agg [.fn (.func 223) [] []], w60], w60), ([.agg [.fn (.func 223) [] []], w61], w61), ([.agg [.fn (.func 223) [] []], w95], w95)]
/-- foregone/elab.small -/
def tn1_228 : List (List V × V) := [([w49], .bool true), ([w89], .bool true), ([w104], .bool true)]
/-- foregone/mean.isExpr -/
def tn1_229 : List (List V × V) := [([w13, w60, .int .i64 0], .bool true)]
/-- internal/strconv.FormatInt -/
def tn1_40 : List (List V × V) := [([.int .i64 402, .int .i64 10], .str [52, 48, 50]), ([.int .i64 400, .int .i64 10], .str [52, 48, 48])]
def tabs1 : Tabs := [(16, tn1_16), (21, tn1_21), (23, tn1_23), (30, tn1_30), (40, tn1_40), (47, tn1_47), (49, tn1_49), (176, tn1_176), (208, tn1_208), (224, tn1_224), (228, tn1_228), (229, tn1_229), (235, tn1_235), (272, tn1_272), (276, tn1_276), (310, tn1_310), (319, tn1_319), (385, tn1_385), (404, tn1_404), (418, tn1_418), (579, tn1_579), (583, tn1_583), (609, tn1_609), (682, tn1_682), (811, tn1_811), (836, tn1_836), (917, tn1_917), (961, tn1_961)]
def F1 : Env := layer E3 E3 3000 tabs1
/-- foregone/value.fits -/
def tn2_383 : List (List V × V) := [([w15], .bool true), ([w16], .bool true), ([w17], .bool true), ([w18], .bool true), ([w19], .bool true), ([w21], .bool true), ([w22], .bool true), ([w29], .bool true), ([w65], .bool true)]
/-- foregone/value.formed -/
def tn2_385 : List (List V × V) := [([w15], .bool true), ([w16], .bool true), ([w17], .bool true), ([w18], .bool true), ([w19], .bool true), ([w22], .bool true)]
def tb2_385 : List (List V × V) := app tn2_385 tn1_385
/-- foregone/console.odd -/
def tn2_13 : List (List V × V) := [([.str [105, 110, 105, 116, 115]], .tup [.int .i64 0, .bool false]), ([.str [105, 110, 105, 116, 32, 48]], .tup [.int .i64 0, .bool false]), ([.str [108, 105, 115, 116]], .tup [.int .i64 0, .bool false]), ([.str [115, 116, 101, 112, 32, 49]], .tup [.int .i64 0, .bool false]), ([.str [119, 104, 121]], .tup [.int .i64 0, .bool false]), ([w44], .tup [.int .i64 0, .bool false]), ([.str [103, 111, 32, 57]], .tup [.int .i64 0, .bool false]), ([w77], .tup [.int .i64 0, .bool false]), ([.str [114, 117, 110]], .tup [.int .i64 0, .bool false]), ([w87], .tup [.int .i64 0, .bool false]), ([.str [101, 118, 97, 108, 32, 120]], .tup [.int .i64 0, .bool false]), ([w102], .tup [.int .i64 0, .bool false]), ([.str [115, 116, 101, 112, 32, 48]], .tup [.int .i64 0, .bool false]), ([.str [98, 111, 103, 117, 115]], .tup [.int .i64 0, .bool false])]
/-- foregone/value.Same -/
def tn2_166 : List (List V × V) := [([w16, w15], .bool false), ([w15, w15], .bool true), ([w19, w21], .bool false), ([w21, w19], .bool false), ([w21, w22], .bool false), ([w22, w21], .bool false)]
/-- foregone/value.rising -/
def tn2_584 : List (List V × V) := [([w28], .bool true)]
/-- foregone/value.place -/
def tn2_718 : List (List V × V) := [([w28, w15], .tup [.int .i64 0, .bool true]), ([w28, w16], .tup [.int .i64 1, .bool true])]
/-- foregone/num.Text -/
def tn2_646 : List (List V × V) := [([.agg [.bool false, .nils]], .tup [.str [48], .int .i64 0]), ([w20], .tup [.str [49], .int .i64 0]), ([w23], .tup [.str [50], .int .i64 0])]
/-- foregone/console.numbered -/
def tn2_19 : List (List V × V) := [([.str [48]], .tup [.int .i64 0, .bool true]), ([.str [49]], .tup [.int .i64 1, .bool true]), ([.str [57]], .tup [.int .i64 9, .bool true])]
/-- foregone/console.kept -/
def tn2_32 : List (List V × V) := [([w32], w32), ([w42], w42), ([w62], w62), ([w80], w80)]
/-- foregone/num.are -/
def tn2_858 : List (List V × V) := [([.lsl [.bool false, .nils, .bool false, .lsl [.int .i64 1] 1 false] 2 false], .int .i64 0), ([.lsl [.bool false, .nils, .bool false, .lsl [.int .i64 10] 1 false] 2 false], .int .i64 0), ([.lsl [.bool false, .nils, .bool false, .lsl [.int .i64 2] 1 false] 2 false], .int .i64 0), ([.lsl [.bool false, .lsl [.int .i64 1] 1 false, .bool false, .lsl [.int .i64 1] 1 false] 2 false], .int .i64 0)]
/-- foregone/num.Compare -/
def tn2_682 : List (List V × V) := [([w20, w23], .int .i64 (-1)), ([w23, w23], .int .i64 0)]
def tb2_682 : List (List V × V) := app tn2_682 tn1_682
/-- foregone/mean.CompareStates -/
def tn2_265 : List (List V × V) := [([w35, w36], .int .i64 (-1)), ([w35, w79], .int .i64 (-1))]
/-- foregone/value.Compare -/
def tn2_235 : List (List V × V) := [([w19, w19], .int .i64 0), ([w19, w22], .int .i64 (-1)), ([w22, w22], .int .i64 0)]
def tb2_235 : List (List V × V) := app tn2_235 tn1_235
/-- foregone/parse.small -/
def tn2_279 : List (List V × V) := [([w52], .bool true), ([w92], .bool true), ([w107], .bool true)]
/-- foregone/parse.Infix -/
def tn2_415 : List (List V × V) := [([.str [61]], .tup [.agg [.int .i64 5, .int .i64 5, .bool false], .bool true]), ([.str [43]], .tup [.agg [.int .i64 10, .int .i64 10, .bool true], .bool true])]
/-- foregone/lex.Kind -/
def tn2_628 : List (List V × V) := [([.str [120]], .int .i64 1)]
/-- (foregone/parse.grammar).expr -/
def tn2_280 : List (List V × V) := [([.agg [.bool false], .agg [.int .i64 17, .int .i64 0, .str [], .bool false, .lsl [.int .i64 2] 1 false, .nils, .int .i64 4, .int .i64 5]], .bool true), ([.agg [.bool false], .agg [.int .i64 17, .int .i64 0, .str [], .bool false, .lsl [.int .i64 1] 1 false, .nils, .int .i64 0, .int .i64 1]], .bool true), ([.agg [.bool false], .agg [.int .i64 17, .int .i64 0, .str [], .bool false, .lsl [.int .i64 1] 1 false, .nils, .int .i64 4, .int .i64 5]], .bool true)]
/-- foregone/elab.mapped[foregone/api.Expr] -/
def tn2_283 : List (List V × V) := [([w11, w59], w11), ([w88, w59], w88), ([w103, w59], w103)]
/-- foregone/parse.read -/
def tn2_216 : List (List V × V) := [([.str [120], .fn (.func 217) [] []], .tup [.lsl [.int .i64 14, .int .i64 0, .str [120], .bool false, .nils, .nils, .int .i64 0, .int .i64 1] 1 false, .int .i64 0, .int .i64 0])]
/-- internal/strconv.Itoa -/
def tn2_22 : List (List V × V) := [([.int .i64 402], .str [52, 48, 50]), ([.int .i64 400], .str [52, 48, 48])]
def tabs2 : Tabs := [(13, tn2_13), (16, tn1_16), (19, tn2_19), (21, tn1_21), (22, tn2_22), (23, tn1_23), (30, tn1_30), (32, tn2_32), (40, tn1_40), (47, tn1_47), (49, tn1_49), (166, tn2_166), (176, tn1_176), (208, tn1_208), (216, tn2_216), (224, tn1_224), (228, tn1_228), (229, tn1_229), (235, tb2_235), (265, tn2_265), (272, tn1_272), (276, tn1_276), (279, tn2_279), (280, tn2_280), (283, tn2_283), (310, tn1_310), (319, tn1_319), (383, tn2_383), (385, tb2_385), (404, tn1_404), (415, tn2_415), (418, tn1_418), (579, tn1_579), (583, tn1_583), (584, tn2_584), (609, tn1_609), (628, tn2_628), (646, tn2_646), (682, tb2_682), (718, tn2_718), (811, tn1_811), (836, tn1_836), (858, tn2_858), (917, tn1_917), (961, tn1_961)]
def F2 : Env := layer E3 F1 3000 tabs2
/-- foregone/value.is -/
def tn3_253 : List (List V × V) := [([w15], .bool true), ([w16], .bool true), ([w17], .bool true), ([w18], .bool true), ([w19], .bool true), ([w21], .bool true), ([w22], .bool true), ([w65], .bool true)]
/-- foregone/console.Read -/
def tn3_6 : List (List V × V) := [([.str [105, 110, 105, 116, 115]], .tup [.agg [.int .i64 1, .int .i64 0, .str []], .int .i64 0, .int .i64 0]), ([.str [105, 110, 105, 116, 32, 48]], .tup [.agg [.int .i64 2, .int .i64 0, .str []], .int .i64 0, .int .i64 0]), ([.str [108, 105, 115, 116]], .tup [.agg [.int .i64 3, .int .i64 0, .str []], .int .i64 0, .int .i64 0]), ([.str [115, 116, 101, 112, 32, 49]], .tup [.agg [.int .i64 4, .int .i64 1, .str []], .int .i64 0, .int .i64 0]), ([.str [119, 104, 121]], .tup [.agg [.int .i64 10, .int .i64 0, .str []], .int .i64 0, .int .i64 0]), ([w44], .tup [.agg [.int .i64 12, .int .i64 0, .str [120, 32, 61, 32, 50]], .int .i64 0, .int .i64 0]), ([.str [103, 111, 32, 57]], .tup [.agg [.int .i64 15, .int .i64 9, .str []], .int .i64 0, .int .i64 0]), ([w77], .tup [.agg [.int .i64 16, .int .i64 0, .str [120, 32, 61, 32, 50]], .int .i64 0, .int .i64 0]), ([.str [114, 117, 110]], .tup [.agg [.int .i64 9, .int .i64 0, .str []], .int .i64 0, .int .i64 0]), ([w87], .tup [.agg [.int .i64 11, .int .i64 0, .str [49, 32, 43, 32, 49]], .int .i64 0, .int .i64 0]), ([.str [101, 118, 97, 108, 32, 120]], .tup [.agg [.int .i64 11, .int .i64 0, .str [120]], .int .i64 0, .int .i64 0]), ([w102], .tup [.agg [.int .i64 18, .int .i64 0, .str [49, 32, 61, 32, 50]], .int .i64 0, .int .i64 0]), ([.str [115, 116, 101, 112, 32, 48]], .tup [.agg [.int .i64 4, .int .i64 0, .str []], .int .i64 0, .int .i64 0]), ([.str [98, 111, 103, 117, 115]], .tup [.agg [.int .i64 0, .int .i64 0, .str []], .int .i64 0, .int .i64 400])]
/-- foregone/value.limited -/
def tn3_713 : List (List V × V) := [([w29], .tup [w29, .int .i64 0])]
/-- foregone/value.formed -/
def tn3_385 : List (List V × V) := [([w29], .bool true)]
def tb3_385 : List (List V × V) := app tn3_385 tb2_385
/-- foregone/value.text -/
def tn3_310 : List (List V × V) := [([w21], .str [48]), ([w19], .str [49]), ([w22], .str [50])]
def tb3_310 : List (List V × V) := app tn3_310 tn1_310
/-- foregone/num.combined -/
def tn3_857 : List (List V × V) := [([.int .u8 43, .agg [.bool false, .nils], w20], .tup [w20, .int .i64 0]), ([.int .u8 42, .agg [.bool false, .nils], w54], w55), ([.int .u8 43, .agg [.bool false, .nils], w23], .tup [w23, .int .i64 0]), ([.int .u8 43, w20, w20], .tup [w23, .int .i64 0])]
/-- foregone/next.states$1 -/
def tn3_267 : List (List V × V) := [([w36, w35], .bool false), ([w79, w35], .bool false)]
/-- foregone/value.Same -/
def tn3_166 : List (List V × V) := [([w19, w19], .bool true), ([w19, w22], .bool false), ([w22, w22], .bool true)]
def tb3_166 : List (List V × V) := app tn3_166 tn2_166
/-- foregone/console.same -/
def tn3_164 : List (List V × V) := [([w35, w36], .bool false)]
/-- foregone/parse.isName -/
def tn3_411 : List (List V × V) := [([.str [120]], .bool true)]
/-- (foregone/elab.copier).expr -/
def tn3_224 : List (List V × V) := [([.agg [.fn (.func 223) [] []], w49], w49), ([.agg [.fn (.func 223) [] []], w89], w89), ([.agg [.fn (.func 223) [] []], w104], w104)]
def tb3_224 : List (List V × V) := app tn3_224 tn1_224
/-- foregone/parse.all -/
def tn3_409 : List (List V × V) := [([w91, w57], .bool true), ([w106, w57], .bool true)]
/-- foregone/parse.Expr -/
def tn3_150 : List (List V × V) := [([.str [120]], .tup [w58, .int .i64 0, .int .i64 0])]
/-- strconv.Itoa -/
def tn3_12 : List (List V × V) := [([.int .i64 402], .str [52, 48, 50]), ([.int .i64 400], .str [52, 48, 48])]
def tabs3 : Tabs := [(6, tn3_6), (12, tn3_12), (13, tn2_13), (16, tn1_16), (19, tn2_19), (21, tn1_21), (22, tn2_22), (23, tn1_23), (30, tn1_30), (32, tn2_32), (40, tn1_40), (47, tn1_47), (49, tn1_49), (150, tn3_150), (164, tn3_164), (166, tb3_166), (176, tn1_176), (208, tn1_208), (216, tn2_216), (224, tb3_224), (228, tn1_228), (229, tn1_229), (235, tb2_235), (253, tn3_253), (265, tn2_265), (267, tn3_267), (272, tn1_272), (276, tn1_276), (279, tn2_279), (280, tn2_280), (283, tn2_283), (310, tb3_310), (319, tn1_319), (383, tn2_383), (385, tb3_385), (404, tn1_404), (409, tn3_409), (411, tn3_411), (415, tn2_415), (418, tn1_418), (579, tn1_579), (583, tn1_583), (584, tn2_584), (609, tn1_609), (628, tn2_628), (646, tn2_646), (682, tb2_682), (713, tn3_713), (718, tn2_718), (811, tn1_811), (836, tn1_836), (857, tn3_857), (858, tn2_858), (917, tn1_917), (961, tn1_961)]
def F3 : Env := layer E3 F2 3000 tabs3
/-- foregone/value.Check -/
def tn4_190 : List (List V × V) := [([w15], .int .i64 0), ([w16], .int .i64 0), ([w17], .int .i64 0), ([w18], .int .i64 0), ([w19], .int .i64 0), ([w21], .int .i64 0), ([w22], .int .i64 0)]
/-- foregone/value.are$1 -/
def tn4_851 : List (List V × V) := [([w15], .bool false), ([w16], .bool false)]
/-- foregone/value.is -/
def tn4_253 : List (List V × V) := [([w29], .bool true)]
def tb4_253 : List (List V × V) := app tn4_253 tn3_253
/-- foregone/value.Text -/
def tn4_232 : List (List V × V) := [([w21], .tup [.str [48], .int .i64 0]), ([w15], .tup [.str [97], .int .i64 0]), ([w16], .tup [.str [98], .int .i64 0]), ([w19], .tup [.str [49], .int .i64 0]), ([w22], .tup [.str [50], .int .i64 0]), ([w65], .tup [.str [70, 65, 76, 83, 69], .int .i64 0])]
/-- foregone/num.Add -/
def tn4_727 : List (List V × V) := [([.agg [.bool false, .nils], w20], .tup [w20, .int .i64 0]), ([.agg [.bool false, .nils], w23], .tup [w23, .int .i64 0]), ([w20, w20], .tup [w23, .int .i64 0])]
/-- foregone/next.states -/
def tn4_208 : List (List V × V) := [([w38], .lsl [w35, w36] 2 false), ([w84], .lsl [w35, w79] 2 false)]
def tb4_208 : List (List V × V) := app tn4_208 tn1_208
/-- foregone/console.same -/
def tn4_164 : List (List V × V) := [([w36, w36], .bool true)]
def tb4_164 : List (List V × V) := app tn4_164 tn3_164
/-- foregone/num.Mul -/
def tn4_729 : List (List V × V) := [([.agg [.bool false, .nils], w54], w55)]
/-- (foregone/parse.grammar).name -/
def tn4_408 : List (List V × V) := [([.agg [.bool false], .str [120]], .bool true)]
/-- foregone/value.Encode -/
def tn4_243 : List (List V × V) := [([w21], .tup [.lsl [.int .u8 2, .int .u8 0, .int .u8 0] 3 false, .int .i64 0]), ([w15], .tup [.lsl [.int .u8 4, .int .u8 1, .int .u8 97] 3 false, .int .i64 0]), ([w16], .tup [.lsl [.int .u8 4, .int .u8 1, .int .u8 98] 3 false, .int .i64 0]), ([w19], .tup [.lsl [.int .u8 2, .int .u8 0, .int .u8 1, .int .u8 0, .int .u8 0, .int .u8 0, .int .u8 1] 7 false, .int .i64 0]), ([w22], .tup [.lsl [.int .u8 2, .int .u8 0, .int .u8 1, .int .u8 0, .int .u8 0, .int .u8 0, .int .u8 2] 7 false, .int .i64 0])]
/-- (foregone/parse.grammar).exprs -/
def tn4_412 : List (List V × V) := [([.agg [.bool false], w91, .int .i64 2], .bool true), ([.agg [.bool false], w106, .int .i64 2], .bool true)]
def tabs4 : Tabs := [(6, tn3_6), (12, tn3_12), (13, tn2_13), (16, tn1_16), (19, tn2_19), (21, tn1_21), (22, tn2_22), (23, tn1_23), (30, tn1_30), (32, tn2_32), (40, tn1_40), (47, tn1_47), (49, tn1_49), (150, tn3_150), (164, tb4_164), (166, tb3_166), (176, tn1_176), (190, tn4_190), (208, tb4_208), (216, tn2_216), (224, tb3_224), (228, tn1_228), (229, tn1_229), (232, tn4_232), (235, tb2_235), (243, tn4_243), (253, tb4_253), (265, tn2_265), (267, tn3_267), (272, tn1_272), (276, tn1_276), (279, tn2_279), (280, tn2_280), (283, tn2_283), (310, tb3_310), (319, tn1_319), (383, tn2_383), (385, tb3_385), (404, tn1_404), (408, tn4_408), (409, tn3_409), (411, tn3_411), (412, tn4_412), (415, tn2_415), (418, tn1_418), (579, tn1_579), (583, tn1_583), (584, tn2_584), (609, tn1_609), (628, tn2_628), (646, tn2_646), (682, tb2_682), (713, tn3_713), (718, tn2_718), (727, tn4_727), (729, tn4_729), (811, tn1_811), (836, tn1_836), (851, tn4_851), (857, tn3_857), (858, tn2_858), (917, tn1_917), (961, tn1_961)]
def F4 : Env := layer E3 F3 3000 tabs4
/-- foregone/mean.isName -/
def tn5_187 : List (List V × V) := [([.str [97]], .bool true), ([.str [98]], .bool true), ([.str [120]], .bool true), ([.str [121]], .bool true)]
/-- foregone/mean.isList$1 -/
def tn5_505 : List (List V × V) := [([w21], .bool false), ([w15], .bool false), ([w19], .bool false), ([w16], .bool false), ([w22], .bool false)]
/-- foregone/value.are -/
def tn5_710 : List (List V × V) := [([w28], .bool true)]
/-- foregone/value.Has -/
def tn5_532 : List (List V × V) := [([w29, w15], .bool true), ([w29, w16], .bool true)]
/-- foregone/console.shown -/
def tn5_161 : List (List V × V) := [([w21], .str [48]), ([w15], .str [97]), ([w16], .str [98]), ([w19], .str [49]), ([w22], .str [50]), ([w65], .str [70, 65, 76, 83, 69])]
/-- foregone/lex.Tokens -/
def tn5_272 : List (List V × V) := [([.str [120, 32, 61, 32, 50]], w53), ([.str [49, 32, 43, 32, 49]], w93), ([.str [49, 32, 61, 32, 50]], w108)]
def tb5_272 : List (List V × V) := app tn5_272 tn1_272
/-- (foregone/parse.grammar).called -/
def tn5_407 : List (List V × V) := [([.agg [.bool false], w58], .bool true)]
/-- foregone/mean.isExpr -/
def tn5_229 : List (List V × V) := [([w13, w49, .int .i64 0], .bool true), ([w13, w89, .int .i64 0], .bool true), ([w13, w104, .int .i64 0], .bool true), ([w13, w95, .int .i64 0], .bool true), ([w13, w61, .int .i64 0], .bool true)]
def tb5_229 : List (List V × V) := app tn5_229 tn1_229
/-- foregone/console.key -/
def tn5_173 : List (List V × V) := [([w24], .str [2, 0, 0, 4, 1, 97]), ([w35], .str [2, 0, 0, 4, 1, 98]), ([w36], .str [2, 0, 1, 0, 0, 0, 1, 4, 1, 97]), ([w46], .str [2, 0, 1, 0, 0, 0, 1, 4, 1, 98]), ([w79], .str [2, 0, 1, 0, 0, 0, 2, 4, 1, 97]), ([w47], .str [2, 0, 1, 0, 0, 0, 2, 4, 1, 98])]
/-- (foregone/parse.grammar).expr -/
def tn5_280 : List (List V × V) := [([.agg [.bool false], w92], .bool true), ([.agg [.bool false], w107], .bool true)]
def tb5_280 : List (List V × V) := app tn5_280 tn2_280
/-- foregone/mean.arithmetic -/
def tn5_549 : List (List V × V) := [([.int .i64 1, w20, w20], w22)]
def tabs5 : Tabs := [(6, tn3_6), (12, tn3_12), (13, tn2_13), (16, tn1_16), (19, tn2_19), (21, tn1_21), (22, tn2_22), (23, tn1_23), (30, tn1_30), (32, tn2_32), (40, tn1_40), (47, tn1_47), (49, tn1_49), (150, tn3_150), (161, tn5_161), (164, tb4_164), (166, tb3_166), (173, tn5_173), (176, tn1_176), (187, tn5_187), (190, tn4_190), (208, tb4_208), (216, tn2_216), (224, tb3_224), (228, tn1_228), (229, tb5_229), (232, tn4_232), (235, tb2_235), (243, tn4_243), (253, tb4_253), (265, tn2_265), (267, tn3_267), (272, tb5_272), (276, tn1_276), (279, tn2_279), (280, tb5_280), (283, tn2_283), (310, tb3_310), (319, tn1_319), (383, tn2_383), (385, tb3_385), (404, tn1_404), (407, tn5_407), (408, tn4_408), (409, tn3_409), (411, tn3_411), (412, tn4_412), (415, tn2_415), (418, tn1_418), (505, tn5_505), (532, tn5_532), (549, tn5_549), (579, tn1_579), (583, tn1_583), (584, tn2_584), (609, tn1_609), (628, tn2_628), (646, tn2_646), (682, tb2_682), (710, tn5_710), (713, tn3_713), (718, tn2_718), (727, tn4_727), (729, tn4_729), (811, tn1_811), (836, tn1_836), (851, tn4_851), (857, tn3_857), (858, tn2_858), (917, tn1_917), (961, tn1_961)]
def F5 : Env := layer E3 F4 3000 tabs5
/-- foregone/mean.distinct -/
def tn6_125 : List (List V × V) := [([w2], .bool true), ([.lsl [.str [120], .str [121]] 2 false], .bool true)]
/-- foregone/mean.isList -/
def tn6_323 : List (List V × V) := [([w13, w24], .bool true), ([w13, w36], .bool true), ([w13, w35], .bool true), ([w13, w46], .bool true), ([w13, w47], .bool true), ([w13, w79], .bool true)]
/-- foregone/value.Set -/
def tn6_521 : List (List V × V) := [([w28], .tup [w29, .int .i64 0])]
/-- foregone/parse.read -/
def tn6_216 : List (List V × V) := [([.str [120, 32, 61, 32, 50], .fn (.func 217) [] []], .tup [.lsl [.int .i64 21, .int .i64 0, .str [61], .bool false, .nils, w51, .int .i64 0, .int .i64 5] 1 false, .int .i64 0, .int .i64 0]), ([.str [49, 32, 43, 32, 49], .fn (.func 217) [] []], .tup [.lsl [.int .i64 21, .int .i64 0, .str [43], .bool false, .nils, w91, .int .i64 0, .int .i64 5] 1 false, .int .i64 0, .int .i64 0]), ([.str [49, 32, 61, 32, 50], .fn (.func 217) [] []], .tup [.lsl [.int .i64 21, .int .i64 0, .str [61], .bool false, .nils, w106, .int .i64 0, .int .i64 5] 1 false, .int .i64 0, .int .i64 0])]
def tb6_216 : List (List V × V) := app tn6_216 tn2_216
/-- (foregone/parse.grammar).expr -/
def tn6_280 : List (List V × V) := [([.agg [.bool false], w58], .bool true)]
def tb6_280 : List (List V × V) := app tn6_280 tb5_280
/-- foregone/parse.IsExpr -/
def tn6_220 : List (List V × V) := [([w92], .bool true), ([w107], .bool true)]
/-- foregone/console.outcome -/
def tn6_168 : List (List V × V) := [([w22, .int .i64 0], .str [50]), ([w19, .int .i64 0], .str [49]), ([w65, .int .i64 0], .str [70, 65, 76, 83, 69])]
def tabs6 : Tabs := [(6, tn3_6), (12, tn3_12), (13, tn2_13), (16, tn1_16), (19, tn2_19), (21, tn1_21), (22, tn2_22), (23, tn1_23), (30, tn1_30), (32, tn2_32), (40, tn1_40), (47, tn1_47), (49, tn1_49), (125, tn6_125), (150, tn3_150), (161, tn5_161), (164, tb4_164), (166, tb3_166), (168, tn6_168), (173, tn5_173), (176, tn1_176), (187, tn5_187), (190, tn4_190), (208, tb4_208), (216, tb6_216), (220, tn6_220), (224, tb3_224), (228, tn1_228), (229, tb5_229), (232, tn4_232), (235, tb2_235), (243, tn4_243), (253, tb4_253), (265, tn2_265), (267, tn3_267), (272, tb5_272), (276, tn1_276), (279, tn2_279), (280, tb6_280), (283, tn2_283), (310, tb3_310), (319, tn1_319), (323, tn6_323), (383, tn2_383), (385, tb3_385), (404, tn1_404), (407, tn5_407), (408, tn4_408), (409, tn3_409), (411, tn3_411), (412, tn4_412), (415, tn2_415), (418, tn1_418), (505, tn5_505), (521, tn6_521), (532, tn5_532), (549, tn5_549), (579, tn1_579), (583, tn1_583), (584, tn2_584), (609, tn1_609), (628, tn2_628), (646, tn2_646), (682, tb2_682), (710, tn5_710), (713, tn3_713), (718, tn2_718), (727, tn4_727), (729, tn4_729), (811, tn1_811), (836, tn1_836), (851, tn4_851), (857, tn3_857), (858, tn2_858), (917, tn1_917), (961, tn1_961)]
def F6 : Env := layer E3 F5 3000 tabs6
/-- foregone/mean.Check -/
def tn7_46 : List (List V × V) := [([w13], .int .i64 0)]
/-- foregone/mean.isState -/
def tn7_390 : List (List V × V) := [([w13, w24], .tup [.bool true, .int .i64 0]), ([w13, w36], .tup [.bool true, .int .i64 0]), ([w13, w35], .tup [.bool true, .int .i64 0]), ([w13, w46], .tup [.bool true, .int .i64 0]), ([w13, w47], .tup [.bool true, .int .i64 0]), ([w13, w79], .tup [.bool true, .int .i64 0])]
/-- foregone/parse.Expr -/
def tn7_150 : List (List V × V) := [([.str [120, 32, 61, 32, 50]], .tup [w52, .int .i64 0, .int .i64 0]), ([.str [49, 32, 43, 32, 49]], .tup [w92, .int .i64 0, .int .i64 0]), ([.str [49, 32, 61, 32, 50]], .tup [w107, .int .i64 0, .int .i64 0])]
def tb7_150 : List (List V × V) := app tn7_150 tn3_150
/-- foregone/parse.all -/
def tn7_409 : List (List V × V) := [([w51, w57], .bool true)]
def tb7_409 : List (List V × V) := app tn7_409 tn3_409
/-- foregone/elab.Expr -/
def tn7_151 : List (List V × V) := [([w13, w92], w90), ([w13, w107], w105)]
/-- foregone/parse.IsExpr -/
def tn7_220 : List (List V × V) := [([w58], .bool true)]
def tb7_220 : List (List V × V) := app tn7_220 tn6_220
def tabs7 : Tabs := [(6, tn3_6), (12, tn3_12), (13, tn2_13), (16, tn1_16), (19, tn2_19), (21, tn1_21), (22, tn2_22), (23, tn1_23), (30, tn1_30), (32, tn2_32), (40, tn1_40), (46, tn7_46), (47, tn1_47), (49, tn1_49), (125, tn6_125), (150, tb7_150), (151, tn7_151), (161, tn5_161), (164, tb4_164), (166, tb3_166), (168, tn6_168), (173, tn5_173), (176, tn1_176), (187, tn5_187), (190, tn4_190), (208, tb4_208), (216, tb6_216), (220, tb7_220), (224, tb3_224), (228, tn1_228), (229, tb5_229), (232, tn4_232), (235, tb2_235), (243, tn4_243), (253, tb4_253), (265, tn2_265), (267, tn3_267), (272, tb5_272), (276, tn1_276), (279, tn2_279), (280, tb6_280), (283, tn2_283), (310, tb3_310), (319, tn1_319), (323, tn6_323), (383, tn2_383), (385, tb3_385), (390, tn7_390), (404, tn1_404), (407, tn5_407), (408, tn4_408), (409, tb7_409), (411, tn3_411), (412, tn4_412), (415, tn2_415), (418, tn1_418), (505, tn5_505), (521, tn6_521), (532, tn5_532), (549, tn5_549), (579, tn1_579), (583, tn1_583), (584, tn2_584), (609, tn1_609), (628, tn2_628), (646, tn2_646), (682, tb2_682), (710, tn5_710), (713, tn3_713), (718, tn2_718), (727, tn4_727), (729, tn4_729), (811, tn1_811), (836, tn1_836), (851, tn4_851), (857, tn3_857), (858, tn2_858), (917, tn1_917), (961, tn1_961)]
def F7 : Env := layer E3 F6 3000 tabs7
/-- foregone/console.Check -/
def tn8_31 : List (List V × V) := [([w13, w14], .int .i64 0)]
/-- foregone/next.check -/
def tn8_209 : List (List V × V) := [([w13, .nils, .bool true], .int .i64 0)]
/-- foregone/mean.IsState -/
def tn8_268 : List (List V × V) := [([w13, w24], w27), ([w13, w36], w27), ([w13, w35], w27), ([w13, w46], w27), ([w13, w47], w27), ([w13, w79], w27)]
/-- (foregone/parse.grammar).exprs -/
def tn8_412 : List (List V × V) := [([.agg [.bool false], w51, .int .i64 2], .bool true)]
def tb8_412 : List (List V × V) := app tn8_412 tn4_412
/-- foregone/mean.CheckExpr -/
def tn8_152 : List (List V × V) := [([w13, w49, .int .i64 0], .int .i64 0), ([w13, w89, .int .i64 0], .int .i64 0), ([w13, w60, .int .i64 0], .int .i64 0), ([w13, w104, .int .i64 0], .int .i64 0)]
/-- foregone/mean.placed -/
def tn8_236 : List (List V × V) := [([w13, w49, w63], .tup [w63, .int .i64 0]), ([w13, w49, w70], .tup [w70, .int .i64 0]), ([w13, w49, w74], .tup [w74, .int .i64 0]), ([w13, w49, w81], .tup [w81, .int .i64 0]), ([w13, w49, w82], .tup [w82, .int .i64 0]), ([w13, w49, w86], .tup [w86, .int .i64 0]), ([w13, w89, w96], .tup [w96, .int .i64 0]), ([w13, w60, w96], .tup [w96, .int .i64 0]), ([w13, w104, w96], .tup [w96, .int .i64 0]), ([w13, w95, w96], .tup [w96, .int .i64 0]), ([w13, w61, w96], .tup [w96, .int .i64 0])]
/-- foregone/elab.Expr -/
def tn8_151 : List (List V × V) := [([w13, w58], w100)]
def tb8_151 : List (List V × V) := app tn8_151 tn7_151
def tabs8 : Tabs := [(6, tn3_6), (12, tn3_12), (13, tn2_13), (16, tn1_16), (19, tn2_19), (21, tn1_21), (22, tn2_22), (23, tn1_23), (30, tn1_30), (31, tn8_31), (32, tn2_32), (40, tn1_40), (46, tn7_46), (47, tn1_47), (49, tn1_49), (125, tn6_125), (150, tb7_150), (151, tb8_151), (152, tn8_152), (161, tn5_161), (164, tb4_164), (166, tb3_166), (168, tn6_168), (173, tn5_173), (176, tn1_176), (187, tn5_187), (190, tn4_190), (208, tb4_208), (209, tn8_209), (216, tb6_216), (220, tb7_220), (224, tb3_224), (228, tn1_228), (229, tb5_229), (232, tn4_232), (235, tb2_235), (236, tn8_236), (243, tn4_243), (253, tb4_253), (265, tn2_265), (267, tn3_267), (268, tn8_268), (272, tb5_272), (276, tn1_276), (279, tn2_279), (280, tb6_280), (283, tn2_283), (310, tb3_310), (319, tn1_319), (323, tn6_323), (383, tn2_383), (385, tb3_385), (390, tn7_390), (404, tn1_404), (407, tn5_407), (408, tn4_408), (409, tb7_409), (411, tn3_411), (412, tb8_412), (415, tn2_415), (418, tn1_418), (505, tn5_505), (521, tn6_521), (532, tn5_532), (549, tn5_549), (579, tn1_579), (583, tn1_583), (584, tn2_584), (609, tn1_609), (628, tn2_628), (646, tn2_646), (682, tb2_682), (710, tn5_710), (713, tn3_713), (718, tn2_718), (727, tn4_727), (729, tn4_729), (811, tn1_811), (836, tn1_836), (851, tn4_851), (857, tn3_857), (858, tn2_858), (917, tn1_917), (961, tn1_961)]
def F8 : Env := layer E3 F7 3000 tabs8
/-- foregone/next.ways -/
def tn9_233 : List (List V × V) := [([w13, .nils, .bool true], w26), ([w13, w24, .bool false], w39), ([w13, w35, .bool false], w69), ([w13, w46, .bool false], w73), ([w13, w36, .bool false], w85)]
/-- foregone/next.check -/
def tn9_209 : List (List V × V) := [([w13, w24, .bool false], .int .i64 0), ([w13, w35, .bool false], .int .i64 0), ([w13, w46, .bool false], .int .i64 0), ([w13, w36, .bool false], .int .i64 0)]
def tb9_209 : List (List V × V) := app tn9_209 tn8_209
/-- (foregone/parse.grammar).expr -/
def tn9_280 : List (List V × V) := [([.agg [.bool false], w52], .bool true)]
def tb9_280 : List (List V × V) := app tn9_280 tb6_280
/-- foregone/mean.Eval -/
def tn9_167 : List (List V × V) := [([w13, w49, w63], w66), ([w13, w49, w70], w66), ([w13, w49, w74], w75), ([w13, w49, w81], w66), ([w13, w49, w82], w66), ([w13, w49, w86], w75), ([w13, w89, w96], w97), ([w13, w60, w96], .tup [.agg [.int .i64 0, .int .i64 0, .bool false, .nils, .str [], .nils, .nils], .int .i64 8, .int .i64 0]), ([w13, w104, w96], w66), ([w13, w95, w96], .tup [w19, .int .i64 0, .int .i64 0]), ([w13, w61, w96], w97)]
/-- foregone/console.Expr -/
def tn9_79 : List (List V × V) := [([w13, .str [49, 32, 43, 32, 49]], w90), ([w13, .str [120]], w100), ([w13, .str [49, 32, 61, 32, 50]], w105)]
/-- foregone/console.Script -/
def tn9_20 : List (List V × V) := [([w13, w14, w111], .tup [w14, .lsl [w110] 1 false, .int .i64 0]), ([w13, w14, w113], .tup [w14, .lsl [w112] 1 false, .int .i64 0])]
def tabs9 : Tabs := [(6, tn3_6), (12, tn3_12), (13, tn2_13), (16, tn1_16), (19, tn2_19), (20, tn9_20), (21, tn1_21), (22, tn2_22), (23, tn1_23), (30, tn1_30), (31, tn8_31), (32, tn2_32), (40, tn1_40), (46, tn7_46), (47, tn1_47), (49, tn1_49), (79, tn9_79), (125, tn6_125), (150, tb7_150), (151, tb8_151), (152, tn8_152), (161, tn5_161), (164, tb4_164), (166, tb3_166), (167, tn9_167), (168, tn6_168), (173, tn5_173), (176, tn1_176), (187, tn5_187), (190, tn4_190), (208, tb4_208), (209, tb9_209), (216, tb6_216), (220, tb7_220), (224, tb3_224), (228, tn1_228), (229, tb5_229), (232, tn4_232), (233, tn9_233), (235, tb2_235), (236, tn8_236), (243, tn4_243), (253, tb4_253), (265, tn2_265), (267, tn3_267), (268, tn8_268), (272, tb5_272), (276, tn1_276), (279, tn2_279), (280, tb9_280), (283, tn2_283), (310, tb3_310), (319, tn1_319), (323, tn6_323), (383, tn2_383), (385, tb3_385), (390, tn7_390), (404, tn1_404), (407, tn5_407), (408, tn4_408), (409, tb7_409), (411, tn3_411), (412, tb8_412), (415, tn2_415), (418, tn1_418), (505, tn5_505), (521, tn6_521), (532, tn5_532), (549, tn5_549), (579, tn1_579), (583, tn1_583), (584, tn2_584), (609, tn1_609), (628, tn2_628), (646, tn2_646), (682, tb2_682), (710, tn5_710), (713, tn3_713), (718, tn2_718), (727, tn4_727), (729, tn4_729), (811, tn1_811), (836, tn1_836), (851, tn4_851), (857, tn3_857), (858, tn2_858), (917, tn1_917), (961, tn1_961)]
def F9 : Env := layer E3 F8 3000 tabs9
/-- foregone/next.Starts -/
def tn10_207 : List (List V × V) := [([w13], w26)]
/-- foregone/next.Steps -/
def tn10_163 : List (List V × V) := [([w13, w24], w39), ([w13, w35], w69), ([w13, w46], w73), ([w13, w36], w85)]
/-- foregone/parse.IsExpr -/
def tn10_220 : List (List V × V) := [([w52], .bool true)]
def tb10_220 : List (List V × V) := app tn10_220 tb7_220
/-- foregone/mean.Holds -/
def tn10_242 : List (List V × V) := [([w13, w49, w63], w64), ([w13, w49, w70], w64), ([w13, w49, w74], w27), ([w13, w49, w81], w64), ([w13, w49, w82], w64), ([w13, w49, w86], w27)]
/-- foregone/console.Script -/
def tn10_20 : List (List V × V) := [([w13, w14, .lsl [w87] 1 false], .tup [w14, .lsl [.str [50, 10]] 1 false, .int .i64 0]), ([w13, w14, w99], .tup [w14, .lsl [w98] 1 false, .int .i64 0])]
def tb10_20 : List (List V × V) := app tn10_20 tn9_20
/-- foregone/console.traced -/
def tn10_147 : List (List V × V) := [([w13, w104, w96], .tup [w109, .int .i64 0])]
/-- foregone/foregonelaw40.gives -/
def tn10_7 : List (List V × V) := [([w110, w111], .bool true), ([w112, w113], .bool true)]
def tabs10 : Tabs := [(6, tn3_6), (7, tn10_7), (12, tn3_12), (13, tn2_13), (16, tn1_16), (19, tn2_19), (20, tb10_20), (21, tn1_21), (22, tn2_22), (23, tn1_23), (30, tn1_30), (31, tn8_31), (32, tn2_32), (40, tn1_40), (46, tn7_46), (47, tn1_47), (49, tn1_49), (79, tn9_79), (125, tn6_125), (147, tn10_147), (150, tb7_150), (151, tb8_151), (152, tn8_152), (161, tn5_161), (163, tn10_163), (164, tb4_164), (166, tb3_166), (167, tn9_167), (168, tn6_168), (173, tn5_173), (176, tn1_176), (187, tn5_187), (190, tn4_190), (207, tn10_207), (208, tb4_208), (209, tb9_209), (216, tb6_216), (220, tb10_220), (224, tb3_224), (228, tn1_228), (229, tb5_229), (232, tn4_232), (233, tn9_233), (235, tb2_235), (236, tn8_236), (242, tn10_242), (243, tn4_243), (253, tb4_253), (265, tn2_265), (267, tn3_267), (268, tn8_268), (272, tb5_272), (276, tn1_276), (279, tn2_279), (280, tb9_280), (283, tn2_283), (310, tb3_310), (319, tn1_319), (323, tn6_323), (383, tn2_383), (385, tb3_385), (390, tn7_390), (404, tn1_404), (407, tn5_407), (408, tn4_408), (409, tb7_409), (411, tn3_411), (412, tb8_412), (415, tn2_415), (418, tn1_418), (505, tn5_505), (521, tn6_521), (532, tn5_532), (549, tn5_549), (579, tn1_579), (583, tn1_583), (584, tn2_584), (609, tn1_609), (628, tn2_628), (646, tn2_646), (682, tb2_682), (710, tn5_710), (713, tn3_713), (718, tn2_718), (727, tn4_727), (729, tn4_729), (811, tn1_811), (836, tn1_836), (851, tn4_851), (857, tn3_857), (858, tn2_858), (917, tn1_917), (961, tn1_961)]
def F10 : Env := layer E3 F9 3000 tabs10
/-- foregone/next.Inits -/
def tn11_143 : List (List V × V) := [([w13], .tup [.lsl [w24] 1 false, .int .i64 0, .int .i64 0])]
/-- foregone/next.Succs -/
def tn11_211 : List (List V × V) := [([w13, w24], w37), ([w13, w35], w67), ([w13, w46], w71), ([w13, w36], w83)]
/-- foregone/elab.Expr -/
def tn11_151 : List (List V × V) := [([w13, w52], w50)]
def tb11_151 : List (List V × V) := app tn11_151 tb8_151
/-- foregone/foregonelaw40.gives -/
def tn11_7 : List (List V × V) := [([.str [50, 10], .lsl [w87] 1 false], .bool true), ([w98, w99], .bool true)]
def tb11_7 : List (List V × V) := app tn11_7 tn10_7
/-- foregone/console.Script -/
def tn11_20 : List (List V × V) := [([w13, w14, .lsl [w102] 1 false], .tup [w14, .lsl [w101] 1 false, .int .i64 0])]
def tb11_20 : List (List V × V) := app tn11_20 tb10_20
def tabs11 : Tabs := [(6, tn3_6), (7, tb11_7), (12, tn3_12), (13, tn2_13), (16, tn1_16), (19, tn2_19), (20, tb11_20), (21, tn1_21), (22, tn2_22), (23, tn1_23), (30, tn1_30), (31, tn8_31), (32, tn2_32), (40, tn1_40), (46, tn7_46), (47, tn1_47), (49, tn1_49), (79, tn9_79), (125, tn6_125), (143, tn11_143), (147, tn10_147), (150, tb7_150), (151, tb11_151), (152, tn8_152), (161, tn5_161), (163, tn10_163), (164, tb4_164), (166, tb3_166), (167, tn9_167), (168, tn6_168), (173, tn5_173), (176, tn1_176), (187, tn5_187), (190, tn4_190), (207, tn10_207), (208, tb4_208), (209, tb9_209), (211, tn11_211), (216, tb6_216), (220, tb10_220), (224, tb3_224), (228, tn1_228), (229, tb5_229), (232, tn4_232), (233, tn9_233), (235, tb2_235), (236, tn8_236), (242, tn10_242), (243, tn4_243), (253, tb4_253), (265, tn2_265), (267, tn3_267), (268, tn8_268), (272, tb5_272), (276, tn1_276), (279, tn2_279), (280, tb9_280), (283, tn2_283), (310, tb3_310), (319, tn1_319), (323, tn6_323), (383, tn2_383), (385, tb3_385), (390, tn7_390), (404, tn1_404), (407, tn5_407), (408, tn4_408), (409, tb7_409), (411, tn3_411), (412, tb8_412), (415, tn2_415), (418, tn1_418), (505, tn5_505), (521, tn6_521), (532, tn5_532), (549, tn5_549), (579, tn1_579), (583, tn1_583), (584, tn2_584), (609, tn1_609), (628, tn2_628), (646, tn2_646), (682, tb2_682), (710, tn5_710), (713, tn3_713), (718, tn2_718), (727, tn4_727), (729, tn4_729), (811, tn1_811), (836, tn1_836), (851, tn4_851), (857, tn3_857), (858, tn2_858), (917, tn1_917), (961, tn1_961)]
def F11 : Env := layer E3 F10 3000 tabs11
/-- foregone/console.Script -/
def tn12_20 : List (List V × V) := [([w13, w14, w1], .tup [w14, .lsl [w0] 1 false, .int .i64 0]), ([w13, w14, w31], .tup [w32, .lsl [w30] 1 false, .int .i64 0])]
def tb12_20 : List (List V × V) := app tn12_20 tb11_20
/-- foregone/next.Taken -/
def tn12_144 : List (List V × V) := [([w13, w24], w37), ([w13, w35], w67), ([w13, w46], w71), ([w13, w36], w83)]
/-- foregone/console.Expr -/
def tn12_79 : List (List V × V) := [([w13, .str [120, 32, 61, 32, 50]], w50)]
def tb12_79 : List (List V × V) := app tn12_79 tn9_79
/-- foregone/foregonelaw40.gives -/
def tn12_7 : List (List V × V) := [([w101, .lsl [w102] 1 false], .bool true)]
def tb12_7 : List (List V × V) := app tn12_7 tb11_7
def tabs12 : Tabs := [(6, tn3_6), (7, tb12_7), (12, tn3_12), (13, tn2_13), (16, tn1_16), (19, tn2_19), (20, tb12_20), (21, tn1_21), (22, tn2_22), (23, tn1_23), (30, tn1_30), (31, tn8_31), (32, tn2_32), (40, tn1_40), (46, tn7_46), (47, tn1_47), (49, tn1_49), (79, tb12_79), (125, tn6_125), (143, tn11_143), (144, tn12_144), (147, tn10_147), (150, tb7_150), (151, tb11_151), (152, tn8_152), (161, tn5_161), (163, tn10_163), (164, tb4_164), (166, tb3_166), (167, tn9_167), (168, tn6_168), (173, tn5_173), (176, tn1_176), (187, tn5_187), (190, tn4_190), (207, tn10_207), (208, tb4_208), (209, tb9_209), (211, tn11_211), (216, tb6_216), (220, tb10_220), (224, tb3_224), (228, tn1_228), (229, tb5_229), (232, tn4_232), (233, tn9_233), (235, tb2_235), (236, tn8_236), (242, tn10_242), (243, tn4_243), (253, tb4_253), (265, tn2_265), (267, tn3_267), (268, tn8_268), (272, tb5_272), (276, tn1_276), (279, tn2_279), (280, tb9_280), (283, tn2_283), (310, tb3_310), (319, tn1_319), (323, tn6_323), (383, tn2_383), (385, tb3_385), (390, tn7_390), (404, tn1_404), (407, tn5_407), (408, tn4_408), (409, tb7_409), (411, tn3_411), (412, tb8_412), (415, tn2_415), (418, tn1_418), (505, tn5_505), (521, tn6_521), (532, tn5_532), (549, tn5_549), (579, tn1_579), (583, tn1_583), (584, tn2_584), (609, tn1_609), (628, tn2_628), (646, tn2_646), (682, tb2_682), (710, tn5_710), (713, tn3_713), (718, tn2_718), (727, tn4_727), (729, tn4_729), (811, tn1_811), (836, tn1_836), (851, tn4_851), (857, tn3_857), (858, tn2_858), (917, tn1_917), (961, tn1_961)]
def F12 : Env := layer E3 F11 3000 tabs12
/-- foregone/foregonelaw40.gives -/
def tn13_7 : List (List V × V) := [([w0, w1], .bool true), ([w30, w31], .bool true)]
def tb13_7 : List (List V × V) := app tn13_7 tb12_7
/-- foregone/console.Script -/
def tn13_20 : List (List V × V) := [([w13, w14, w34], .tup [w32, .lsl [w30, w33] 2 false, .int .i64 0]), ([w13, w14, w41], .tup [w42, .lsl [w30, .str [115, 116, 97, 116, 101, 32, 49, 10, 47, 92, 32, 120, 32, 61, 32, 49, 10, 47, 92, 32, 121, 32, 61, 32, 97, 10], w40] 3 false, .int .i64 0]), ([w13, w14, w45], .tup [.agg [.lsl [w24, w35, w46, w47] 4 false, .int .i64 3, w48, .str [], .int .i64 0], .lsl [w30, .str [48, 58, 32, 120, 32, 61, 32, 50, 10], w43] 3 false, .int .i64 0]), ([w13, w14, w78], .tup [w80, .lsl [w30, .str [115, 116, 97, 116, 101, 32, 50, 10, 47, 92, 32, 120, 32, 61, 32, 50, 10, 47, 92, 32, 121, 32, 61, 32, 97, 10], w76] 3 false, .int .i64 0])]
def tb13_20 : List (List V × V) := app tn13_20 tb12_20
def tabs13 : Tabs := [(6, tn3_6), (7, tb13_7), (12, tn3_12), (13, tn2_13), (16, tn1_16), (19, tn2_19), (20, tb13_20), (21, tn1_21), (22, tn2_22), (23, tn1_23), (30, tn1_30), (31, tn8_31), (32, tn2_32), (40, tn1_40), (46, tn7_46), (47, tn1_47), (49, tn1_49), (79, tb12_79), (125, tn6_125), (143, tn11_143), (144, tn12_144), (147, tn10_147), (150, tb7_150), (151, tb11_151), (152, tn8_152), (161, tn5_161), (163, tn10_163), (164, tb4_164), (166, tb3_166), (167, tn9_167), (168, tn6_168), (173, tn5_173), (176, tn1_176), (187, tn5_187), (190, tn4_190), (207, tn10_207), (208, tb4_208), (209, tb9_209), (211, tn11_211), (216, tb6_216), (220, tb10_220), (224, tb3_224), (228, tn1_228), (229, tb5_229), (232, tn4_232), (233, tn9_233), (235, tb2_235), (236, tn8_236), (242, tn10_242), (243, tn4_243), (253, tb4_253), (265, tn2_265), (267, tn3_267), (268, tn8_268), (272, tb5_272), (276, tn1_276), (279, tn2_279), (280, tb9_280), (283, tn2_283), (310, tb3_310), (319, tn1_319), (323, tn6_323), (383, tn2_383), (385, tb3_385), (390, tn7_390), (404, tn1_404), (407, tn5_407), (408, tn4_408), (409, tb7_409), (411, tn3_411), (412, tb8_412), (415, tn2_415), (418, tn1_418), (505, tn5_505), (521, tn6_521), (532, tn5_532), (549, tn5_549), (579, tn1_579), (583, tn1_583), (584, tn2_584), (609, tn1_609), (628, tn2_628), (646, tn2_646), (682, tb2_682), (710, tn5_710), (713, tn3_713), (718, tn2_718), (727, tn4_727), (729, tn4_729), (811, tn1_811), (836, tn1_836), (851, tn4_851), (857, tn3_857), (858, tn2_858), (917, tn1_917), (961, tn1_961)]
def F13 : Env := layer E3 F12 3000 tabs13
/-- foregone/foregonelaw40.gives -/
def tn14_7 : List (List V × V) := [([w33, w34], .bool true), ([w40, w41], .bool true), ([w43, w45], .bool true), ([w76, w78], .bool true)]
def tb14_7 : List (List V × V) := app tn14_7 tb13_7
def tabs14 : Tabs := [(6, tn3_6), (7, tb14_7), (12, tn3_12), (13, tn2_13), (16, tn1_16), (19, tn2_19), (20, tb13_20), (21, tn1_21), (22, tn2_22), (23, tn1_23), (30, tn1_30), (31, tn8_31), (32, tn2_32), (40, tn1_40), (46, tn7_46), (47, tn1_47), (49, tn1_49), (79, tb12_79), (125, tn6_125), (143, tn11_143), (144, tn12_144), (147, tn10_147), (150, tb7_150), (151, tb11_151), (152, tn8_152), (161, tn5_161), (163, tn10_163), (164, tb4_164), (166, tb3_166), (167, tn9_167), (168, tn6_168), (173, tn5_173), (176, tn1_176), (187, tn5_187), (190, tn4_190), (207, tn10_207), (208, tb4_208), (209, tb9_209), (211, tn11_211), (216, tb6_216), (220, tb10_220), (224, tb3_224), (228, tn1_228), (229, tb5_229), (232, tn4_232), (233, tn9_233), (235, tb2_235), (236, tn8_236), (242, tn10_242), (243, tn4_243), (253, tb4_253), (265, tn2_265), (267, tn3_267), (268, tn8_268), (272, tb5_272), (276, tn1_276), (279, tn2_279), (280, tb9_280), (283, tn2_283), (310, tb3_310), (319, tn1_319), (323, tn6_323), (383, tn2_383), (385, tb3_385), (390, tn7_390), (404, tn1_404), (407, tn5_407), (408, tn4_408), (409, tb7_409), (411, tn3_411), (412, tb8_412), (415, tn2_415), (418, tn1_418), (505, tn5_505), (521, tn6_521), (532, tn5_532), (549, tn5_549), (579, tn1_579), (583, tn1_583), (584, tn2_584), (609, tn1_609), (628, tn2_628), (646, tn2_646), (682, tb2_682), (710, tn5_710), (713, tn3_713), (718, tn2_718), (727, tn4_727), (729, tn4_729), (811, tn1_811), (836, tn1_836), (851, tn4_851), (857, tn3_857), (858, tn2_858), (917, tn1_917), (961, tn1_961)]
def F14 : Env := layer E3 F13 3000 tabs14
/-- foregone/foregonelaw40.sane -/
def tn15_4 : List (List V × V) := [([], .bool true)]
end
end Go.AM.S40
