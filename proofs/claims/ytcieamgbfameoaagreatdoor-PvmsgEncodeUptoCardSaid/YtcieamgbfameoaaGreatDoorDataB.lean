/- What the functions of this program give, on the abstract machine. -/
import Derived.Test.YtcieamgbfameoaaGreatDoorDataA
import Derived.Test.YtcieamgbfameoaaGreatDoorMachineC
import Derived.Test.YtcieamgbfameoaaGreatDoorMachineB
set_option linter.unusedVariables false
set_option linter.unusedSimpArgs false
set_option maxRecDepth 100000
namespace Go.AM.IR
open Go Go.AM
def f365x0 : List AOper := [
  Op 1 (.box (.t 0)),
  Op 2 (.alloc (.agg [.int .i64 0, .con (.slice none 0 0), .int .u32 0, .bool false, .int .i64 0, .bool false, .int .i64 0, .bool false, .bool false, .int .i64 0, .int .u32 0, .con (.slice none 0 0), .bool false, .int .u32 0, .con (.slice none 0 0), .con (.slice none 0 0)]))]
def f365x1 : List AOper := [
  Fa 6 1 1,
  Ld 7 6,
  Ct 8 368 [7],
  Fa 9 1 1,
  St 1 9 8]
def f365x2 : List AOper := [
  Op 10 (.bsl 1 [.int .u32 0] 0 [] []),
  Fa 11 11 1,
  Ld 12 11,
  Ap 13 1 4 10 12,
  Fa 14 11 1,
  St 1 14 13]
def f365x3 : List AOper := [
  Op 15 (.bsl 1 [.int .u32 0] 0 [] []),
  Fa 16 14 1,
  Ld 17 16,
  Ap 18 1 4 15 17,
  Fa 19 14 1,
  St 1 19 18]
def f365x4 : List AOper := [
  Mc 3 (.con (.slice none 0 0))]
def f365x5 : List AOper := [
  Fa 20 15 1,
  Ld 21 20,
  Ln 22 0 21,
  Mc 23 (.int .i64 0)]
def f365x6 : List AOper := [
  Bi 24 .lss 23 22]
def f365x7 : List AOper := [
  Ia 25 2 21 23,
  Ls 26 2 25,
  Op 5 (.alloc (.agg [.int .i64 0, .con (.slice none 0 0)])),
  St 2 5 26]
def f365x8 : List AOper := [
  Mv 27 3,
  Fa 28 0 5,
  Ld 29 28,
  Op 30 (.bsl 1 [.int .u8 0] 0 [] []),
  Fa 31 1 5,
  Ld 32 31,
  Af [3, 5] (Ap 33 1 1 30 32),
  Op 34 (.build [.int .i64 0, .con (.slice none 0 0)] [(0, 1), (1, 1)] [(.t 29), (.t 33)]),
  Af [2, 6, 3, 5] (Op 35 (.bsl 2 [.int .i64 0, .con (.slice none 0 0)] 1 [0] [(.t 34)])),
  Af [8, 2, 6, 3, 5] (Ap 36 2 32 27 35),
  Mv 3 36]
def f365x9 : List AOper := [
  Bc 37 .add 23 1,
  Mv 23 37]
def f365x10L : ACode := (.seq (.region f365x6 false) (.seq (.cond (.t 24) .skip (.exit 0)) (.seq (.block 1 (.seq (.region f365x7 false) (.region f365x8 true))) (.region f365x9 false))))
def f365x11 : List AOper := [
  Mv 38 3,
  Fa 39 15 1,
  St 1 39 38]
def f365x12 : List AOper := [
  Ls 40 16 1,
  St 16 2 40]
def f365 : AFunc := ⟨41, 1, false, [.cell 2 (some 16)], (.seq (.region f365x0 false) (.seq (.region f365x1 false) (.seq (.region f365x2 false) (.seq (.region f365x3 false) (.seq (.region f365x4 false) (.seq (.seq (.region f365x5 false) (.block 0 (.loop f365x10L))) (.seq (.region f365x11 false) (.seq (.region f365x12 false) .ret))))))))⟩
def f26x0 : List AOper := [
  Op 1 (.box (.t 0)),
  Mc 2 (.int .i64 0)]
def f26x1 : List AOper := [
  Fa 6 1 1,
  Ld 7 6,
  Af [1] (Ct 8 54 [7]),
  Fa 9 11 1,
  Ld 10 9,
  Af [4] (Ln 11 0 10),
  Bi 12 .add 8 11,
  Fa 13 14 1,
  Ld 14 13,
  Af [8] (Ln 15 0 14),
  Bi 16 .add 12 15,
  Fa 17 15 1,
  Ld 18 17,
  Af [12] (Ln 19 0 18),
  Bi 20 .add 16 19,
  Mv 3 20]
def f26x2 : List AOper := [
  Fa 21 15 1,
  Ld 22 21,
  Ln 23 0 22,
  Mc 24 (.int .i64 0)]
def f26x3 : List AOper := [
  Bi 25 .lss 24 23]
def f26x4 : List AOper := [
  Ia 26 2 22 24,
  Ls 27 2 26,
  Op 5 (.alloc (.agg [.int .i64 0, .con (.slice none 0 0)])),
  St 2 5 27]
def f26x5 : List AOper := [
  Mv 28 3,
  Fa 29 1 5,
  Ld 30 29,
  Ln 31 0 30,
  Bc 32 .quo 31 8,
  Bi 33 .add 28 32,
  Mv 3 33]
def f26x6 : List AOper := [
  Bc 34 .add 24 1,
  Mv 24 34]
def f26x7L : ACode := (.seq (.region f26x3 false) (.seq (.cond (.t 25) .skip (.exit 0)) (.seq (.block 1 (.seq (.region f26x4 false) (.region f26x5 false))) (.region f26x6 false))))
def f26x8 : List AOper := [
  Mv 35 3,
  Mv 2 35]
def f26 : AFunc := ⟨36, 1, false, [.t 2], (.seq (.region f26x0 false) (.seq (.region f26x1 true) (.seq (.seq (.region f26x2 false) (.block 0 (.loop f26x7L))) (.seq (.region f26x8 false) .ret))))⟩
def f26x7LH : List AItem := [.inLoop f26x7L, .inBlock 0, .code (.seq (.region f26x8 false) .ret)]
def f169x0 : List AOper := [
  Mc 4 (.bool false)]
def f169x1 : List AOper := [
  Mv 6 0,
  Ln 7 0 6,
  Mv 8 1,
  Ln 9 0 8,
  Bi 10 .neq 7 9]
def f169x2 : List AOper := [
  Mc 4 (.bool false)]
def f169x3 : List AOper := [
  Mv 11 0,
  Ln 12 0 11,
  Mc 13 (.int .i64 0)]
def f169x4 : List AOper := [
  Bi 14 .lss 13 12]
def f169x5 : List AOper := [
  Mv 15 13,
  Mv 5 15]
def f169x6 : List AOper := [
  Mv 16 0,
  Mv 17 5,
  Ia 18 2 16 17,
  Af [2] (Ls 19 2 18),
  Mv 20 1,
  Mv 21 5,
  Ia 22 2 20 21,
  Af [6] (Ls 23 2 22),
  Op 24 (.eqs [.int, .int] true (.t 19) (.t 23))]
def f169x7 : List AOper := [
  Mc 4 (.bool false)]
def f169x8 : List AOper := [
  Bc 25 .add 13 1,
  Mv 13 25]
def f169x9L : ACode := (.seq (.region f169x4 false) (.seq (.cond (.t 14) .skip (.exit 0)) (.seq (.block 1 (.seq (.region f169x5 false) (.seq (.region f169x6 true) (.cond (.t 24) (.seq (.region f169x7 false) .ret) .skip)))) (.region f169x8 false))))
def f169x10 : List AOper := [
  Mc 4 (.bool true)]
def f169 : AFunc := ⟨26, 2, false, [.t 4], (.seq (.region f169x0 false) (.seq (.seq (.region f169x1 false) (.cond (.t 10) (.seq (.region f169x2 false) .ret) .skip)) (.seq (.seq (.region f169x3 false) (.block 0 (.loop f169x9L))) (.seq (.region f169x10 false) .ret))))⟩
def f169x9LH : List AItem := [.inLoop f169x9L, .inBlock 0, .code (.seq (.region f169x10 false) .ret)]
def f72x0 : List AOper := [
  Op 2 (.box (.t 0)),
  Op 3 (.box (.t 1)),
  Mc 4 (.bool false)]
def f72x1 : List AOper := [
  Fa 6 0 2,
  Ld 7 6,
  Fa 8 0 3,
  Ld 9 8,
  Bi 10 .neq 7 9,
  Mv 11 10,
  Gf 11 (Fa 12 1 2),
  Gf 11 (Ld 13 12),
  Gf 11 (Fa 14 1 3),
  Gf 11 (Ld 15 14),
  Gf 11 (Ct 16 103 [13, 15]),
  Gf 11 (Un 17 .not 16),
  Po 18 11 17,
  Mv 19 18,
  Gf 19 (Fa 20 2 2),
  Gf 19 (Ld 21 20),
  Gf 19 (Fa 22 2 3),
  Gf 19 (Ld 23 22),
  Gf 19 (Bi 24 .neq 21 23),
  Po 25 19 24,
  Mv 26 25,
  Gf 26 (Fa 27 3 2),
  Gf 26 (Ld 28 27),
  Gf 26 (Fa 29 3 3),
  Gf 26 (Ld 30 29),
  Gf 26 (Op 31 (.eqb true (.t 28) (.t 30))),
  Po 32 26 31,
  Mv 33 32,
  Gf 33 (Fa 34 4 2),
  Gf 33 (Ld 35 34),
  Gf 33 (Fa 36 4 3),
  Gf 33 (Ld 37 36),
  Gf 33 (Bi 38 .neq 35 37),
  Po 39 33 38,
  Mv 40 39,
  Gf 40 (Fa 41 5 2),
  Gf 40 (Ld 42 41),
  Gf 40 (Fa 43 5 3),
  Gf 40 (Ld 44 43),
  Gf 40 (Op 45 (.eqb true (.t 42) (.t 44))),
  Po 46 40 45,
  Mv 47 46,
  Gf 47 (Fa 48 6 2),
  Gf 47 (Ld 49 48),
  Gf 47 (Fa 50 6 3),
  Gf 47 (Ld 51 50),
  Gf 47 (Bi 52 .neq 49 51),
  Po 53 47 52,
  Mv 54 53,
  Gf 54 (Fa 55 7 2),
  Gf 54 (Ld 56 55),
  Gf 54 (Fa 57 7 3),
  Gf 54 (Ld 58 57),
  Gf 54 (Op 59 (.eqb true (.t 56) (.t 58))),
  Po 60 54 59]
def f72x2 : List AOper := [
  Mc 4 (.bool false)]
def f72x3 : List AOper := [
  Fa 61 8 2,
  Ld 62 61,
  Fa 63 8 3,
  Ld 64 63,
  Op 65 (.eqb true (.t 62) (.t 64)),
  Mv 66 65,
  Gf 66 (Fa 67 9 2),
  Gf 66 (Ld 68 67),
  Gf 66 (Fa 69 9 3),
  Gf 66 (Ld 70 69),
  Gf 66 (Bi 71 .neq 68 70),
  Po 72 66 71,
  Mv 73 72,
  Gf 73 (Fa 74 10 2),
  Gf 73 (Ld 75 74),
  Gf 73 (Fa 76 10 3),
  Gf 73 (Ld 77 76),
  Gf 73 (Bi 78 .neq 75 77),
  Po 79 73 78,
  Mv 80 79,
  Gf 80 (Fa 81 11 2),
  Gf 80 (Ld 82 81),
  Gf 80 (Fa 83 11 3),
  Gf 80 (Ld 84 83),
  Gf 80 (Ct 85 104 [82, 84]),
  Gf 80 (Un 86 .not 85),
  Po 87 80 86,
  Mv 88 87,
  Gf 88 (Fa 89 12 2),
  Gf 88 (Ld 90 89),
  Gf 88 (Fa 91 12 3),
  Gf 88 (Ld 92 91),
  Gf 88 (Op 93 (.eqb true (.t 90) (.t 92))),
  Po 94 88 93,
  Mv 95 94,
  Gf 95 (Fa 96 13 2),
  Gf 95 (Ld 97 96),
  Gf 95 (Fa 98 13 3),
  Gf 95 (Ld 99 98),
  Gf 95 (Bi 100 .neq 97 99),
  Po 101 95 100,
  Mv 102 101,
  Gf 102 (Fa 103 14 2),
  Gf 102 (Ld 104 103),
  Gf 102 (Fa 105 14 3),
  Gf 102 (Ld 106 105),
  Gf 102 (Ct 107 104 [104, 106]),
  Gf 102 (Un 108 .not 107),
  Po 109 102 108,
  Mv 110 109,
  Gf 110 (Fa 111 15 2),
  Gf 110 (Ld 112 111),
  Gf 110 (Ln 113 0 112),
  Gf 110 (Fa 114 15 3),
  Gf 110 (Ld 115 114),
  Gf 110 (Ln 116 0 115),
  Gf 110 (Bi 117 .neq 113 116),
  Po 118 110 117]
def f72x4 : List AOper := [
  Mc 4 (.bool false)]
def f72x5 : List AOper := [
  Fa 119 15 2,
  Ld 120 119,
  Ln 121 0 120,
  Mc 122 (.int .i64 0)]
def f72x6 : List AOper := [
  Bi 123 .lss 122 121]
def f72x7 : List AOper := [
  Mv 124 122,
  Mv 5 124]
def f72x8 : List AOper := [
  Fa 125 15 2,
  Ld 126 125,
  Mv 127 5,
  Af [1] (Ia 128 2 126 127),
  Fa 129 0 128,
  Af [3, 1] (Ld 130 129),
  Fa 131 15 3,
  Ld 132 131,
  Mv 133 5,
  Af [7] (Ia 134 2 132 133),
  Fa 135 0 134,
  Af [9, 7] (Ld 136 135),
  Bi 137 .neq 130 136,
  Mv 138 137,
  Gf 138 (Fa 139 15 2),
  Af [5, 11, 3, 1, 9, 7] (Gf 138 (Ld 140 139)),
  Gf 138 (Mv 141 5),
  Af [15, 5, 11, 3, 1, 9, 7] (Gf 138 (Ia 142 2 140 141)),
  Gf 138 (Fa 143 1 142),
  Af [17, 15, 5, 11, 3, 1, 9, 7] (Gf 138 (Ld 144 143)),
  Af [19, 17, 15, 5, 11, 3, 1, 9, 7] (Gf 138 (Op 145 (.b2s (.t 144)))),
  Gf 138 (Fa 146 15 3),
  Af [5, 11, 3, 1, 9, 7] (Gf 138 (Ld 147 146)),
  Gf 138 (Mv 148 5),
  Af [22, 5, 11, 3, 1, 9, 7] (Gf 138 (Ia 149 2 147 148)),
  Gf 138 (Fa 150 1 149),
  Af [24, 22, 5, 11, 3, 1, 9, 7] (Gf 138 (Ld 151 150)),
  Af [26, 24, 22, 5, 11, 3, 1, 9, 7] (Gf 138 (Op 152 (.b2s (.t 151)))),
  Gf 138 (Bi 153 .neq 145 152),
  Po 154 138 153]
def f72x9 : List AOper := [
  Mc 4 (.bool false)]
def f72x10 : List AOper := [
  Bc 155 .add 122 1,
  Mv 122 155]
def f72x11L : ACode := (.seq (.region f72x6 false) (.seq (.cond (.t 123) .skip (.exit 0)) (.seq (.block 1 (.seq (.region f72x7 false) (.seq (.region f72x8 true) (.cond (.t 154) (.seq (.region f72x9 false) .ret) .skip)))) (.region f72x10 false))))
def f72x12 : List AOper := [
  Mc 4 (.bool true)]
def f72 : AFunc := ⟨156, 2, false, [.t 4], (.seq (.region f72x0 false) (.seq (.seq (.region f72x1 false) (.cond (.t 60) (.seq (.region f72x2 false) .ret) .skip)) (.seq (.seq (.region f72x3 false) (.cond (.t 118) (.seq (.region f72x4 false) .ret) .skip)) (.seq (.seq (.region f72x5 false) (.block 0 (.loop f72x11L))) (.seq (.region f72x12 false) .ret)))))⟩
def f72x11LH : List AItem := [.inLoop f72x11L, .inBlock 0, .code (.seq (.region f72x12 false) .ret)]
def f157x0 : List AOper := [
  Op 1 (.box (.t 0)),
  Op 2 (.alloc (.agg [.int .i64 0, .int .i64 0, .int .i64 0, .int .i64 0, .int .u32 0, .con (.slice none 0 0), .con (.slice none 0 0), .int .i64 0, .con (.slice none 0 0), .int .u32 0, .bool false, .int .i64 0, .bool false, .int .i64 0, .bool false, .bool false, .int .i64 0, .int .u32 0, .con (.slice none 0 0), .bool false, .int .u32 0, .con (.slice none 0 0), .con (.slice none 0 0), .con (.slice none 0 0), .int .i64 0, .int .i64 0, .con (.slice none 0 0)]))]
def f157x1 : List AOper := [
  Fa 4 0 1,
  Ld 5 4,
  Op 6 (.build [.int .i64 0, .int .i64 0, .int .i64 0, .int .i64 0, .int .u32 0, .con (.slice none 0 0), .con (.slice none 0 0), .int .i64 0, .con (.slice none 0 0), .int .u32 0, .bool false, .int .i64 0, .bool false, .int .i64 0, .bool false, .bool false, .int .i64 0, .int .u32 0, .con (.slice none 0 0), .bool false, .int .u32 0, .con (.slice none 0 0), .con (.slice none 0 0), .con (.slice none 0 0), .int .i64 0, .int .i64 0, .con (.slice none 0 0)] [(0, 1)] [(.t 5)]),
  Op 3 (.alloc (.agg [.int .i64 0, .int .i64 0, .int .i64 0, .int .i64 0, .int .u32 0, .con (.slice none 0 0), .con (.slice none 0 0), .int .i64 0, .con (.slice none 0 0), .int .u32 0, .bool false, .int .i64 0, .bool false, .int .i64 0, .bool false, .bool false, .int .i64 0, .int .u32 0, .con (.slice none 0 0), .bool false, .int .u32 0, .con (.slice none 0 0), .con (.slice none 0 0), .con (.slice none 0 0), .int .i64 0, .int .i64 0, .con (.slice none 0 0)])),
  St 27 3 6]
def f157x2 : List AOper := [
  Fa 7 0 1,
  Ld 8 7]
def f157x3 : List AOper := [
  Bc 10 .eql 8 1,
  Mv 9 10]
def f157x4 : List AOper := [
  Fa 11 1 1,
  Ld 12 11,
  Fa 13 2 1,
  Ld 14 13,
  Fa 15 3 1,
  Ld 16 15,
  Fa 17 4 1,
  Ld 18 17,
  Fa 19 5 1,
  Ld 20 19,
  Fa 21 1 3,
  Af [1] (St 1 21 12),
  Fa 22 2 3,
  Af [3, 11, 1] (St 1 22 14),
  Fa 23 3 3,
  Af [5, 13, 3, 11, 1] (St 1 23 16),
  Fa 24 4 3,
  Af [7, 15, 5, 13, 3, 11, 1] (St 1 24 18),
  Fa 25 5 3,
  Af [9, 17, 7, 15, 5, 13, 3, 11, 1] (St 1 25 20)]
def f157x5 : List AOper := [
  Bc 27 .eql 8 2,
  Mv 26 27]
def f157x6 : List AOper := [
  Fa 28 6 1,
  Ld 29 28,
  Fa 30 7 1,
  Ls 31 16 30,
  Fa 32 23 1,
  Ld 33 32,
  Fa 34 6 3,
  Af [1] (St 1 34 29),
  Fa 35 7 3,
  Af [3, 7, 1] (St 16 35 31),
  Fa 36 23 3,
  Af [5, 9, 3, 7, 1] (St 1 36 33)]
def f157x7 : List AOper := [
  Bc 38 .eql 8 3,
  Mv 37 38]
def f157x8 : List AOper := [
  Fa 39 24 1,
  Ld 40 39,
  Fa 41 25 1,
  Ld 42 41,
  Fa 43 26 1,
  Ld 44 43,
  Fa 45 24 3,
  Af [1] (St 1 45 40),
  Fa 46 25 3,
  Af [3, 7, 1] (St 1 46 42),
  Fa 47 26 3,
  Af [5, 9, 3, 7, 1] (St 1 47 44)]
def f157x9 : List AOper := [
  Ls 48 27 3,
  St 27 2 48]
def f157 : AFunc := ⟨49, 1, false, [.cell 2 (some 27)], (.seq (.region f157x0 false) (.seq (.region f157x1 false) (.seq (.seq (.region f157x2 false) (.block 0 (.seq (.region f157x3 false) (.cond (.t 9) (.region f157x4 true) (.seq (.region f157x5 false) (.cond (.t 26) (.region f157x6 true) (.seq (.region f157x7 false) (.cond (.t 37) (.region f157x8 true) .skip)))))))) (.seq (.region f157x9 false) .ret))))⟩
def f158x0 : List AOper := [
  Op 1 (.box (.t 0)),
  Mc 2 (.int .i64 0)]
def f158x1 : List AOper := [
  Fa 4 1 1,
  Ld 5 4,
  Bc 6 .neq 5 4,
  Mv 3 6]
def f158x2 : List AOper := [
  Mc 2 (.int .i64 12)]
def f158x3 : List AOper := [
  Fa 8 2 1,
  Ld 9 8,
  Bc 10 .lss 9 1,
  Mv 11 10,
  Gf 11 (Fa 12 2 1),
  Gf 11 (Ld 13 12),
  Gf 11 (Bc 14 .gtr 13 4294967295),
  Po 15 11 14,
  Mv 7 15]
def f158x4 : List AOper := [
  Mc 2 (.int .i64 5)]
def f158x5 : List AOper := [
  Fa 17 3 1,
  Ld 18 17,
  Bc 19 .neq 18 0,
  Mv 20 19,
  Gt 20 (Fa 21 3 1),
  Gt 20 (Ld 22 21),
  Gt 20 (Bc 23 .lss 22 3),
  Gt 20 (Mv 24 23),
  Gf 24 (Fa 25 3 1),
  Gf 24 (Ld 26 25),
  Gf 24 (Bc 27 .gtr 26 65535),
  Gt 20 (Po 28 24 27),
  Pa 29 20 28,
  Mv 16 29]
def f158x6 : List AOper := [
  Mc 2 (.int .i64 21)]
def f158x7 : List AOper := [
  Fa 31 4 1,
  Ld 32 31,
  Op 33 (.bin .eql (.t 32) (.c (.int .u32 0))),
  Mv 30 33]
def f158x8 : List AOper := [
  Mc 2 (.int .i64 1)]
def f158x9 : List AOper := [
  Ls 34 27 1,
  Ct 35 170 [34],
  Mv 2 35]
def f158 : AFunc := ⟨36, 1, false, [.t 2], (.seq (.region f158x0 false) (.seq (.block 0 (.seq (.region f158x1 false) (.cond (.t 3) (.seq (.region f158x2 false) .ret) (.seq (.region f158x3 false) (.cond (.t 7) (.seq (.region f158x4 false) .ret) (.seq (.region f158x5 false) (.cond (.t 16) (.seq (.region f158x6 false) .ret) (.seq (.region f158x7 false) (.cond (.t 30) (.seq (.region f158x8 false) .ret) .skip))))))))) (.seq (.region f158x9 false) .ret)))⟩
def f159x0 : List AOper := [
  Op 1 (.box (.t 0)),
  Mc 2 (.int .i64 0)]
def f159x1 : List AOper := [
  Fa 8 6 1,
  Ld 9 8,
  Ct 10 171 [9],
  Mv 3 10]
def f159x2 : List AOper := [
  Mv 11 3,
  Bc 12 .neq 11 0]
def f159x3 : List AOper := [
  Mv 13 3,
  Mv 2 13]
def f159x4 : List AOper := [
  Fa 14 23 1,
  Ld 15 14,
  Ct 16 171 [15],
  Mv 4 16]
def f159x5 : List AOper := [
  Mv 17 4,
  Bc 18 .neq 17 0]
def f159x6 : List AOper := [
  Mv 19 4,
  Mv 2 19]
def f159x7 : List AOper := [
  Mc 5 (.int .i64 0)]
def f159x8 : List AOper := [
  Fa 20 6 1,
  Ld 21 20,
  Ln 22 0 21,
  Mc 23 (.int .i64 0)]
def f159x9 : List AOper := [
  Bi 24 .lss 23 22]
def f159x10 : List AOper := [
  Ia 25 2 21 23,
  Ls 26 2 25,
  Op 7 (.alloc (.agg [.int .u32 0, .int .i64 0])),
  St 2 7 26]
def f159x11 : List AOper := [
  Mv 27 5,
  Fa 28 23 1,
  Ld 29 28,
  Af [2] (Ln 30 0 29),
  Bi 31 .lss 27 30,
  Mv 32 31,
  Gt 32 (Fa 33 23 1),
  Af [3, 2] (Gt 32 (Ld 34 33)),
  Gt 32 (Mv 35 5),
  Af [7, 3, 2] (Gt 32 (Ia 36 2 34 35)),
  Af [9, 7, 3, 2] (Gt 32 (Ls 37 2 36)),
  Af [3, 2] (Gt 32 (Ls 38 2 7)),
  Af [10, 11, 9, 7, 3, 2] (Gt 32 (Ct 39 172 [37, 38])),
  Gt 32 (Bc 40 .lss 39 0),
  Pa 41 32 40]
def f159x12 : List AOper := [
  Mv 42 5,
  Bc 43 .add 42 1,
  Mv 5 43]
def f159x13L : ACode := (.seq (.seq (.region f159x11 true) (.cond (.t 41) .skip (.exit 2))) (.block 3 (.region f159x12 false)))
def f159x14 : List AOper := [
  Mv 44 5,
  Fa 45 23 1,
  Ld 46 45,
  Af [2] (Ln 47 0 46),
  Bi 48 .lss 44 47,
  Mv 49 48,
  Gt 49 (Fa 50 23 1),
  Af [3, 2] (Gt 49 (Ld 51 50)),
  Gt 49 (Mv 52 5),
  Af [7, 3, 2] (Gt 49 (Ia 53 2 51 52)),
  Af [9, 7, 3, 2] (Gt 49 (Ls 54 2 53)),
  Af [3, 2] (Gt 49 (Ls 55 2 7)),
  Gt 49 (Op 56 (.eqs [.int, .int] false (.t 54) (.t 55))),
  Pa 57 49 56]
def f159x15 : List AOper := [
  Mc 2 (.int .i64 7)]
def f159x16 : List AOper := [
  Bc 58 .add 23 1,
  Mv 23 58]
def f159x17L : ACode := (.seq (.region f159x9 false) (.seq (.cond (.t 24) .skip (.exit 0)) (.seq (.block 1 (.seq (.region f159x10 false) (.seq (.block 2 (.loop f159x13L)) (.seq (.region f159x14 true) (.cond (.t 57) (.seq (.region f159x15 false) .ret) .skip))))) (.region f159x16 false))))
def f159x18 : List AOper := [
  Fa 59 23 1,
  Ld 60 59,
  Ln 61 0 60,
  Bc 62 .gtr 61 0]
def f159x19 : List AOper := [
  Fa 63 7 1,
  Ls 64 16 63,
  Ct 65 65 [64],
  Mv 2 65]
def f159x20 : List AOper := [
  Fa 66 7 1,
  Ls 67 16 66,
  Op 68 (.build [.int .i64 0, .con (.slice none 0 0), .int .u32 0, .bool false, .int .i64 0, .bool false, .int .i64 0, .bool false, .bool false, .int .i64 0, .int .u32 0, .con (.slice none 0 0), .bool false, .int .u32 0, .con (.slice none 0 0), .con (.slice none 0 0)] [] []),
  Ct 69 72 [67, 68],
  Un 70 .not 69]
def f159x21 : List AOper := [
  Mc 2 (.int .i64 1)]
def f159x22 : List AOper := [
  Mc 2 (.int .i64 0)]
def f159 : AFunc := ⟨71, 1, false, [.t 2], (.seq (.region f159x0 false) (.seq (.seq (.region f159x1 false) (.seq (.region f159x2 false) (.cond (.t 12) (.seq (.region f159x3 false) .ret) .skip))) (.seq (.seq (.region f159x4 false) (.seq (.region f159x5 false) (.cond (.t 18) (.seq (.region f159x6 false) .ret) .skip))) (.seq (.region f159x7 false) (.seq (.seq (.region f159x8 false) (.block 0 (.loop f159x17L))) (.seq (.seq (.region f159x18 false) (.cond (.t 62) (.seq (.region f159x19 false) .ret) .skip)) (.seq (.seq (.region f159x20 false) (.cond (.t 70) (.seq (.region f159x21 false) .ret) .skip)) (.seq (.region f159x22 false) .ret))))))))⟩
def f159x17LH : List AItem := [.inLoop f159x17L, .inBlock 0, .code (.seq (.seq (.region f159x18 false) (.cond (.t 62) (.seq (.region f159x19 false) .ret) .skip)) (.seq (.seq (.region f159x20 false) (.cond (.t 70) (.seq (.region f159x21 false) .ret) .skip)) (.seq (.region f159x22 false) .ret)))]
def f159x13LH : List AItem := [.inLoop f159x13L, .inBlock 2, .code (.seq (.region f159x14 true) (.cond (.t 57) (.seq (.region f159x15 false) .ret) .skip)), .inBlock 1, .code (.region f159x16 false), .inLoop f159x17L, .inBlock 0, .code (.seq (.seq (.region f159x18 false) (.cond (.t 62) (.seq (.region f159x19 false) .ret) .skip)) (.seq (.seq (.region f159x20 false) (.cond (.t 70) (.seq (.region f159x21 false) .ret) .skip)) (.seq (.region f159x22 false) .ret)))]
def f204x0 : List AOper := [
  Mc 2 (.int .i64 0)]
def f204x1 : List AOper := [
  Mv 3 0,
  Bc 4 .gtr 3 65535]
def f204x2 : List AOper := [
  Mc 2 (.int .i64 23456)]
def f204x3 : List AOper := [
  Mv 5 0,
  Mv 2 5]
def f204 : AFunc := ⟨6, 1, false, [.t 2], (.seq (.region f204x0 false) (.seq (.seq (.region f204x1 false) (.cond (.t 4) (.seq (.region f204x2 false) .ret) .skip)) (.seq (.region f204x3 false) .ret)))⟩
def f205x0 : List AOper := [
  Mc 2 (.con (.slice none 0 0))]
def f205x1 : List AOper := [
  Mc 3 (.con (.slice none 0 0))]
def f205x2 : List AOper := [
  Mv 6 0,
  Ln 7 0 6,
  Mc 8 (.int .i64 0)]
def f205x3 : List AOper := [
  Bi 9 .lss 8 7]
def f205x4 : List AOper := [
  Ia 10 2 6 8,
  Ls 11 2 10,
  Op 5 (.alloc (.agg [.int .u32 0, .int .i64 0])),
  St 2 5 11]
def f205x5 : List AOper := [
  Mv 12 3,
  Fa 13 1 5,
  Ld 14 13,
  Cv 15 .u8 14,
  Op 16 (.bsl 1 [.int .u8 0] 1 [0] [(.t 15)]),
  Ap 17 1 1 12 16,
  Mv 3 17]
def f205x6 : List AOper := [
  Mv 18 3,
  Fa 19 0 5,
  Ld 20 19,
  Cv 21 .u64 20,
  Af [2] (Ca 22 109 [(.c (.con (.slice none 0 0))), (.c (.int .i64 4)), (.t 21)]),
  Fa 23 1 5,
  Ld 24 23,
  Bc 25 .add 24 7,
  Bc 26 .quo 25 8,
  Af [4, 2, 6] (Op 27 (.slc 1 (.t 22) none (some (.t 26)) none)),
  Af [9, 4, 6, 2] (Ap 28 1 1 18 27),
  Mv 3 28]
def f205x7 : List AOper := [
  Bc 29 .add 8 1,
  Mv 8 29]
def f205x8L : ACode := (.seq (.region f205x3 false) (.seq (.cond (.t 9) .skip (.exit 0)) (.seq (.block 1 (.seq (.region f205x4 false) (.seq (.region f205x5 false) (.region f205x6 true)))) (.region f205x7 false))))
def f205x9 : List AOper := [
  Mv 30 3,
  Mv 2 30]
def f205 : AFunc := ⟨31, 1, false, [.t 2], (.seq (.region f205x0 false) (.seq (.region f205x1 false) (.seq (.seq (.region f205x2 false) (.block 0 (.loop f205x8L))) (.seq (.region f205x9 false) .ret))))⟩
def f205x8LH : List AItem := [.inLoop f205x8L, .inBlock 0, .code (.seq (.region f205x9 false) .ret)]
def f119x0 : List AOper := [
  Mc 2 (.con (.slice none 0 0))]
def f119x1 : List AOper := [
  Mc 3 (.int .i64 0)]
def f119x2 : List AOper := [
  Mv 9 0,
  Ln 10 0 9,
  Mc 11 (.int .i64 0)]
def f119x3 : List AOper := [
  Bi 12 .lss 11 10]
def f119x4 : List AOper := [
  Ia 13 1 9 11,
  Ld 14 13,
  Mv 5 14]
def f119x5 : List AOper := [
  Mv 15 3,
  Mv 16 5,
  Ln 17 0 16,
  Bi 18 .add 15 17,
  Mv 3 18]
def f119x6 : List AOper := [
  Bc 19 .add 11 1,
  Mv 11 19]
def f119x7L : ACode := (.seq (.region f119x3 false) (.seq (.cond (.t 12) .skip (.exit 0)) (.seq (.block 1 (.seq (.region f119x4 false) (.region f119x5 false))) (.region f119x6 false))))
def f119x8 : List AOper := [
  Mv 20 3,
  Op 21 (.mksl 1 1 [.int .u8 0] (.c (.int .i64 0)) (.t 20)),
  Mv 6 21]
def f119x9 : List AOper := [
  Mv 22 0,
  Ln 23 0 22,
  Mc 24 (.int .i64 0)]
def f119x10 : List AOper := [
  Bi 25 .lss 24 23]
def f119x11 : List AOper := [
  Ia 26 1 22 24,
  Ld 27 26,
  Mv 8 27]
def f119x12 : List AOper := [
  Mv 28 6,
  Mv 29 8,
  Ap 30 1 1 28 29,
  Mv 6 30]
def f119x13 : List AOper := [
  Bc 31 .add 24 1,
  Mv 24 31]
def f119x14L : ACode := (.seq (.region f119x10 false) (.seq (.cond (.t 25) .skip (.exit 2)) (.seq (.block 3 (.seq (.region f119x11 false) (.region f119x12 false))) (.region f119x13 false))))
def f119x15 : List AOper := [
  Mv 32 6,
  Mv 2 32]
def f119 : AFunc := ⟨33, 1, false, [.t 2], (.seq (.region f119x0 false) (.seq (.region f119x1 false) (.seq (.seq (.region f119x2 false) (.block 0 (.loop f119x7L))) (.seq (.region f119x8 false) (.seq (.seq (.region f119x9 false) (.block 2 (.loop f119x14L))) (.seq (.region f119x15 false) .ret))))))⟩
def f119x7LH : List AItem := [.inLoop f119x7L, .inBlock 0, .code (.seq (.region f119x8 false) (.seq (.seq (.region f119x9 false) (.block 2 (.loop f119x14L))) (.seq (.region f119x15 false) .ret)))]
def f119x14LH : List AItem := [.inLoop f119x14L, .inBlock 2, .code (.seq (.region f119x15 false) .ret)]
def f120x0 : List AOper := [
  Mc 4 (.con (.slice none 0 0))]
def f120x1 : List AOper := [
  Mc 5 (.con (.slice none 0 0))]
def f120x2 : List AOper := [
  Mv 7 0,
  Bc 8 .sub 7 1,
  Mv 6 8]
def f120x3 : List AOper := [
  Mv 9 6,
  Bc 10 .geq 9 0]
def f120x4 : List AOper := [
  Mv 13 5,
  Mv 14 1,
  Mv 15 6,
  Op 16 (.bin .mul (.c (.int .i64 8)) (.t 15)),
  Bi 17 .shr 14 16,
  Cv 18 .u8 17,
  Op 19 (.bsl 1 [.int .u8 0] 1 [0] [(.t 18)]),
  Ap 20 1 1 13 19,
  Mv 5 20]
def f120x5 : List AOper := [
  Mv 11 6,
  Bc 12 .sub 11 1,
  Mv 6 12]
def f120x6L : ACode := (.seq (.seq (.region f120x3 false) (.cond (.t 10) .skip (.exit 0))) (.seq (.block 1 (.region f120x4 false)) (.region f120x5 false)))
def f120x7 : List AOper := [
  Mv 21 5,
  Mv 4 21]
def f120 : AFunc := ⟨22, 2, false, [.t 4], (.seq (.region f120x0 false) (.seq (.region f120x1 false) (.seq (.seq (.region f120x2 false) (.block 0 (.loop f120x6L))) (.seq (.region f120x7 false) .ret))))⟩
def f120x6LH : List AItem := [.inLoop f120x6L, .inBlock 0, .code (.seq (.region f120x7 false) .ret)]
def f160x0 : List AOper := [
  Op 1 (.box (.t 0)),
  Mc 2 (.bool false)]
def f160x1 : List AOper := [
  Fa 6 1 1,
  Ld 7 6,
  Bc 8 .eql 7 0,
  Mv 9 8,
  Gt 9 (Fa 10 2 1),
  Gt 9 (Ld 11 10),
  Gt 9 (Bc 12 .eql 11 0),
  Pa 13 9 12,
  Mv 14 13,
  Gt 14 (Fa 15 3 1),
  Gt 14 (Ld 16 15),
  Gt 14 (Bc 17 .eql 16 0),
  Pa 18 14 17,
  Mv 19 18,
  Gt 19 (Fa 20 4 1),
  Gt 19 (Ld 21 20),
  Gt 19 (Op 22 (.bin .eql (.t 21) (.c (.int .u32 0)))),
  Pa 23 19 22,
  Mv 24 23,
  Gt 24 (Fa 25 5 1),
  Gt 24 (Ld 26 25),
  Gt 24 (Ln 27 0 26),
  Gt 24 (Bc 28 .eql 27 0),
  Pa 29 24 28,
  Mv 3 29]
def f160x2 : List AOper := [
  Fa 30 6 1,
  Ld 31 30,
  Ln 32 0 31,
  Bc 33 .eql 32 0,
  Mv 34 33,
  Gt 34 (Fa 35 23 1),
  Gt 34 (Ld 36 35),
  Gt 34 (Ln 37 0 36),
  Gt 34 (Bc 38 .eql 37 0),
  Pa 39 34 38,
  Mv 40 39,
  Gt 40 (Fa 41 7 1),
  Gt 40 (Ls 42 16 41),
  Gt 40 (Op 43 (.build [.int .i64 0, .con (.slice none 0 0), .int .u32 0, .bool false, .int .i64 0, .bool false, .int .i64 0, .bool false, .bool false, .int .i64 0, .int .u32 0, .con (.slice none 0 0), .bool false, .int .u32 0, .con (.slice none 0 0), .con (.slice none 0 0)] [] [])),
  Gt 40 (Ct 44 70 [42, 43]),
  Pa 45 40 44,
  Mv 4 45]
def f160x3 : List AOper := [
  Fa 46 24 1,
  Ld 47 46,
  Bc 48 .eql 47 0,
  Mv 49 48,
  Gt 49 (Fa 50 25 1),
  Gt 49 (Ld 51 50),
  Gt 49 (Bc 52 .eql 51 0),
  Pa 53 49 52,
  Mv 54 53,
  Gt 54 (Fa 55 26 1),
  Gt 54 (Ld 56 55),
  Gt 54 (Ln 57 0 56),
  Gt 54 (Bc 58 .eql 57 0),
  Pa 59 54 58,
  Mv 5 59]
def f160x4 : List AOper := [
  Mv 60 3,
  Mv 61 60,
  Gf 61 (Fa 62 0 1),
  Gf 61 (Ld 63 62),
  Gf 61 (Bc 64 .eql 63 1),
  Po 65 61 64,
  Mv 66 65,
  Gt 66 (Mv 67 4),
  Gt 66 (Mv 68 67),
  Gf 68 (Fa 69 0 1),
  Gf 68 (Ld 70 69),
  Gf 68 (Bc 71 .eql 70 2),
  Gt 66 (Po 72 68 71),
  Pa 73 66 72,
  Mv 74 73,
  Gt 74 (Mv 75 5),
  Gt 74 (Mv 76 75),
  Gf 76 (Fa 77 0 1),
  Gf 76 (Ld 78 77),
  Gf 76 (Bc 79 .eql 78 3),
  Gt 74 (Po 80 76 79),
  Pa 81 74 80,
  Mv 2 81]
def f160 : AFunc := ⟨82, 1, false, [.t 2], (.seq (.region f160x0 false) (.seq (.region f160x1 false) (.seq (.region f160x2 false) (.seq (.region f160x3 false) (.seq (.region f160x4 false) .ret)))))⟩
def f161x0 : List AOper := [
  Op 1 (.box (.t 0)),
  Mc 2 (.int .i64 0)]
def f161x1 : List AOper := [
  Fa 4 1 1,
  Ld 5 4,
  Bc 6 .neq 5 4,
  Mv 3 6]
def f161x2 : List AOper := [
  Mc 2 (.int .i64 12)]
def f161x3 : List AOper := [
  Fa 8 2 1,
  Ld 9 8,
  Bc 10 .lss 9 1,
  Mv 11 10,
  Gf 11 (Fa 12 2 1),
  Gf 11 (Ld 13 12),
  Gf 11 (Bc 14 .gtr 13 4294967295),
  Po 15 11 14,
  Mv 7 15]
def f161x4 : List AOper := [
  Mc 2 (.int .i64 5)]
def f161x5 : List AOper := [
  Fa 17 3 1,
  Ld 18 17,
  Bc 19 .neq 18 0,
  Mv 20 19,
  Gt 20 (Fa 21 3 1),
  Gt 20 (Ld 22 21),
  Gt 20 (Bc 23 .lss 22 3),
  Gt 20 (Mv 24 23),
  Gf 24 (Fa 25 3 1),
  Gf 24 (Ld 26 25),
  Gf 24 (Bc 27 .gtr 26 65535),
  Gt 20 (Po 28 24 27),
  Pa 29 20 28,
  Mv 16 29]
def f161x6 : List AOper := [
  Mc 2 (.int .i64 21)]
def f161x7 : List AOper := [
  Fa 31 4 1,
  Ld 32 31,
  Op 33 (.bin .eql (.t 32) (.c (.int .u32 0))),
  Mv 30 33]
def f161x8 : List AOper := [
  Mc 2 (.int .i64 1)]
def f161x9 : List AOper := [
  Ls 34 27 1,
  Ct 35 173 [34],
  Mv 2 35]
def f161 : AFunc := ⟨36, 1, false, [.t 2], (.seq (.region f161x0 false) (.seq (.block 0 (.seq (.region f161x1 false) (.cond (.t 3) (.seq (.region f161x2 false) .ret) (.seq (.region f161x3 false) (.cond (.t 7) (.seq (.region f161x4 false) .ret) (.seq (.region f161x5 false) (.cond (.t 16) (.seq (.region f161x6 false) .ret) (.seq (.region f161x7 false) (.cond (.t 30) (.seq (.region f161x8 false) .ret) .skip))))))))) (.seq (.region f161x9 false) .ret)))⟩
def f162x0 : List AOper := [
  Op 1 (.box (.t 0)),
  Mc 2 (.int .i64 0)]
def f162x1 : List AOper := [
  Fa 5 6 1,
  Ld 6 5,
  Ct 7 174 [6],
  Mv 3 7]
def f162x2 : List AOper := [
  Mv 8 3,
  Bc 9 .neq 8 0]
def f162x3 : List AOper := [
  Mv 10 3,
  Mv 2 10]
def f162x4 : List AOper := [
  Fa 11 23 1,
  Ld 12 11,
  Ct 13 174 [12],
  Mv 4 13]
def f162x5 : List AOper := [
  Mv 14 4,
  Bc 15 .neq 14 0]
def f162x6 : List AOper := [
  Mv 16 4,
  Mv 2 16]
def f162x7 : List AOper := [
  Fa 17 6 1,
  Ld 18 17,
  Fa 19 23 1,
  Ld 20 19,
  Ct 21 175 [18, 20]]
def f162x8 : List AOper := [
  Mc 2 (.int .i64 7)]
def f162x9 : List AOper := [
  Fa 22 23 1,
  Ld 23 22,
  Ln 24 0 23,
  Bc 25 .gtr 24 0]
def f162x10 : List AOper := [
  Fa 26 7 1,
  Ls 27 16 26,
  Ct 28 66 [27],
  Mv 2 28]
def f162x11 : List AOper := [
  Fa 29 7 1,
  Ls 30 16 29,
  Op 31 (.build [.int .i64 0, .con (.slice none 0 0), .int .u32 0, .bool false, .int .i64 0, .bool false, .int .i64 0, .bool false, .bool false, .int .i64 0, .int .u32 0, .con (.slice none 0 0), .bool false, .int .u32 0, .con (.slice none 0 0), .con (.slice none 0 0)] [] []),
  Ct 32 70 [30, 31],
  Un 33 .not 32]
def f162x12 : List AOper := [
  Mc 2 (.int .i64 1)]
def f162x13 : List AOper := [
  Mc 2 (.int .i64 0)]
def f162 : AFunc := ⟨34, 1, false, [.t 2], (.seq (.region f162x0 false) (.seq (.seq (.region f162x1 false) (.seq (.region f162x2 false) (.cond (.t 9) (.seq (.region f162x3 false) .ret) .skip))) (.seq (.seq (.region f162x4 false) (.seq (.region f162x5 false) (.cond (.t 15) (.seq (.region f162x6 false) .ret) .skip))) (.seq (.seq (.region f162x7 false) (.cond (.t 21) (.seq (.region f162x8 false) .ret) .skip)) (.seq (.seq (.region f162x9 false) (.cond (.t 25) (.seq (.region f162x10 false) .ret) .skip)) (.seq (.seq (.region f162x11 false) (.cond (.t 33) (.seq (.region f162x12 false) .ret) .skip)) (.seq (.region f162x13 false) .ret)))))))⟩
def f66x0 : List AOper := [
  Op 1 (.box (.t 0)),
  Mc 2 (.int .i64 0)]
def f66x1 : List AOper := [
  Fa 9 0 1,
  Ld 10 9,
  Bc 11 .lss 10 0,
  Mv 12 11,
  Gf 12 (Fa 13 0 1),
  Gf 12 (Ld 14 13),
  Gf 12 (Bc 15 .gtr 14 2),
  Po 16 12 15]
def f66x2 : List AOper := [
  Mc 2 (.int .i64 5)]
def f66x3 : List AOper := [
  Fa 17 1 1,
  Ld 18 17,
  Ct 19 80 [18],
  Mv 3 19]
def f66x4 : List AOper := [
  Mv 20 3,
  Bc 21 .neq 20 0]
def f66x5 : List AOper := [
  Mv 22 3,
  Mv 2 22]
def f66x6 : List AOper := [
  Fa 24 2 1,
  Ld 25 24,
  Op 26 (.bin .eql (.t 25) (.c (.int .u32 0))),
  Mv 23 26]
def f66x7 : List AOper := [
  Mc 2 (.int .i64 1)]
def f66x8 : List AOper := [
  Fa 28 3 1,
  Ld 29 28,
  Mv 30 29,
  Gt 30 (Fa 31 4 1),
  Gt 30 (Ld 32 31),
  Gt 30 (Ct 33 81 [32]),
  Gt 30 (Un 34 .not 33),
  Pa 35 30 34,
  Mv 27 35]
def f66x9 : List AOper := [
  Mc 2 (.int .i64 5)]
def f66x10 : List AOper := [
  Fa 37 3 1,
  Ld 38 37,
  Un 39 .not 38,
  Mv 40 39,
  Gt 40 (Fa 41 4 1),
  Gt 40 (Ld 42 41),
  Gt 40 (Bc 43 .neq 42 0),
  Pa 44 40 43,
  Mv 36 44]
def f66x11 : List AOper := [
  Mc 2 (.int .i64 1)]
def f66x12 : List AOper := [
  Fa 46 5 1,
  Ld 47 46,
  Mv 48 47,
  Gt 48 (Fa 49 6 1),
  Gt 48 (Ld 50 49),
  Gt 48 (Ct 51 81 [50]),
  Gt 48 (Un 52 .not 51),
  Pa 53 48 52,
  Mv 45 53]
def f66x13 : List AOper := [
  Mc 2 (.int .i64 5)]
def f66x14 : List AOper := [
  Fa 55 5 1,
  Ld 56 55,
  Un 57 .not 56,
  Mv 58 57,
  Gt 58 (Fa 59 6 1),
  Gt 58 (Ld 60 59),
  Gt 58 (Bc 61 .neq 60 0),
  Pa 62 58 61,
  Mv 54 62]
def f66x15 : List AOper := [
  Mc 2 (.int .i64 1)]
def f66x16 : List AOper := [
  Fa 64 8 1,
  Ld 65 64,
  Mv 66 65,
  Gt 66 (Fa 67 9 1),
  Gt 66 (Ld 68 67),
  Gt 66 (Bc 69 .lss 68 1),
  Gt 66 (Mv 70 69),
  Gf 70 (Fa 71 9 1),
  Gf 70 (Ld 72 71),
  Gf 70 (Bc 73 .gtr 72 4294967295),
  Gt 66 (Po 74 70 73),
  Pa 75 66 74,
  Mv 63 75]
def f66x17 : List AOper := [
  Mc 2 (.int .i64 5)]
def f66x18 : List AOper := [
  Fa 77 8 1,
  Ld 78 77,
  Un 79 .not 78,
  Mv 80 79,
  Gt 80 (Fa 81 9 1),
  Gt 80 (Ld 82 81),
  Gt 80 (Bc 83 .neq 82 0),
  Gt 80 (Mv 84 83),
  Gf 84 (Fa 85 10 1),
  Gf 84 (Ld 86 85),
  Gf 84 (Op 87 (.bin .neq (.t 86) (.c (.int .u32 0)))),
  Gt 80 (Po 88 84 87),
  Pa 89 80 88,
  Mv 76 89]
def f66x19 : List AOper := [
  Mc 2 (.int .i64 1)]
def f66x20 : List AOper := [
  Fa 90 11 1,
  Ld 91 90,
  Ct 92 82 [91],
  Mv 4 92]
def f66x21 : List AOper := [
  Mv 93 4,
  Bc 94 .neq 93 0]
def f66x22 : List AOper := [
  Mv 95 4,
  Mv 2 95]
def f66x23 : List AOper := [
  Fa 96 12 1,
  Ld 97 96,
  Fa 98 13 1,
  Ld 99 98,
  Op 100 (.bin .neq (.t 99) (.c (.int .u32 0))),
  Op 101 (.eqb true (.t 97) (.t 100))]
def f66x24 : List AOper := [
  Mc 2 (.int .i64 1)]
def f66x25 : List AOper := [
  Fa 102 14 1,
  Ld 103 102,
  Ln 104 0 103,
  Bc 105 .gtr 104 64]
def f66x26 : List AOper := [
  Mc 2 (.int .i64 4)]
def f66x27 : List AOper := [
  Fa 106 14 1,
  Ld 107 106,
  Ln 108 0 107,
  Mc 109 (.int .i64 0)]
def f66x28 : List AOper := [
  Bi 110 .lss 109 108]
def f66x29 : List AOper := [
  Ia 111 1 107 109,
  Ld 112 111,
  Mv 6 112]
def f66x30 : List AOper := [
  Mv 113 6,
  Op 114 (.bin .eql (.t 113) (.c (.int .u32 0)))]
def f66x31 : List AOper := [
  Mc 2 (.int .i64 1)]
def f66x32 : List AOper := [
  Bc 115 .add 109 1,
  Mv 109 115]
def f66x33L : ACode := (.seq (.region f66x28 false) (.seq (.cond (.t 110) .skip (.exit 1)) (.seq (.block 2 (.seq (.region f66x29 false) (.seq (.region f66x30 false) (.cond (.t 114) (.seq (.region f66x31 false) .ret) .skip)))) (.region f66x32 false))))
def f66x34 : List AOper := [
  Fa 116 15 1,
  Ld 117 116,
  Ln 118 0 117,
  Bc 119 .gtr 118 64]
def f66x35 : List AOper := [
  Mc 2 (.int .i64 4)]
def f66x36 : List AOper := [
  Fa 120 15 1,
  Ld 121 120,
  Ln 122 0 121,
  Mc 123 (.int .i64 0)]
def f66x37 : List AOper := [
  Bi 124 .lss 123 122]
def f66x38 : List AOper := [
  Mv 125 123,
  Ia 126 2 121 123,
  Ls 127 2 126,
  Op 8 (.alloc (.agg [.int .i64 0, .con (.slice none 0 0)])),
  Mv 7 125,
  St 2 8 127]
def f66x39 : List AOper := [
  Fa 129 0 8,
  Ld 130 129,
  Bc 131 .lss 130 11,
  Mv 132 131,
  Gf 132 (Fa 133 0 8),
  Gf 132 (Ld 134 133),
  Gf 132 (Bc 135 .gtr 134 255),
  Po 136 132 135,
  Mv 128 136]
def f66x40 : List AOper := [
  Mc 2 (.int .i64 15)]
def f66x41 : List AOper := [
  Mv 138 7,
  Bc 139 .gtr 138 0,
  Mv 140 139,
  Gt 140 (Fa 141 0 8),
  Gt 140 (Ld 142 141),
  Gt 140 (Fa 143 15 1),
  Gt 140 (Ld 144 143),
  Gt 140 (Mv 145 7),
  Gt 140 (Bc 146 .sub 145 1),
  Af [6] (Gt 140 (Ia 147 2 144 146)),
  Gt 140 (Fa 148 0 147),
  Af [9, 6] (Gt 140 (Ld 149 148)),
  Gt 140 (Bi 150 .leq 142 149),
  Pa 151 140 150,
  Mv 137 151]
def f66x42 : List AOper := [
  Mc 2 (.int .i64 16)]
def f66x43 : List AOper := [
  Fa 153 1 8,
  Ld 154 153,
  Ln 155 0 154,
  Bc 156 .gtr 155 255,
  Mv 152 156]
def f66x44 : List AOper := [
  Mc 2 (.int .i64 4)]
def f66x45 : List AOper := [
  Bc 157 .add 123 1,
  Mv 123 157]
def f66x46L : ACode := (.seq (.region f66x37 false) (.seq (.cond (.t 124) .skip (.exit 3)) (.seq (.block 4 (.seq (.region f66x38 false) (.block 5 (.seq (.region f66x39 false) (.cond (.t 128) (.seq (.region f66x40 false) .ret) (.seq (.region f66x41 true) (.cond (.t 137) (.seq (.region f66x42 false) .ret) (.seq (.region f66x43 false) (.cond (.t 152) (.seq (.region f66x44 false) .ret) .skip))))))))) (.region f66x45 false))))
def f66x47 : List AOper := [
  Mc 2 (.int .i64 0)]
def f66 : AFunc := ⟨158, 1, false, [.t 2], (.seq (.region f66x0 false) (.seq (.seq (.region f66x1 false) (.cond (.t 16) (.seq (.region f66x2 false) .ret) .skip)) (.seq (.seq (.region f66x3 false) (.seq (.region f66x4 false) (.cond (.t 21) (.seq (.region f66x5 false) .ret) .skip))) (.seq (.block 0 (.seq (.region f66x6 false) (.cond (.t 23) (.seq (.region f66x7 false) .ret) (.seq (.region f66x8 false) (.cond (.t 27) (.seq (.region f66x9 false) .ret) (.seq (.region f66x10 false) (.cond (.t 36) (.seq (.region f66x11 false) .ret) (.seq (.region f66x12 false) (.cond (.t 45) (.seq (.region f66x13 false) .ret) (.seq (.region f66x14 false) (.cond (.t 54) (.seq (.region f66x15 false) .ret) (.seq (.region f66x16 false) (.cond (.t 63) (.seq (.region f66x17 false) .ret) (.seq (.region f66x18 false) (.cond (.t 76) (.seq (.region f66x19 false) .ret) .skip))))))))))))))) (.seq (.seq (.region f66x20 false) (.seq (.region f66x21 false) (.cond (.t 94) (.seq (.region f66x22 false) .ret) .skip))) (.seq (.seq (.region f66x23 false) (.cond (.t 101) (.seq (.region f66x24 false) .ret) .skip)) (.seq (.seq (.region f66x25 false) (.cond (.t 105) (.seq (.region f66x26 false) .ret) .skip)) (.seq (.seq (.region f66x27 false) (.block 1 (.loop f66x33L))) (.seq (.seq (.region f66x34 false) (.cond (.t 119) (.seq (.region f66x35 false) .ret) .skip)) (.seq (.seq (.region f66x36 false) (.block 3 (.loop f66x46L))) (.seq (.region f66x47 false) .ret)))))))))))⟩
def f66x33LH : List AItem := [.inLoop f66x33L, .inBlock 1, .code (.seq (.seq (.region f66x34 false) (.cond (.t 119) (.seq (.region f66x35 false) .ret) .skip)) (.seq (.seq (.region f66x36 false) (.block 3 (.loop f66x46L))) (.seq (.region f66x47 false) .ret)))]
def f66x46LH : List AItem := [.inLoop f66x46L, .inBlock 3, .code (.seq (.region f66x47 false) .ret)]
def f57x0 : List AOper := [
  Mc 2 (.con (.slice none 0 0))]
def f57x1 : List AOper := [
  Mc 3 (.con (.slice none 0 0))]
def f57x2 : List AOper := [
  Mv 6 0,
  Ln 7 0 6,
  Mc 8 (.int .i64 0)]
def f57x3 : List AOper := [
  Bi 9 .lss 8 7]
def f57x4 : List AOper := [
  Ia 10 2 6 8,
  Ls 11 2 10,
  Op 5 (.alloc (.agg [.int .i64 0, .con (.slice none 0 0)])),
  St 2 5 11]
def f57x5 : List AOper := [
  Mv 12 3,
  Fa 13 1 5,
  Ld 14 13,
  Ap 15 1 8 12 14,
  Mv 3 15]
def f57x6 : List AOper := [
  Bc 16 .add 8 1,
  Mv 8 16]
def f57x7L : ACode := (.seq (.region f57x3 false) (.seq (.cond (.t 9) .skip (.exit 0)) (.seq (.block 1 (.seq (.region f57x4 false) (.region f57x5 false))) (.region f57x6 false))))
def f57x8 : List AOper := [
  Mv 17 3,
  Mv 2 17]
def f57 : AFunc := ⟨18, 1, false, [.t 2], (.seq (.region f57x0 false) (.seq (.region f57x1 false) (.seq (.seq (.region f57x2 false) (.block 0 (.loop f57x7L))) (.seq (.region f57x8 false) .ret))))⟩
def f57x7LH : List AItem := [.inLoop f57x7L, .inBlock 0, .code (.seq (.region f57x8 false) .ret)]
def f88x0 : List AOper := [
  Mc 6 (.con (.slice none 0 0))]
def f88x1 : List AOper := [
  Mv 9 1,
  Ct 10 102 [9],
  Mv 7 10]
def f88x2 : List AOper := [
  Mc 8 (.int .i64 1)]
def f88x3 : List AOper := [
  Mv 11 2,
  Ln 12 0 11,
  Bc 13 .gtr 12 255]
def f88x4 : List AOper := [
  Mv 14 7,
  Bc 15 .add 14 16,
  Mv 7 15]
def f88x5 : List AOper := [
  Mc 8 (.int .i64 2)]
def f88x6 : List AOper := [
  Mv 16 0,
  Mv 17 7,
  Cv 18 .u8 17,
  Mv 19 1,
  Cv 20 .u8 19,
  Op 21 (.bsl 1 [.int .u8 0] 2 [0, 1] [(.t 18), (.t 20)]),
  Ap 22 1 1 16 21,
  Mv 0 22]
def f88x7 : List AOper := [
  Mv 23 0,
  Mv 24 8,
  Mv 25 2,
  Ln 26 0 25,
  Cv 27 .u64 26,
  Ct 28 91 [23, 24, 27],
  Mv 0 28]
def f88x8 : List AOper := [
  Mv 29 0,
  Mv 30 2,
  Ap 31 1 1 29 30,
  Mv 0 31]
def f88x9 : List AOper := [
  Mv 32 0,
  Mv 6 32]
def f88 : AFunc := ⟨33, 3, true, [.t 6], (.seq (.region f88x0 false) (.seq (.region f88x1 false) (.seq (.region f88x2 false) (.seq (.seq (.region f88x3 false) (.cond (.t 13) (.seq (.region f88x4 false) (.region f88x5 false)) .skip)) (.seq (.region f88x6 false) (.seq (.region f88x7 false) (.seq (.region f88x8 false) (.seq (.region f88x9 false) .ret))))))))⟩
def f89x0 : List AOper := [
  Mc 4 (.con (.slice none 0 0))]
def f89x1 : List AOper := [
  Mc 5 (.con (.slice none 0 0))]
def f89x2 : List AOper := [
  Mv 10 0,
  Ln 11 0 10,
  Mc 12 (.int .i64 0)]
def f89x3 : List AOper := [
  Bi 13 .lss 12 11]
def f89x4 : List AOper := [
  Ia 14 2 10 12,
  Ls 15 2 14,
  Op 7 (.alloc (.agg [.int .i64 0, .con (.slice none 0 0)])),
  St 2 7 15]
def f89x5 : List AOper := [
  Mv 16 5,
  Fa 17 0 7,
  Ld 18 17,
  Cv 19 .u8 18,
  Fa 20 1 7,
  Ld 21 20,
  Ln 22 0 21,
  Cv 23 .u8 22,
  Op 24 (.bsl 1 [.int .u8 0] 2 [0, 1] [(.t 19), (.t 23)]),
  Ap 25 1 1 16 24,
  Mv 5 25]
def f89x6 : List AOper := [
  Fa 26 1 7,
  Ld 27 26,
  Ln 28 0 27,
  Mc 29 (.int .i64 0)]
def f89x7 : List AOper := [
  Bi 30 .lss 29 28]
def f89x8 : List AOper := [
  Ia 31 1 27 29,
  Ld 32 31,
  Mv 9 32]
def f89x9 : List AOper := [
  Mv 33 5,
  Mv 34 1,
  Ct 35 92 [34],
  Mv 36 9,
  Cv 37 .u64 36,
  Ct 38 91 [33, 35, 37],
  Mv 5 38]
def f89x10 : List AOper := [
  Bc 39 .add 29 1,
  Mv 29 39]
def f89x11L : ACode := (.seq (.region f89x7 false) (.seq (.cond (.t 30) .skip (.exit 2)) (.seq (.block 3 (.seq (.region f89x8 false) (.region f89x9 false))) (.region f89x10 false))))
def f89x12 : List AOper := [
  Bc 40 .add 12 1,
  Mv 12 40]
def f89x13L : ACode := (.seq (.region f89x3 false) (.seq (.cond (.t 13) .skip (.exit 0)) (.seq (.block 1 (.seq (.region f89x4 false) (.seq (.region f89x5 false) (.seq (.region f89x6 false) (.block 2 (.loop f89x11L)))))) (.region f89x12 false))))
def f89x14 : List AOper := [
  Mv 41 5,
  Mv 4 41]
def f89 : AFunc := ⟨42, 2, false, [.t 4], (.seq (.region f89x0 false) (.seq (.region f89x1 false) (.seq (.seq (.region f89x2 false) (.block 0 (.loop f89x13L))) (.seq (.region f89x14 false) .ret))))⟩
def f89x13LH : List AItem := [.inLoop f89x13L, .inBlock 0, .code (.seq (.region f89x14 false) .ret)]
def f89x11LH : List AItem := [.inLoop f89x11L, .inBlock 2, .inBlock 1, .code (.region f89x12 false), .inLoop f89x13L, .inBlock 0, .code (.seq (.region f89x14 false) .ret)]
def f90x0 : List AOper := [
  Mc 2 (.con (.slice none 0 0))]
def f90x1 : List AOper := [
  Mc 3 (.con (.slice none 0 0))]
def f90x2 : List AOper := [
  Mv 6 0,
  Ln 7 0 6,
  Mc 8 (.int .i64 0)]
def f90x3 : List AOper := [
  Bi 9 .lss 8 7]
def f90x4 : List AOper := [
  Ia 10 1 6 8,
  Ld 11 10,
  Mv 5 11]
def f90x5 : List AOper := [
  Mv 12 3,
  Mv 13 5,
  Cv 14 .u64 13,
  Ca 15 91 [(.t 12), (.c (.int .i64 4)), (.t 14)],
  Mv 3 15]
def f90x6 : List AOper := [
  Bc 16 .add 8 1,
  Mv 8 16]
def f90x7L : ACode := (.seq (.region f90x3 false) (.seq (.cond (.t 9) .skip (.exit 0)) (.seq (.block 1 (.seq (.region f90x4 false) (.region f90x5 false))) (.region f90x6 false))))
def f90x8 : List AOper := [
  Mv 17 3,
  Mv 2 17]
def f90 : AFunc := ⟨18, 1, false, [.t 2], (.seq (.region f90x0 false) (.seq (.region f90x1 false) (.seq (.seq (.region f90x2 false) (.block 0 (.loop f90x7L))) (.seq (.region f90x8 false) .ret))))⟩
def f90x7LH : List AItem := [.inLoop f90x7L, .inBlock 0, .code (.seq (.region f90x8 false) .ret)]
def f92x0 : List AOper := [
  Mc 2 (.int .i64 0)]
def f92x1 : List AOper := [
  Mv 3 0]
def f92x2 : List AOper := [
  Mc 2 (.int .i64 4)]
def f92x3 : List AOper := [
  Mc 2 (.int .i64 2)]
def f92 : AFunc := ⟨4, 1, false, [.t 2], (.seq (.region f92x0 false) (.seq (.seq (.region f92x1 false) (.cond (.t 3) (.seq (.region f92x2 false) .ret) .skip)) (.seq (.region f92x3 false) .ret)))⟩
def f206x0 : List AOper := [
  Mc 4 (.int .i64 0)]
def f206x1 : List AOper := [
  Mv 8 0,
  Nc 9 8,
  Fa 10 0 9,
  Ld 11 10,
  Mv 12 1,
  Ca 13 110 [(.t 11), (.c (.int .i64 0)), (.t 12)],
  Mv 7 13,
  Ex 14 7 0,
  Ex 15 7 1,
  Mv 5 14,
  Mv 6 15]
def f206x2 : List AOper := [
  Mv 16 0,
  Mv 17 0,
  Nc 18 17,
  Fa 19 0 18,
  Ld 20 19,
  Mv 21 1,
  Op 22 (.slc 1 (.t 20) (some (.t 21)) none none),
  Nc 23 16,
  Fa 24 0 23,
  St 1 24 22]
def f206x3 : List AOper := [
  Mv 25 5,
  Cv 26 .i64 25,
  Mv 4 26]
def f206 : AFunc := ⟨27, 2, false, [.t 4], (.seq (.region f206x0 false) (.seq (.region f206x1 false) (.seq (.region f206x2 false) (.seq (.region f206x3 false) .ret))))⟩
def f207x0 : List AOper := [
  Mc 4 (.bool false)]
def f207x1 : List AOper := [
  Mv 5 0,
  Nc 6 5,
  Fa 7 0 6,
  Ld 8 7,
  Ln 9 0 8,
  Mv 10 1,
  Bi 11 .geq 9 10,
  Mv 4 11]
def f207 : AFunc := ⟨12, 2, false, [.t 4], (.seq (.region f207x0 false) (.seq (.region f207x1 false) .ret))⟩
def f208x0 : List AOper := [
  Mc 2 (.bool false)]
def f208x1 : List AOper := [
  Mv 5 0,
  Nc 6 5,
  Fa 7 0 6,
  Fa 8 0 7,
  Ld 9 8,
  Ln 10 0 9,
  Bc 11 .gtr 10 0]
def f208x2 : List AOper := [
  Mv 12 0,
  Nc 13 12,
  Fa 14 0 13,
  Ca 15 207 [(.t 14), (.c (.int .i64 2))],
  Un 16 .not 15]
def f208x3 : List AOper := [
  Mc 2 (.bool false)]
def f208x4 : List AOper := [
  Mv 17 0,
  Nc 18 17,
  Fa 19 0 18,
  Ca 20 206 [(.t 19), (.c (.int .i64 1))],
  Mv 3 20]
def f208x5 : List AOper := [
  Mv 21 0,
  Nc 22 21,
  Fa 23 0 22,
  Ca 24 206 [(.t 23), (.c (.int .i64 1))],
  Mv 4 24]
def f208x6 : List AOper := [
  Mv 25 0,
  Nc 26 25,
  Fa 27 0 26,
  Mv 28 4,
  Ct 29 207 [27, 28],
  Un 30 .not 29]
def f208x7 : List AOper := [
  Mc 2 (.bool false)]
def f208x8 : List AOper := [
  Mv 31 0,
  Mv 32 0,
  Nc 33 32,
  Fa 34 1 33,
  Ld 35 34,
  Mv 36 3,
  Mv 37 0,
  Nc 38 37,
  Fa 39 0 38,
  Mv 40 4,
  Ct 41 209 [39, 40],
  Op 42 (.build [.int .i64 0, .con (.slice none 0 0)] [(0, 1), (1, 1)] [(.t 36), (.t 41)]),
  Af [10] (Op 43 (.bsl 2 [.int .i64 0, .con (.slice none 0 0)] 1 [0] [(.t 42)])),
  Af [4, 12, 10] (Ap 44 2 32 35 43),
  Nc 45 31,
  Fa 46 1 45,
  Af [13, 4, 12, 10] (St 1 46 44)]
def f208x9L : ACode := (.seq (.seq (.region f208x1 false) (.cond (.t 11) .skip (.exit 0))) (.block 1 (.seq (.seq (.region f208x2 false) (.cond (.t 16) (.seq (.region f208x3 false) .ret) .skip)) (.seq (.region f208x4 false) (.seq (.region f208x5 false) (.seq (.seq (.region f208x6 false) (.cond (.t 30) (.seq (.region f208x7 false) .ret) .skip)) (.region f208x8 true)))))))
def f208x10 : List AOper := [
  Mv 47 0,
  Nc 48 47,
  Fa 49 1 48,
  Ld 50 49,
  Ln 51 0 50,
  Bc 52 .gtr 51 0,
  Mv 2 52]
def f208 : AFunc := ⟨53, 1, false, [.t 2], (.seq (.region f208x0 false) (.seq (.block 0 (.loop f208x9L)) (.seq (.region f208x10 false) .ret)))⟩
def f209x0 : List AOper := [
  Mc 4 (.con (.slice none 0 0))]
def f209x1 : List AOper := [
  Op 6 (.bsl 1 [.int .u8 0] 0 [] []),
  Mv 7 0,
  Nc 8 7,
  Fa 9 0 8,
  Ld 10 9,
  Mv 11 1,
  Op 12 (.slc 1 (.t 10) none (some (.t 11)) none),
  Ap 13 1 1 6 12,
  Mv 5 13]
def f209x2 : List AOper := [
  Mv 14 0,
  Mv 15 0,
  Nc 16 15,
  Fa 17 0 16,
  Ld 18 17,
  Mv 19 1,
  Op 20 (.slc 1 (.t 18) (some (.t 19)) none none),
  Nc 21 14,
  Fa 22 0 21,
  St 1 22 20]
def f209x3 : List AOper := [
  Mv 23 5,
  Mv 4 23]
def f209 : AFunc := ⟨24, 2, false, [.t 4], (.seq (.region f209x0 false) (.seq (.region f209x1 false) (.seq (.region f209x2 false) (.seq (.region f209x3 false) .ret))))⟩
def f210x0 : List AOper := [
  Mc 2 (.bool false)]
def f210x1 : List AOper := [
  Mv 6 0,
  Nc 7 6,
  Fa 8 0 7,
  Fa 9 0 8,
  Ld 10 9,
  Ln 11 0 10,
  Bc 12 .gtr 11 0]
def f210x2 : List AOper := [
  Mv 13 0,
  Nc 14 13,
  Fa 15 0 14,
  Ca 16 206 [(.t 15), (.c (.int .i64 1))],
  Mv 3 16]
def f210x3 : List AOper := [
  Mv 17 3,
  Bc 18 .add 17 7,
  Bc 19 .quo 18 8,
  Mv 4 19]
def f210x4 : List AOper := [
  Mv 20 3,
  Bc 21 .gtr 20 32,
  Mv 22 21,
  Gf 22 (Mv 23 0),
  Gf 22 (Nc 24 23),
  Gf 22 (Fa 25 0 24),
  Gf 22 (Mv 26 4),
  Gf 22 (Ct 27 207 [25, 26]),
  Gf 22 (Un 28 .not 27),
  Po 29 22 28]
def f210x5 : List AOper := [
  Mc 2 (.bool false)]
def f210x6 : List AOper := [
  Mv 30 0,
  Nc 31 30,
  Fa 32 0 31,
  Mv 33 4,
  Ct 34 206 [32, 33],
  Mv 35 4,
  Op 36 (.bin .mul (.c (.int .i64 8)) (.t 35)),
  Op 37 (.bin .sub (.c (.int .i64 32)) (.t 36)),
  Cv 38 .u64 37,
  Bi 39 .shl 34 38,
  Cv 40 .u32 39,
  Mv 41 3,
  Op 42 (.build [.int .u32 0, .int .i64 0] [(0, 1), (1, 1)] [(.t 40), (.t 41)]),
  Op 5 (.alloc (.agg [.int .u32 0, .int .i64 0])),
  St 2 5 42]
def f210x7 : List AOper := [
  Ls 43 2 5,
  Ct 44 178 [43],
  Un 45 .not 44]
def f210x8 : List AOper := [
  Mc 2 (.bool false)]
def f210x9 : List AOper := [
  Mv 46 0,
  Mv 47 0,
  Nc 48 47,
  Fa 49 1 48,
  Ld 50 49,
  Ls 51 2 5,
  Af [5] (Op 52 (.bsl 2 [.int .u32 0, .int .i64 0] 1 [0] [(.t 51)])),
  Af [4, 6, 5] (Ap 53 2 16 50 52),
  Nc 54 46,
  Fa 55 1 54,
  Af [7, 4, 6, 5] (St 1 55 53)]
def f210x10L : ACode := (.seq (.seq (.region f210x1 false) (.cond (.t 12) .skip (.exit 0))) (.block 1 (.seq (.region f210x2 false) (.seq (.region f210x3 false) (.seq (.seq (.region f210x4 false) (.cond (.t 29) (.seq (.region f210x5 false) .ret) .skip)) (.seq (.region f210x6 false) (.seq (.seq (.region f210x7 false) (.cond (.t 45) (.seq (.region f210x8 false) .ret) .skip)) (.region f210x9 true))))))))
def f210x11 : List AOper := [
  Mc 2 (.bool true)]
def f210 : AFunc := ⟨56, 1, false, [.t 2], (.seq (.region f210x0 false) (.seq (.block 0 (.loop f210x10L)) (.seq (.region f210x11 false) .ret)))⟩
def f69x0 : List AOper := [
  Op 4 (.alloc (.agg [.int .i64 0, .con (.slice none 0 0), .int .u32 0, .bool false, .int .i64 0, .bool false, .int .i64 0, .bool false, .bool false, .int .i64 0, .int .u32 0, .con (.slice none 0 0), .bool false, .int .u32 0, .con (.slice none 0 0), .con (.slice none 0 0)])),
  Mc 5 (.int .i64 0)]
def f69x1 : List AOper := [
  Op 13 (.build [.int .i64 0, .con (.slice none 0 0), .int .u32 0, .bool false, .int .i64 0, .bool false, .int .i64 0, .bool false, .bool false, .int .i64 0, .int .u32 0, .con (.slice none 0 0), .bool false, .int .u32 0, .con (.slice none 0 0), .con (.slice none 0 0)] [] []),
  Op 6 (.alloc (.agg [.int .i64 0, .con (.slice none 0 0), .int .u32 0, .bool false, .int .i64 0, .bool false, .int .i64 0, .bool false, .bool false, .int .i64 0, .int .u32 0, .con (.slice none 0 0), .bool false, .int .u32 0, .con (.slice none 0 0), .con (.slice none 0 0)])),
  St 16 6 13]
def f69x2 : List AOper := [
  Mc 7 (.int .i64 (-1)),
  Mc 8 (.int .i64 0)]
def f69x3 : List AOper := [
  Mv 14 0,
  Ln 15 0 14,
  Bc 16 .gtr 15 0]
def f69x4 : List AOper := [
  Mc 9 (.int .i64 3)]
def f69x5 : List AOper := [
  Mv 17 0,
  Op 18 (.iadr 1 (.t 17) (.c (.int .i64 0))),
  Ld 19 18,
  Op 20 (.bin .and (.t 19) (.c (.int .u8 16))),
  Op 21 (.bin .neq (.t 20) (.c (.int .u8 0)))]
def f69x6 : List AOper := [
  Mc 9 (.int .i64 4)]
def f69x7 : List AOper := [
  Mv 22 0,
  Ln 23 0 22,
  Mv 24 9,
  Bi 25 .lss 23 24]
def f69x8 : List AOper := [
  Op 26 (.build [.int .i64 0, .con (.slice none 0 0), .int .u32 0, .bool false, .int .i64 0, .bool false, .int .i64 0, .bool false, .bool false, .int .i64 0, .int .u32 0, .con (.slice none 0 0), .bool false, .int .u32 0, .con (.slice none 0 0), .con (.slice none 0 0)] [] []),
  St 16 4 26,
  Mc 5 (.int .i64 3)]
def f69x9 : List AOper := [
  Mv 27 0,
  Mv 28 9,
  Bc 29 .sub 28 2,
  Ca 30 93 [(.t 27), (.c (.int .i64 2)), (.t 29)],
  Mv 10 30]
def f69x10 : List AOper := [
  Mv 31 0,
  Ln 32 0 31,
  Mv 33 9,
  Mv 34 10,
  Bi 35 .add 33 34,
  Bi 36 .lss 32 35]
def f69x11 : List AOper := [
  Op 37 (.build [.int .i64 0, .con (.slice none 0 0), .int .u32 0, .bool false, .int .i64 0, .bool false, .int .i64 0, .bool false, .bool false, .int .i64 0, .int .u32 0, .con (.slice none 0 0), .bool false, .int .u32 0, .con (.slice none 0 0), .con (.slice none 0 0)] [] []),
  St 16 4 37,
  Mc 5 (.int .i64 3)]
def f69x12 : List AOper := [
  Mv 38 0,
  Op 39 (.iadr 1 (.t 38) (.c (.int .i64 1))),
  Ld 40 39,
  Cv 41 .i64 40,
  Mv 11 41]
def f69x13 : List AOper := [
  Mv 42 11,
  Mv 43 7,
  Bi 44 .leq 42 43]
def f69x14 : List AOper := [
  Op 45 (.build [.int .i64 0, .con (.slice none 0 0), .int .u32 0, .bool false, .int .i64 0, .bool false, .int .i64 0, .bool false, .bool false, .int .i64 0, .int .u32 0, .con (.slice none 0 0), .bool false, .int .u32 0, .con (.slice none 0 0), .con (.slice none 0 0)] [] []),
  St 16 4 45,
  Mc 5 (.int .i64 16)]
def f69x15 : List AOper := [
  Mv 46 0,
  Op 47 (.iadr 1 (.t 46) (.c (.int .i64 0))),
  Af [1] (Ld 48 47),
  Op 49 (.bin .andNot (.t 48) (.c (.int .u8 16))),
  Mv 50 11,
  Ct 51 94 [50],
  Bi 52 .neq 49 51,
  Mv 53 52,
  Gf 53 (Mv 54 9),
  Gf 53 (Bc 55 .eql 54 4),
  Gf 53 (Mv 56 55),
  Gt 56 (Mv 57 10),
  Gt 56 (Bc 58 .leq 57 255),
  Gf 53 (Pa 59 56 58),
  Po 60 53 59,
  Mv 61 60,
  Gf 61 (Mv 62 11),
  Gf 61 (Mv 63 0),
  Gf 61 (Mv 64 9),
  Gf 61 (Mv 65 9),
  Gf 61 (Mv 66 10),
  Gf 61 (Bi 67 .add 65 66),
  Af [5, 2, 1] (Gf 61 (Op 68 (.slc 1 (.t 63) (some (.t 64)) (some (.t 67)) none))),
  Gf 61 (Mv 69 1),
  Af [5, 2, 1] (Gf 61 (Ct 70 96 [69])),
  Af [22, 24, 5, 2, 1] (Gf 61 (Ct 71 95 [6, 62, 68, 70])),
  Gf 61 (Un 72 .not 71),
  Po 73 61 72]
def f69x16 : List AOper := [
  Op 74 (.build [.int .i64 0, .con (.slice none 0 0), .int .u32 0, .bool false, .int .i64 0, .bool false, .int .i64 0, .bool false, .bool false, .int .i64 0, .int .u32 0, .con (.slice none 0 0), .bool false, .int .u32 0, .con (.slice none 0 0), .con (.slice none 0 0)] [] []),
  St 16 4 74,
  Mc 5 (.int .i64 2)]
def f69x17 : List AOper := [
  Mv 75 11,
  Bc 76 .geq 75 1,
  Mv 77 76,
  Gt 77 (Mv 78 11),
  Gt 77 (Bc 79 .leq 78 3),
  Pa 80 77 79]
def f69x18 : List AOper := [
  Mv 81 8,
  Bc 82 .add 81 1,
  Mv 8 82]
def f69x19 : List AOper := [
  Mv 83 11,
  Mv 7 83]
def f69x20 : List AOper := [
  Mv 84 0,
  Mv 85 9,
  Mv 86 10,
  Bi 87 .add 85 86,
  Op 88 (.slc 1 (.t 84) (some (.t 87)) none none),
  Mv 0 88]
def f69x21L : ACode := (.seq (.seq (.region f69x3 false) (.cond (.t 16) .skip (.exit 0))) (.block 1 (.seq (.region f69x4 false) (.seq (.seq (.region f69x5 false) (.cond (.t 21) (.region f69x6 false) .skip)) (.seq (.seq (.region f69x7 false) (.cond (.t 25) (.seq (.region f69x8 false) .ret) .skip)) (.seq (.region f69x9 false) (.seq (.seq (.region f69x10 false) (.cond (.t 36) (.seq (.region f69x11 false) .ret) .skip)) (.seq (.region f69x12 false) (.seq (.seq (.region f69x13 false) (.cond (.t 44) (.seq (.region f69x14 false) .ret) .skip)) (.seq (.seq (.region f69x15 true) (.cond (.t 73) (.seq (.region f69x16 false) .ret) .skip)) (.seq (.seq (.region f69x17 false) (.cond (.t 80) (.region f69x18 false) .skip)) (.seq (.region f69x19 false) (.region f69x20 false)))))))))))))
def f69x22 : List AOper := [
  Mv 89 8,
  Bc 90 .lss 89 3]
def f69x23 : List AOper := [
  Op 91 (.build [.int .i64 0, .con (.slice none 0 0), .int .u32 0, .bool false, .int .i64 0, .bool false, .int .i64 0, .bool false, .bool false, .int .i64 0, .int .u32 0, .con (.slice none 0 0), .bool false, .int .u32 0, .con (.slice none 0 0), .con (.slice none 0 0)] [] []),
  St 16 4 91,
  Mc 5 (.int .i64 6)]
def f69x24 : List AOper := [
  Ls 92 16 6,
  Ct 93 65 [92],
  Mv 12 93]
def f69x25 : List AOper := [
  Mv 94 12,
  Bc 95 .neq 94 0]
def f69x26 : List AOper := [
  Op 96 (.build [.int .i64 0, .con (.slice none 0 0), .int .u32 0, .bool false, .int .i64 0, .bool false, .int .i64 0, .bool false, .bool false, .int .i64 0, .int .u32 0, .con (.slice none 0 0), .bool false, .int .u32 0, .con (.slice none 0 0), .con (.slice none 0 0)] [] []),
  Mv 97 12,
  St 16 4 96,
  Mv 5 97]
def f69x27 : List AOper := [
  Ls 98 16 6,
  St 16 4 98,
  Mc 5 (.int .i64 0)]
def f69 : AFunc := ⟨99, 2, false, [.cell 4 (some 16), .t 5], (.seq (.region f69x0 false) (.seq (.region f69x1 false) (.seq (.region f69x2 false) (.seq (.block 0 (.loop f69x21L)) (.seq (.seq (.region f69x22 false) (.cond (.t 90) (.seq (.region f69x23 false) .ret) .skip)) (.seq (.seq (.region f69x24 false) (.seq (.region f69x25 false) (.cond (.t 95) (.seq (.region f69x26 false) .ret) .skip))) (.seq (.region f69x27 false) .ret)))))))⟩
def f113x0 : List AOper := [
  Mc 6 (.int .u64 0),
  Mc 7 (.bool false)]
def f113x1 : List AOper := [
  Mv 11 2,
  Bc 12 .lss 11 0,
  Mv 13 12,
  Gf 13 (Mv 14 2),
  Gf 13 (Bc 15 .gtr 14 8),
  Po 16 13 15,
  Mv 17 16,
  Gf 17 (Mv 18 1),
  Gf 17 (Bc 19 .lss 18 0),
  Po 20 17 19,
  Mv 21 20,
  Gf 21 (Mv 22 1),
  Gf 21 (Mv 23 0),
  Gf 21 (Ln 24 0 23),
  Gf 21 (Mv 25 2),
  Gf 21 (Bi 26 .sub 24 25),
  Gf 21 (Bi 27 .gtr 22 26),
  Po 28 21 27]
def f113x2 : List AOper := [
  Mc 6 (.int .u64 0),
  Mc 7 (.bool false)]
def f113x3 : List AOper := [
  Mc 8 (.int .u64 0)]
def f113x4 : List AOper := [
  Mv 29 0,
  Mv 30 1,
  Mv 31 1,
  Mv 32 2,
  Bi 33 .add 31 32,
  Op 34 (.slc 1 (.t 29) (some (.t 30)) (some (.t 33)) none),
  Ln 35 0 34,
  Mc 36 (.int .i64 0)]
def f113x5 : List AOper := [
  Bi 37 .lss 36 35]
def f113x6 : List AOper := [
  Ia 38 1 34 36,
  Ld 39 38,
  Mv 10 39]
def f113x7 : List AOper := [
  Mv 40 8,
  Op 41 (.bin .mul (.t 40) (.c (.int .u64 256))),
  Mv 42 10,
  Cv 43 .u64 42,
  Bi 44 .add 41 43,
  Mv 8 44]
def f113x8 : List AOper := [
  Bc 45 .add 36 1,
  Mv 36 45]
def f113x9L : ACode := (.seq (.region f113x5 false) (.seq (.cond (.t 37) .skip (.exit 0)) (.seq (.block 1 (.seq (.region f113x6 false) (.region f113x7 false))) (.region f113x8 false))))
def f113x10 : List AOper := [
  Mv 46 8,
  Mv 6 46,
  Mc 7 (.bool true)]
def f113 : AFunc := ⟨47, 3, false, [.t 6, .t 7], (.seq (.region f113x0 false) (.seq (.seq (.region f113x1 false) (.cond (.t 28) (.seq (.region f113x2 false) .ret) .skip)) (.seq (.region f113x3 false) (.seq (.seq (.region f113x4 false) (.block 0 (.loop f113x9L))) (.seq (.region f113x10 false) .ret)))))⟩
def f113x9LH : List AItem := [.inLoop f113x9L, .inBlock 0, .code (.seq (.region f113x10 false) .ret)]
def f366x0 : List AOper := [
  Mc 2 (.con (.slice none 0 0)),
  Mc 3 (.bool false)]
def f366x1 : List AOper := [
  Mv 7 0,
  Ln 8 0 7,
  Bc 9 .eql 8 1,
  Mv 10 9,
  Gt 10 (Mv 11 0),
  Gt 10 (Op 12 (.iadr 1 (.t 11) (.c (.int .i64 0)))),
  Gt 10 (Ld 13 12),
  Gt 10 (Op 14 (.bin .eql (.t 13) (.c (.int .u8 0)))),
  Pa 15 10 14]
def f366x2 : List AOper := [
  Mc 2 (.con (.slice none 0 0)),
  Mc 3 (.bool true)]
def f366x3 : List AOper := [
  Mv 16 0,
  Ln 17 0 16,
  Bc 18 .lss 17 5,
  Mv 19 18,
  Gf 19 (Mv 20 0),
  Gf 19 (Op 21 (.iadr 1 (.t 20) (.c (.int .i64 0)))),
  Gf 19 (Ld 22 21),
  Gf 19 (Cv 23 .i64 22),
  Gf 19 (Mv 24 0),
  Gf 19 (Ln 25 0 24),
  Gf 19 (Bc 26 .sub 25 1),
  Gf 19 (Bi 27 .neq 23 26),
  Po 28 19 27,
  Mv 29 28,
  Gf 29 (Mv 30 0),
  Gf 29 (Op 31 (.iadr 1 (.t 30) (.c (.int .i64 1)))),
  Gf 29 (Ld 32 31),
  Gf 29 (Op 33 (.bin .neq (.t 32) (.c (.int .u8 2)))),
  Po 34 29 33,
  Mv 35 34,
  Gf 35 (Mv 36 0),
  Gf 35 (Op 37 (.iadr 1 (.t 36) (.c (.int .i64 2)))),
  Gf 35 (Ld 38 37),
  Gf 35 (Cv 39 .i64 38),
  Gf 35 (Mv 40 0),
  Gf 35 (Ln 41 0 40),
  Gf 35 (Bc 42 .sub 41 3),
  Gf 35 (Bi 43 .neq 39 42),
  Po 44 35 43]
def f366x4 : List AOper := [
  Mc 2 (.con (.slice none 0 0)),
  Mc 3 (.bool false)]
def f366x5 : List AOper := [
  Mc 4 (.con (.slice none 0 0))]
def f366x6 : List AOper := [
  Mc 5 (.int .i64 3)]
def f366x7 : List AOper := [
  Mv 45 5,
  Mv 46 0,
  Ln 47 0 46,
  Bi 48 .lss 45 47]
def f366x8 : List AOper := [
  Mv 49 5,
  Bc 50 .add 49 2,
  Mv 51 0,
  Ln 52 0 51,
  Bi 53 .gtr 50 52,
  Mv 54 53,
  Gf 54 (Mv 55 5),
  Gf 54 (Bc 56 .add 55 2),
  Gf 54 (Mv 57 0),
  Gf 54 (Mv 58 5),
  Gf 54 (Bc 59 .add 58 1),
  Gf 54 (Ia 60 1 57 59),
  Gf 54 (Ld 61 60),
  Gf 54 (Cv 62 .i64 61),
  Gf 54 (Bi 63 .add 56 62),
  Gf 54 (Mv 64 0),
  Gf 54 (Ln 65 0 64),
  Gf 54 (Bi 66 .gtr 63 65),
  Po 67 54 66]
def f366x9 : List AOper := [
  Mc 2 (.con (.slice none 0 0)),
  Mc 3 (.bool false)]
def f366x10 : List AOper := [
  Mv 68 0,
  Mv 69 5,
  Bc 70 .add 69 1,
  Ia 71 1 68 70,
  Ld 72 71,
  Cv 73 .i64 72,
  Mv 6 73]
def f366x11 : List AOper := [
  Mv 74 4,
  Mv 75 0,
  Mv 76 5,
  Ia 77 1 75 76,
  Af [3] (Ld 78 77),
  Cv 79 .i64 78,
  Op 80 (.bsl 1 [.int .u8 0] 0 [] []),
  Mv 81 0,
  Mv 82 5,
  Bc 83 .add 82 2,
  Mv 84 5,
  Bc 85 .add 84 2,
  Mv 86 6,
  Bi 87 .add 85 86,
  Op 88 (.slc 1 (.t 81) (some (.t 83)) (some (.t 87)) none),
  Af [6, 14] (Ap 89 1 1 80 88),
  Op 90 (.build [.int .i64 0, .con (.slice none 0 0)] [(0, 1), (1, 1)] [(.t 79), (.t 89)]),
  Af [15, 4, 3, 6, 14] (Op 91 (.bsl 2 [.int .i64 0, .con (.slice none 0 0)] 1 [0] [(.t 90)])),
  Af [17, 15, 4, 3, 6, 14] (Ap 92 2 32 74 91),
  Mv 4 92]
def f366x12 : List AOper := [
  Mv 93 5,
  Mv 94 6,
  Op 95 (.bin .add (.c (.int .i64 2)) (.t 94)),
  Bi 96 .add 93 95,
  Mv 5 96]
def f366x13L : ACode := (.seq (.seq (.region f366x7 false) (.cond (.t 48) .skip (.exit 0))) (.block 1 (.seq (.seq (.region f366x8 false) (.cond (.t 67) (.seq (.region f366x9 false) .ret) .skip)) (.seq (.region f366x10 false) (.seq (.region f366x11 true) (.region f366x12 false))))))
def f366x14 : List AOper := [
  Mv 97 4,
  Mv 2 97,
  Mc 3 (.bool true)]
def f366 : AFunc := ⟨98, 1, false, [.t 2, .t 3], (.seq (.region f366x0 false) (.seq (.seq (.region f366x1 false) (.cond (.t 15) (.seq (.region f366x2 false) .ret) .skip)) (.seq (.seq (.region f366x3 false) (.cond (.t 44) (.seq (.region f366x4 false) .ret) .skip)) (.seq (.region f366x5 false) (.seq (.seq (.region f366x6 false) (.block 0 (.loop f366x13L))) (.seq (.region f366x14 false) .ret))))))⟩
def f367x0 : List AOper := [
  Mc 2 (.con (.slice none 0 0)),
  Mc 3 (.bool false)]
def f367x1 : List AOper := [
  Mc 4 (.con (.slice none 0 0))]
def f367x2 : List AOper := [
  Mc 5 (.int .i64 0)]
def f367x3 : List AOper := [
  Mv 9 5,
  Mv 10 0,
  Ln 11 0 10,
  Bi 12 .lss 9 11]
def f367x4 : List AOper := [
  Mv 13 0,
  Mv 14 5,
  Ia 15 1 13 14,
  Ld 16 15,
  Cv 17 .i64 16,
  Op 18 (.build [.int .u32 0, .int .i64 0] [(1, 1)] [(.t 17)]),
  Op 6 (.alloc (.agg [.int .u32 0, .int .i64 0])),
  St 2 6 18]
def f367x5 : List AOper := [
  Fa 19 1 6,
  Ld 20 19,
  Bc 21 .add 20 7,
  Bc 22 .quo 21 8,
  Mv 7 22]
def f367x6 : List AOper := [
  Mv 23 5,
  Bc 24 .add 23 1,
  Mv 5 24]
def f367x7 : List AOper := [
  Fa 25 1 6,
  Ld 26 25,
  Bc 27 .gtr 26 32,
  Mv 28 27,
  Gf 28 (Mv 29 5),
  Gf 28 (Mv 30 7),
  Gf 28 (Bi 31 .add 29 30),
  Gf 28 (Mv 32 0),
  Gf 28 (Ln 33 0 32),
  Gf 28 (Bi 34 .gtr 31 33),
  Po 35 28 34]
def f367x8 : List AOper := [
  Mc 2 (.con (.slice none 0 0)),
  Mc 3 (.bool false)]
def f367x9 : List AOper := [
  Mv 36 7,
  Mc 37 (.int .i64 0)]
def f367x10 : List AOper := [
  Bi 38 .lss 37 36]
def f367x11 : List AOper := [
  Mv 39 37,
  Mv 8 39]
def f367x12 : List AOper := [
  Fa 40 0 6,
  Ld 41 40,
  Mv 42 0,
  Mv 43 5,
  Mv 44 8,
  Bi 45 .add 43 44,
  Ia 46 1 42 45,
  Af [6] (Ld 47 46),
  Cv 48 .u32 47,
  Mv 49 8,
  Op 50 (.bin .mul (.c (.int .i64 8)) (.t 49)),
  Op 51 (.bin .sub (.c (.int .i64 24)) (.t 50)),
  Bi 52 .shl 48 51,
  Bi 53 .add 41 52,
  Fa 54 0 6,
  Af [1, 7, 6] (St 1 54 53)]
def f367x13 : List AOper := [
  Bc 55 .add 37 1,
  Mv 37 55]
def f367x14L : ACode := (.seq (.region f367x10 false) (.seq (.cond (.t 38) .skip (.exit 2)) (.seq (.block 3 (.seq (.region f367x11 false) (.region f367x12 true))) (.region f367x13 false))))
def f367x15 : List AOper := [
  Ls 56 2 6,
  Ct 57 179 [56],
  Un 58 .not 57]
def f367x16 : List AOper := [
  Mc 2 (.con (.slice none 0 0)),
  Mc 3 (.bool false)]
def f367x17 : List AOper := [
  Mv 59 5,
  Mv 60 7,
  Bi 61 .add 59 60,
  Mv 5 61]
def f367x18 : List AOper := [
  Mv 62 4,
  Ls 63 2 6,
  Op 64 (.bsl 2 [.int .u32 0, .int .i64 0] 1 [0] [(.t 63)]),
  Ap 65 2 16 62 64,
  Mv 4 65]
def f367x19L : ACode := (.seq (.seq (.region f367x3 false) (.cond (.t 12) .skip (.exit 0))) (.block 1 (.seq (.region f367x4 false) (.seq (.region f367x5 false) (.seq (.region f367x6 false) (.seq (.seq (.region f367x7 false) (.cond (.t 35) (.seq (.region f367x8 false) .ret) .skip)) (.seq (.seq (.region f367x9 false) (.block 2 (.loop f367x14L))) (.seq (.seq (.region f367x15 false) (.cond (.t 58) (.seq (.region f367x16 false) .ret) .skip)) (.seq (.region f367x17 false) (.region f367x18 false))))))))))
def f367x20 : List AOper := [
  Mv 66 4,
  Mv 2 66,
  Mc 3 (.bool true)]
def f367 : AFunc := ⟨67, 1, false, [.t 2, .t 3], (.seq (.region f367x0 false) (.seq (.region f367x1 false) (.seq (.seq (.region f367x2 false) (.block 0 (.loop f367x19L))) (.seq (.region f367x20 false) .ret))))⟩
def f71x0 : List AOper := [
  Op 4 (.alloc (.agg [.int .i64 0, .con (.slice none 0 0), .int .u32 0, .bool false, .int .i64 0, .bool false, .int .i64 0, .bool false, .bool false, .int .i64 0, .int .u32 0, .con (.slice none 0 0), .bool false, .int .u32 0, .con (.slice none 0 0), .con (.slice none 0 0)])),
  Mc 5 (.int .i64 0)]
def f71x1 : List AOper := [
  Op 18 (.build [.int .i64 0, .con (.slice none 0 0), .int .u32 0, .bool false, .int .i64 0, .bool false, .int .i64 0, .bool false, .bool false, .int .i64 0, .int .u32 0, .con (.slice none 0 0), .bool false, .int .u32 0, .con (.slice none 0 0), .con (.slice none 0 0)] [] []),
  Op 6 (.alloc (.agg [.int .i64 0, .con (.slice none 0 0), .int .u32 0, .bool false, .int .i64 0, .bool false, .int .i64 0, .bool false, .bool false, .int .i64 0, .int .u32 0, .con (.slice none 0 0), .bool false, .int .u32 0, .con (.slice none 0 0), .con (.slice none 0 0)])),
  St 16 6 18]
def f71x2 : List AOper := [
  Mc 7 (.int .i64 (-1))]
def f71x3 : List AOper := [
  Op 8 (.alloc (.agg [.bool false, .bool false, .bool false, .bool false, .bool false, .bool false, .bool false, .bool false, .bool false, .bool false, .bool false, .bool false, .bool false, .bool false, .bool false, .bool false, .bool false, .bool false, .bool false, .bool false, .bool false, .bool false, .bool false, .bool false, .bool false, .bool false, .bool false, .bool false, .bool false, .bool false, .bool false, .bool false, .bool false, .bool false, .bool false, .bool false, .bool false, .bool false, .bool false, .bool false, .bool false, .bool false, .bool false, .bool false, .bool false, .bool false, .bool false, .bool false, .bool false, .bool false, .bool false, .bool false, .bool false, .bool false, .bool false, .bool false, .bool false, .bool false, .bool false, .bool false, .bool false, .bool false, .bool false, .bool false, .bool false, .bool false, .bool false, .bool false, .bool false, .bool false, .bool false, .bool false, .bool false, .bool false, .bool false, .bool false, .bool false, .bool false, .bool false, .bool false, .bool false, .bool false, .bool false, .bool false, .bool false, .bool false, .bool false, .bool false, .bool false, .bool false, .bool false, .bool false, .bool false, .bool false, .bool false, .bool false, .bool false, .bool false, .bool false, .bool false, .bool false, .bool false, .bool false, .bool false, .bool false, .bool false, .bool false, .bool false, .bool false, .bool false, .bool false, .bool false, .bool false, .bool false, .bool false, .bool false, .bool false, .bool false, .bool false, .bool false, .bool false, .bool false, .bool false, .bool false, .bool false, .bool false, .bool false, .bool false, .bool false, .bool false, .bool false, .bool false, .bool false, .bool false, .bool false, .bool false, .bool false, .bool false, .bool false, .bool false, .bool false, .bool false, .bool false, .bool false, .bool false, .bool false, .bool false, .bool false, .bool false, .bool false, .bool false, .bool false, .bool false, .bool false, .bool false, .bool false, .bool false, .bool false, .bool false, .bool false, .bool false, .bool false, .bool false, .bool false, .bool false, .bool false, .bool false, .bool false, .bool false, .bool false, .bool false, .bool false, .bool false, .bool false, .bool false, .bool false, .bool false, .bool false, .bool false, .bool false, .bool false, .bool false, .bool false, .bool false, .bool false, .bool false, .bool false, .bool false, .bool false, .bool false, .bool false, .bool false, .bool false, .bool false, .bool false, .bool false, .bool false, .bool false, .bool false, .bool false, .bool false, .bool false, .bool false, .bool false, .bool false, .bool false, .bool false, .bool false, .bool false, .bool false, .bool false, .bool false, .bool false, .bool false, .bool false, .bool false, .bool false, .bool false, .bool false, .bool false, .bool false, .bool false, .bool false, .bool false, .bool false, .bool false, .bool false, .bool false, .bool false, .bool false, .bool false, .bool false, .bool false, .bool false, .bool false, .bool false, .bool false, .bool false, .bool false, .bool false, .bool false, .bool false, .bool false, .bool false, .bool false, .bool false, .bool false, .bool false, .bool false, .bool false, .bool false, .bool false, .bool false, .bool false, .bool false, .bool false]))]
def f71x4 : List AOper := [
  Mc 9 (.int .i64 0)]
def f71x5 : List AOper := [
  Mv 19 9,
  Mv 20 0,
  Ln 21 0 20,
  Bi 22 .lss 19 21]
def f71x6 : List AOper := [
  Mv 23 9,
  Bc 24 .add 23 3,
  Mv 25 0,
  Ln 26 0 25,
  Bi 27 .gtr 24 26]
def f71x7 : List AOper := [
  Op 28 (.build [.int .i64 0, .con (.slice none 0 0), .int .u32 0, .bool false, .int .i64 0, .bool false, .int .i64 0, .bool false, .bool false, .int .i64 0, .int .u32 0, .con (.slice none 0 0), .bool false, .int .u32 0, .con (.slice none 0 0), .con (.slice none 0 0)] [] []),
  St 16 4 28,
  Mc 5 (.int .i64 3)]
def f71x8 : List AOper := [
  Mv 29 0,
  Mv 30 9,
  Ia 31 1 29 30,
  Af [2] (Ld 32 31),
  Cv 33 .i64 32,
  Mv 34 0,
  Mv 35 9,
  Bc 36 .add 35 1,
  Ia 37 1 34 36,
  Af [8] (Ld 38 37),
  Cv 39 .i64 38,
  Mv 10 33,
  Mv 11 39,
  Mc 12 (.int .i64 1)]
def f71x9 : List AOper := [
  Mv 40 10,
  Bc 41 .and 40 16,
  Bc 42 .neq 41 0,
  Mv 13 42]
def f71x10 : List AOper := [
  Mv 43 13]
def f71x11 : List AOper := [
  Mc 12 (.int .i64 2)]
def f71x12 : List AOper := [
  Mv 44 9,
  Bc 45 .add 44 2,
  Mv 46 12,
  Bi 47 .add 45 46,
  Mv 48 0,
  Ln 49 0 48,
  Bi 50 .gtr 47 49]
def f71x13 : List AOper := [
  Op 51 (.build [.int .i64 0, .con (.slice none 0 0), .int .u32 0, .bool false, .int .i64 0, .bool false, .int .i64 0, .bool false, .bool false, .int .i64 0, .int .u32 0, .con (.slice none 0 0), .bool false, .int .u32 0, .con (.slice none 0 0), .con (.slice none 0 0)] [] []),
  St 16 4 51,
  Mc 5 (.int .i64 3)]
def f71x14 : List AOper := [
  Mv 52 0,
  Mv 53 9,
  Bc 54 .add 53 2,
  Mv 55 12,
  Ct 56 100 [52, 54, 55],
  Mv 14 56]
def f71x15 : List AOper := [
  Mv 57 9,
  Mv 58 12,
  Op 59 (.bin .add (.c (.int .i64 2)) (.t 58)),
  Bi 60 .add 57 59,
  Mv 9 60]
def f71x16 : List AOper := [
  Mv 61 9,
  Mv 62 14,
  Bi 63 .add 61 62,
  Mv 64 0,
  Ln 65 0 64,
  Bi 66 .gtr 63 65]
def f71x17 : List AOper := [
  Op 67 (.build [.int .i64 0, .con (.slice none 0 0), .int .u32 0, .bool false, .int .i64 0, .bool false, .int .i64 0, .bool false, .bool false, .int .i64 0, .int .u32 0, .con (.slice none 0 0), .bool false, .int .u32 0, .con (.slice none 0 0), .con (.slice none 0 0)] [] []),
  St 16 4 67,
  Mc 5 (.int .i64 3)]
def f71x18 : List AOper := [
  Mv 68 11,
  Mv 69 7,
  Bi 70 .leq 68 69]
def f71x19 : List AOper := [
  Op 71 (.build [.int .i64 0, .con (.slice none 0 0), .int .u32 0, .bool false, .int .i64 0, .bool false, .int .i64 0, .bool false, .bool false, .int .i64 0, .int .u32 0, .con (.slice none 0 0), .bool false, .int .u32 0, .con (.slice none 0 0), .con (.slice none 0 0)] [] []),
  St 16 4 71,
  Mc 5 (.int .i64 16)]
def f71x20 : List AOper := [
  Mv 72 11,
  Mv 7 72]
def f71x21 : List AOper := [
  Ls 74 16 6,
  Mv 75 11,
  Mv 76 0,
  Mv 77 9,
  Mv 78 9,
  Mv 79 14,
  Bi 80 .add 78 79,
  Op 81 (.slc 1 (.t 76) (some (.t 77)) (some (.t 80)) none),
  Mv 82 1,
  Af [0, 7] (Ct 83 101 [74, 75, 81, 82]),
  Mv 73 83,
  Ex 84 73 0,
  Ex 85 73 1,
  Op 15 (.alloc (.agg [.int .i64 0, .con (.slice none 0 0), .int .u32 0, .bool false, .int .i64 0, .bool false, .int .i64 0, .bool false, .bool false, .int .i64 0, .int .u32 0, .con (.slice none 0 0), .bool false, .int .u32 0, .con (.slice none 0 0), .con (.slice none 0 0)])),
  Af [13, 9, 0, 7] (St 16 15 84),
  Mv 16 85]
def f71x22 : List AOper := [
  Mv 86 10,
  Bc 87 .andNot 86 16,
  Mv 88 11,
  Ct 89 102 [88],
  Bi 90 .neq 87 89,
  Mv 91 90,
  Gf 91 (Mv 92 13),
  Gf 91 (Mv 93 92),
  Gt 93 (Mv 94 14),
  Gt 93 (Bc 95 .leq 94 255),
  Gf 91 (Pa 96 93 95),
  Po 97 91 96,
  Mv 98 97,
  Gf 98 (Mv 99 16),
  Gf 98 (Un 100 .not 99),
  Po 101 98 100]
def f71x23 : List AOper := [
  Op 102 (.build [.int .i64 0, .con (.slice none 0 0), .int .u32 0, .bool false, .int .i64 0, .bool false, .int .i64 0, .bool false, .bool false, .int .i64 0, .int .u32 0, .con (.slice none 0 0), .bool false, .int .u32 0, .con (.slice none 0 0), .con (.slice none 0 0)] [] []),
  St 16 4 102,
  Mc 5 (.int .i64 2)]
def f71x24 : List AOper := [
  Ls 103 16 15,
  St 16 6 103]
def f71x25 : List AOper := [
  Mv 104 11,
  Op 105 (.iarr 256 1 (.t 8) (.t 104)),
  ⟨none, .store 1 (.t 105) (.c (.bool true)), none, []⟩]
def f71x26 : List AOper := [
  Mv 106 9,
  Mv 107 14,
  Bi 108 .add 106 107,
  Mv 9 108]
def f71x27L : ACode := (.seq (.seq (.region f71x5 false) (.cond (.t 22) .skip (.exit 0))) (.block 1 (.seq (.seq (.region f71x6 false) (.cond (.t 27) (.seq (.region f71x7 false) .ret) .skip)) (.seq (.region f71x8 true) (.seq (.region f71x9 false) (.seq (.seq (.region f71x10 false) (.cond (.t 43) (.region f71x11 false) .skip)) (.seq (.seq (.region f71x12 false) (.cond (.t 50) (.seq (.region f71x13 false) .ret) .skip)) (.seq (.region f71x14 false) (.seq (.region f71x15 false) (.seq (.seq (.region f71x16 false) (.cond (.t 66) (.seq (.region f71x17 false) .ret) .skip)) (.seq (.seq (.region f71x18 false) (.cond (.t 70) (.seq (.region f71x19 false) .ret) .skip)) (.seq (.region f71x20 false) (.seq (.region f71x21 true) (.seq (.seq (.region f71x22 false) (.cond (.t 101) (.seq (.region f71x23 false) .ret) .skip)) (.seq (.region f71x24 false) (.seq (.region f71x25 false) (.region f71x26 false)))))))))))))))))
def f71x28 : List AOper := [
  Op 109 (.iarr 256 1 (.t 8) (.c (.int .i64 1))),
  Ld 110 109,
  Un 111 .not 110,
  Mv 112 111,
  Gf 112 (Op 113 (.iarr 256 1 (.t 8) (.c (.int .i64 2)))),
  Gf 112 (Ld 114 113),
  Gf 112 (Un 115 .not 114),
  Po 116 112 115,
  Mv 117 116,
  Gf 117 (Op 118 (.iarr 256 1 (.t 8) (.c (.int .i64 3)))),
  Gf 117 (Ld 119 118),
  Gf 117 (Un 120 .not 119),
  Po 121 117 120]
def f71x29 : List AOper := [
  Op 122 (.build [.int .i64 0, .con (.slice none 0 0), .int .u32 0, .bool false, .int .i64 0, .bool false, .int .i64 0, .bool false, .bool false, .int .i64 0, .int .u32 0, .con (.slice none 0 0), .bool false, .int .u32 0, .con (.slice none 0 0), .con (.slice none 0 0)] [] []),
  St 16 4 122,
  Mc 5 (.int .i64 6)]
def f71x30 : List AOper := [
  Ls 123 16 6,
  Ct 124 66 [123],
  Mv 17 124]
def f71x31 : List AOper := [
  Mv 125 17,
  Bc 126 .neq 125 0]
def f71x32 : List AOper := [
  Op 127 (.build [.int .i64 0, .con (.slice none 0 0), .int .u32 0, .bool false, .int .i64 0, .bool false, .int .i64 0, .bool false, .bool false, .int .i64 0, .int .u32 0, .con (.slice none 0 0), .bool false, .int .u32 0, .con (.slice none 0 0), .con (.slice none 0 0)] [] []),
  Mv 128 17,
  St 16 4 127,
  Mv 5 128]
def f71x33 : List AOper := [
  Ls 129 16 6,
  St 16 4 129,
  Mc 5 (.int .i64 0)]
def f71 : AFunc := ⟨130, 2, false, [.cell 4 (some 16), .t 5], (.seq (.region f71x0 false) (.seq (.region f71x1 false) (.seq (.region f71x2 false) (.seq (.region f71x3 false) (.seq (.seq (.region f71x4 false) (.block 0 (.loop f71x27L))) (.seq (.seq (.region f71x28 false) (.cond (.t 121) (.seq (.region f71x29 false) .ret) .skip)) (.seq (.seq (.region f71x30 false) (.seq (.region f71x31 false) (.cond (.t 126) (.seq (.region f71x32 false) .ret) .skip))) (.seq (.region f71x33 false) .ret))))))))⟩
def f97x0 : List AOper := [
  Mc 4 (.bool false)]
def f97x1 : List AOper := [
  Mv 7 0,
  Ln 8 0 7,
  Mv 9 1,
  Ln 10 0 9,
  Bi 11 .neq 8 10]
def f97x2 : List AOper := [
  Mc 4 (.bool false)]
def f97x3 : List AOper := [
  Mv 12 0,
  Ln 13 0 12,
  Mc 14 (.int .i64 0)]
def f97x4 : List AOper := [
  Bi 15 .lss 14 13]
def f97x5 : List AOper := [
  Mv 16 14,
  Mv 5 16]
def f97x6 : List AOper := [
  Mv 17 0,
  Mv 18 5,
  Ia 19 2 17 18,
  Fa 20 0 19,
  Af [2] (Ld 21 20),
  Mv 22 1,
  Mv 23 5,
  Ia 24 2 22 23,
  Fa 25 0 24,
  Af [7] (Ld 26 25),
  Bi 27 .neq 21 26,
  Mv 28 27,
  Gf 28 (Mv 29 0),
  Gf 28 (Mv 30 5),
  Af [4, 9, 2, 7] (Gf 28 (Ia 31 2 29 30)),
  Gf 28 (Fa 32 1 31),
  Af [14, 4, 9, 2, 7] (Gf 28 (Ld 33 32)),
  Af [16, 14, 4, 9, 2, 7] (Gf 28 (Ln 34 0 33)),
  Gf 28 (Mv 35 1),
  Gf 28 (Mv 36 5),
  Af [4, 9, 2, 7] (Gf 28 (Ia 37 2 35 36)),
  Gf 28 (Fa 38 1 37),
  Af [20, 4, 9, 2, 7] (Gf 28 (Ld 39 38)),
  Af [22, 20, 4, 9, 2, 7] (Gf 28 (Ln 40 0 39)),
  Gf 28 (Bi 41 .neq 34 40),
  Po 42 28 41]
def f97x7 : List AOper := [
  Mc 4 (.bool false)]
def f97x8 : List AOper := [
  Mv 43 0,
  Mv 44 5,
  Ia 45 2 43 44,
  Fa 46 1 45,
  Ld 47 46,
  Ln 48 0 47,
  Mc 49 (.int .i64 0)]
def f97x9 : List AOper := [
  Bi 50 .lss 49 48]
def f97x10 : List AOper := [
  Mv 51 49,
  Mv 6 51]
def f97x11 : List AOper := [
  Mv 52 0,
  Mv 53 5,
  Ia 54 2 52 53,
  Fa 55 1 54,
  Af [2] (Ld 56 55),
  Mv 57 6,
  Af [4, 2] (Ia 58 1 56 57),
  Af [6, 4, 2] (Ld 59 58),
  Mv 60 1,
  Mv 61 5,
  Ia 62 2 60 61,
  Fa 63 1 62,
  Af [10] (Ld 64 63),
  Mv 65 6,
  Af [12, 10] (Ia 66 1 64 65),
  Af [14, 12, 10] (Ld 67 66),
  Bi 68 .neq 59 67]
def f97x12 : List AOper := [
  Mc 4 (.bool false)]
def f97x13 : List AOper := [
  Bc 69 .add 49 1,
  Mv 49 69]
def f97x14L : ACode := (.seq (.region f97x9 false) (.seq (.cond (.t 50) .skip (.exit 2)) (.seq (.block 3 (.seq (.region f97x10 false) (.seq (.region f97x11 true) (.cond (.t 68) (.seq (.region f97x12 false) .ret) .skip)))) (.region f97x13 false))))
def f97x15 : List AOper := [
  Bc 70 .add 14 1,
  Mv 14 70]
def f97x16L : ACode := (.seq (.region f97x4 false) (.seq (.cond (.t 15) .skip (.exit 0)) (.seq (.block 1 (.seq (.region f97x5 false) (.seq (.seq (.region f97x6 true) (.cond (.t 42) (.seq (.region f97x7 false) .ret) .skip)) (.seq (.region f97x8 false) (.block 2 (.loop f97x14L)))))) (.region f97x15 false))))
def f97x17 : List AOper := [
  Mc 4 (.bool true)]
def f97 : AFunc := ⟨71, 2, false, [.t 4], (.seq (.region f97x0 false) (.seq (.seq (.region f97x1 false) (.cond (.t 11) (.seq (.region f97x2 false) .ret) .skip)) (.seq (.seq (.region f97x3 false) (.block 0 (.loop f97x16L))) (.seq (.region f97x17 false) .ret))))⟩
def f97x16LH : List AItem := [.inLoop f97x16L, .inBlock 0, .code (.seq (.region f97x17 false) .ret)]
def f97x14LH : List AItem := [.inLoop f97x14L, .inBlock 2, .inBlock 1, .code (.region f97x15 false), .inLoop f97x16L, .inBlock 0, .code (.seq (.region f97x17 false) .ret)]
def f98x0 : List AOper := [
  Mc 4 (.bool false)]
def f98x1 : List AOper := [
  Mv 5 0,
  Op 6 (.b2s (.t 5)),
  Mv 7 1,
  Op 8 (.b2s (.t 7)),
  Bi 9 .eql 6 8,
  Mv 4 9]
def f98 : AFunc := ⟨10, 2, false, [.t 4], (.seq (.region f98x0 false) (.seq (.region f98x1 false) .ret))⟩
def f99x0 : List AOper := [
  Mc 4 (.bool false)]
def f99x1 : List AOper := [
  Mv 6 0,
  Ln 7 0 6,
  Mv 8 1,
  Ln 9 0 8,
  Bi 10 .neq 7 9]
def f99x2 : List AOper := [
  Mc 4 (.bool false)]
def f99x3 : List AOper := [
  Mv 11 0,
  Ln 12 0 11,
  Mc 13 (.int .i64 0)]
def f99x4 : List AOper := [
  Bi 14 .lss 13 12]
def f99x5 : List AOper := [
  Mv 15 13,
  Mv 5 15]
def f99x6 : List AOper := [
  Mv 16 0,
  Mv 17 5,
  Ia 18 1 16 17,
  Af [2] (Ld 19 18),
  Mv 20 1,
  Mv 21 5,
  Ia 22 1 20 21,
  Af [6] (Ld 23 22),
  Bi 24 .neq 19 23]
def f99x7 : List AOper := [
  Mc 4 (.bool false)]
def f99x8 : List AOper := [
  Bc 25 .add 13 1,
  Mv 13 25]
def f99x9L : ACode := (.seq (.region f99x4 false) (.seq (.cond (.t 14) .skip (.exit 0)) (.seq (.block 1 (.seq (.region f99x5 false) (.seq (.region f99x6 true) (.cond (.t 24) (.seq (.region f99x7 false) .ret) .skip)))) (.region f99x8 false))))
def f99x10 : List AOper := [
  Mc 4 (.bool true)]
def f99 : AFunc := ⟨26, 2, false, [.t 4], (.seq (.region f99x0 false) (.seq (.seq (.region f99x1 false) (.cond (.t 10) (.seq (.region f99x2 false) .ret) .skip)) (.seq (.seq (.region f99x3 false) (.block 0 (.loop f99x9L))) (.seq (.region f99x10 false) .ret))))⟩
def f99x9LH : List AItem := [.inLoop f99x9L, .inBlock 0, .code (.seq (.region f99x10 false) .ret)]
def f65x0 : List AOper := [
  Op 1 (.box (.t 0)),
  Mc 2 (.int .i64 0)]
def f65x1 : List AOper := [
  Fa 3 0 1,
  Ld 4 3,
  Bc 5 .lss 4 0,
  Mv 6 5,
  Gf 6 (Fa 7 0 1),
  Af [1] (Gf 6 (Ld 8 7)),
  Gf 6 (Bc 9 .gtr 8 2),
  Po 10 6 9,
  Af [5, 1] (Ca 11 74 [(.t 10), (.c (.int .i64 5))]),
  Fa 12 1 1,
  Ld 13 12,
  Af [10, 8, 5, 1] (Ct 14 75 [13]),
  Fa 15 2 1,
  Ld 16 15,
  Op 17 (.bin .eql (.t 16) (.c (.int .u32 0))),
  Af [11, 13, 10, 8, 5, 1] (Ca 18 74 [(.t 17), (.c (.int .i64 1))]),
  Fa 19 3 1,
  Ld 20 19,
  Fa 21 4 1,
  Ld 22 21,
  Af [17, 19, 15, 11, 13, 10, 8, 5, 1] (Ca 23 76 [(.t 20), (.t 22), (.c (.int .i64 0))]),
  Fa 24 5 1,
  Ld 25 24,
  Fa 26 6 1,
  Ld 27 26,
  Af [22, 24, 20, 17, 19, 15, 11, 13, 10, 8, 5, 1] (Ca 28 76 [(.t 25), (.t 27), (.c (.int .i64 0))]),
  Fa 29 8 1,
  Ld 30 29,
  Fa 31 9 1,
  Ld 32 31,
  Af [27, 29, 25, 22, 24, 20, 17, 19, 15, 11, 13, 10, 8, 5, 1] (Ca 33 76 [(.t 30), (.t 32), (.c (.int .i64 1))]),
  Fa 34 8 1,
  Ld 35 34,
  Un 36 .not 35,
  Mv 37 36,
  Gt 37 (Fa 38 10 1),
  Af [30, 32, 27, 29, 25, 22, 24, 20, 17, 19, 15, 11, 13, 10, 8, 5, 1] (Gt 37 (Ld 39 38)),
  Gt 37 (Op 40 (.bin .neq (.t 39) (.c (.int .u32 0)))),
  Pa 41 37 40,
  Af [36, 30, 32, 27, 29, 25, 22, 24, 20, 17, 19, 15, 11, 13, 10, 8, 5, 1] (Ca 42 74 [(.t 41), (.c (.int .i64 1))]),
  Fa 43 11 1,
  Ld 44 43,
  Af [41, 39, 36, 30, 32, 27, 29, 25, 22, 24, 20, 17, 19, 15, 11, 13, 10, 8, 5, 1] (Ct 45 77 [44]),
  Fa 46 12 1,
  Ld 47 46,
  Fa 48 13 1,
  Ld 49 48,
  Op 50 (.bin .eql (.t 49) (.c (.int .u32 0))),
  Op 51 (.eqb false (.t 47) (.t 50)),
  Af [42, 44, 46, 41, 39, 36, 30, 32, 27, 29, 25, 22, 24, 20, 17, 19, 15, 11, 13, 10, 8, 5, 1] (Ca 52 74 [(.t 51), (.c (.int .i64 1))]),
  Fa 53 14 1,
  Ld 54 53,
  Af [51, 49, 42, 44, 46, 41, 39, 36, 30, 32, 27, 29, 25, 22, 24, 20, 17, 19, 15, 11, 13, 10, 8, 5, 1] (Ct 55 78 [54]),
  Fa 56 15 1,
  Ld 57 56,
  Af [54, 52, 51, 49, 42, 44, 46, 41, 39, 36, 30, 32, 27, 29, 25, 22, 24, 20, 17, 19, 15, 11, 13, 10, 8, 5, 1] (Ct 58 79 [57]),
  Af [55, 54, 52, 51, 49, 42, 44, 46, 41, 39, 36, 30, 32, 27, 29, 25, 22, 24, 20, 17, 19, 15, 11, 13, 10, 8, 5, 1] (Op 59 (.bsl 1 [.int .i64 0] 11 [0, 1, 2, 3, 4, 5, 6, 7, 8, 9, 10] [(.t 11), (.t 14), (.t 18), (.t 23), (.t 28), (.t 33), (.t 42), (.t 45), (.t 52), (.t 55), (.t 58)])),
  Af [56, 55, 54, 52, 51, 49, 42, 44, 46, 41, 39, 36, 30, 32, 27, 29, 25, 22, 24, 20, 17, 19, 15, 11, 13, 10, 8, 5, 1] (Ct 60 73 [59]),
  Mv 2 60]
def f65 : AFunc := ⟨61, 1, false, [.t 2], (.seq (.region f65x0 false) (.seq (.region f65x1 true) .ret))⟩
def f83x0 : List AOper := [
  Mc 6 (.con (.slice none 0 0))]
def f83x1 : List AOper := [
  Mv 9 2,
  Ln 10 0 9,
  Mc 11 (.int .i64 0)]
def f83x2 : List AOper := [
  Bi 12 .lss 11 10]
def f83x3 : List AOper := [
  Ia 13 1 9 11,
  Ld 14 13,
  Mv 8 14]
def f83x4 : List AOper := [
  Mv 15 6,
  Mv 16 8,
  Ap 17 1 1 15 16,
  Mv 6 17]
def f83x5 : List AOper := [
  Bc 18 .add 11 1,
  Mv 11 18]
def f83x6L : ACode := (.seq (.region f83x2 false) (.seq (.cond (.t 12) .skip (.exit 0)) (.seq (.block 1 (.seq (.region f83x3 false) (.region f83x4 false))) (.region f83x5 false))))
def f83x7 : List AOper := [
  Mv 19 6,
  Ln 20 0 19,
  Bc 21 .gtr 20 255]
def f83x8 : List AOper := [
  Mv 22 0,
  Mv 23 0,
  Nc 24 23,
  Fa 25 0 24,
  Ld 26 25,
  Mv 27 1,
  Ct 28 94 [27],
  Op 29 (.bin .or (.t 28) (.c (.int .u8 16))),
  Mv 30 1,
  Cv 31 .u8 30,
  Af [6] (Op 32 (.bsl 1 [.int .u8 0] 2 [0, 1] [(.t 29), (.t 31)])),
  Af [4, 10, 6] (Ap 33 1 1 26 32),
  Nc 34 22,
  Fa 35 0 34,
  Af [11, 4, 10, 6] (St 1 35 33)]
def f83x9 : List AOper := [
  Mv 36 0,
  Mv 37 0,
  Nc 38 37,
  Fa 39 0 38,
  Ld 40 39,
  Mv 41 6,
  Ln 42 0 41,
  Cv 43 .u64 42,
  Ca 44 109 [(.t 40), (.c (.int .i64 2)), (.t 43)],
  Nc 45 36,
  Fa 46 0 45,
  St 1 46 44]
def f83x10 : List AOper := [
  Mv 47 0,
  Mv 48 0,
  Nc 49 48,
  Fa 50 0 49,
  Ld 51 50,
  Mv 52 1,
  Ct 53 94 [52],
  Mv 54 1,
  Cv 55 .u8 54,
  Mv 56 6,
  Ln 57 0 56,
  Cv 58 .u8 57,
  Af [6, 10] (Op 59 (.bsl 1 [.int .u8 0] 3 [0, 1, 2] [(.t 53), (.t 55), (.t 58)])),
  Af [4, 12, 6, 10] (Ap 60 1 1 51 59),
  Nc 61 47,
  Fa 62 0 61,
  Af [13, 4, 12, 6, 10] (St 1 62 60)]
def f83x11 : List AOper := [
  Mv 63 0,
  Mv 64 0,
  Nc 65 64,
  Fa 66 0 65,
  Ld 67 66,
  Mv 68 6,
  Ap 69 1 1 67 68,
  Nc 70 63,
  Fa 71 0 70,
  St 1 71 69]
def f83 : AFunc := ⟨72, 3, false, [], (.seq (.region f83x0 false) (.seq (.seq (.region f83x1 false) (.block 0 (.loop f83x6L))) (.seq (.seq (.region f83x7 false) (.cond (.t 21) (.seq (.region f83x8 true) (.region f83x9 false)) (.region f83x10 true))) (.region f83x11 false))))⟩
def f83x6LH : List AItem := [.inLoop f83x6L, .inBlock 0, .code (.seq (.seq (.region f83x7 false) (.cond (.t 21) (.seq (.region f83x8 true) (.region f83x9 false)) (.region f83x10 true))) (.region f83x11 false))]
def f84x0 : List AOper := [
  Mc 4 (.con (.slice none 0 0))]
def f84x1 : List AOper := [
  Mc 5 (.con (.slice none 0 0))]
def f84x2 : List AOper := [
  Mv 10 1,
  Ln 11 0 10,
  Mc 12 (.int .i64 0)]
def f84x3 : List AOper := [
  Bi 13 .lss 12 11]
def f84x4 : List AOper := [
  Ia 14 2 10 12,
  Ls 15 2 14,
  Op 7 (.alloc (.agg [.int .i64 0, .con (.slice none 0 0)])),
  St 2 7 15]
def f84x5 : List AOper := [
  Mv 16 5,
  Fa 17 0 7,
  Ld 18 17,
  Cv 19 .u8 18,
  Fa 20 1 7,
  Ld 21 20,
  Ln 22 0 21,
  Cv 23 .u8 22,
  Op 24 (.bsl 1 [.int .u8 0] 2 [0, 1] [(.t 19), (.t 23)]),
  Ap 25 1 1 16 24,
  Mv 5 25]
def f84x6 : List AOper := [
  Fa 26 1 7,
  Ld 27 26,
  Ln 28 0 27,
  Mc 29 (.int .i64 0)]
def f84x7 : List AOper := [
  Bi 30 .lss 29 28]
def f84x8 : List AOper := [
  Ia 31 1 27 29,
  Ld 32 31,
  Mv 9 32]
def f84x9 : List AOper := [
  Mv 33 5,
  Mv 34 0,
  Mv 35 9,
  Ct 36 86 [34, 35],
  Ap 37 1 1 33 36,
  Mv 5 37]
def f84x10 : List AOper := [
  Bc 38 .add 29 1,
  Mv 29 38]
def f84x11L : ACode := (.seq (.region f84x7 false) (.seq (.cond (.t 30) .skip (.exit 2)) (.seq (.block 3 (.seq (.region f84x8 false) (.region f84x9 false))) (.region f84x10 false))))
def f84x12 : List AOper := [
  Bc 39 .add 12 1,
  Mv 12 39]
def f84x13L : ACode := (.seq (.region f84x3 false) (.seq (.cond (.t 13) .skip (.exit 0)) (.seq (.block 1 (.seq (.region f84x4 false) (.seq (.region f84x5 false) (.seq (.region f84x6 false) (.block 2 (.loop f84x11L)))))) (.region f84x12 false))))
def f84x14 : List AOper := [
  Mv 40 5,
  Mv 4 40]
def f84 : AFunc := ⟨41, 2, false, [.t 4], (.seq (.region f84x0 false) (.seq (.region f84x1 false) (.seq (.seq (.region f84x2 false) (.block 0 (.loop f84x13L))) (.seq (.region f84x14 false) .ret))))⟩
def f84x13LH : List AItem := [.inLoop f84x13L, .inBlock 0, .code (.seq (.region f84x14 false) .ret)]
def f84x11LH : List AItem := [.inLoop f84x11L, .inBlock 2, .inBlock 1, .code (.region f84x12 false), .inLoop f84x13L, .inBlock 0, .code (.seq (.region f84x14 false) .ret)]
def f85x0 : List AOper := [
  Mc 2 (.con (.slice none 0 0))]
def f85x1 : List AOper := [
  Mv 3 0,
  Cv 4 .u64 3,
  Ca 5 109 [(.c (.con (.slice none 0 0))), (.c (.int .i64 4)), (.t 4)],
  Mv 2 5]
def f85 : AFunc := ⟨6, 1, false, [.t 2], (.seq (.region f85x0 false) (.seq (.region f85x1 false) .ret))⟩
def f86x0 : List AOper := [
  Mc 4 (.con (.slice none 0 0))]
def f86x1 : List AOper := [
  Mv 5 0,
  Mv 6 0,
  Nc 7 6,
  Fa 8 2 7,
  Ld 9 8,
  Mv 10 9,
  Gf 10 (Mv 11 0),
  Gf 10 (Nc 12 11),
  Gf 10 (Fa 13 1 12),
  Gf 10 (Ld 14 13),
  Gf 10 (Un 15 .not 14),
  Gf 10 (Mv 16 15),
  Gt 16 (Mv 17 1),
  Gt 16 (Bc 18 .gtr 17 65535),
  Gf 10 (Pa 19 16 18),
  Po 20 10 19,
  Nc 21 5,
  Fa 22 2 21,
  St 1 22 20]
def f86x2 : List AOper := [
  Mv 23 0,
  Nc 24 23,
  Fa 25 1 24,
  Ld 26 25,
  Ct 27 96 [26],
  Mv 28 1,
  Cv 29 .u64 28,
  Ca 30 109 [(.c (.con (.slice none 0 0))), (.t 27), (.t 29)],
  Mv 4 30]
def f86 : AFunc := ⟨31, 2, false, [.t 4], (.seq (.region f86x0 false) (.seq (.region f86x1 false) (.seq (.region f86x2 false) .ret)))⟩
def f87x0 : List AOper := [
  Mc 2 (.con (.slice none 0 0))]
def f87x1 : List AOper := [
  Mc 3 (.con (.slice none 0 0))]
def f87x2 : List AOper := [
  Mv 6 0,
  Ln 7 0 6,
  Mc 8 (.int .i64 0)]
def f87x3 : List AOper := [
  Bi 9 .lss 8 7]
def f87x4 : List AOper := [
  Ia 10 1 6 8,
  Ld 11 10,
  Mv 5 11]
def f87x5 : List AOper := [
  Mv 12 3,
  Mv 13 5,
  Cv 14 .i64 13,
  Ct 15 85 [14],
  Ap 16 1 1 12 15,
  Mv 3 16]
def f87x6 : List AOper := [
  Bc 17 .add 8 1,
  Mv 8 17]
def f87x7L : ACode := (.seq (.region f87x3 false) (.seq (.cond (.t 9) .skip (.exit 0)) (.seq (.block 1 (.seq (.region f87x4 false) (.region f87x5 false))) (.region f87x6 false))))
def f87x8 : List AOper := [
  Mv 18 3,
  Mv 2 18]
def f87 : AFunc := ⟨19, 1, false, [.t 2], (.seq (.region f87x0 false) (.seq (.region f87x1 false) (.seq (.seq (.region f87x2 false) (.block 0 (.loop f87x7L))) (.seq (.region f87x8 false) .ret))))⟩
def f87x7LH : List AItem := [.inLoop f87x7L, .inBlock 0, .code (.seq (.region f87x8 false) .ret)]
def f368x0 : List AOper := [
  Mc 2 (.con (.slice none 0 0))]
def f368x1 : List AOper := [
  Mc 3 (.con (.slice none 0 0))]
def f368x2 : List AOper := [
  Mv 6 0,
  Ln 7 0 6,
  Mc 8 (.int .i64 0)]
def f368x3 : List AOper := [
  Bi 9 .lss 8 7]
def f368x4 : List AOper := [
  Ia 10 2 6 8,
  Ls 11 2 10,
  Op 5 (.alloc (.agg [.int .i64 0, .con (.slice none 0 0)])),
  St 2 5 11]
def f368x5 : List AOper := [
  Mv 12 3,
  Fa 13 0 5,
  Ld 14 13,
  Op 15 (.bsl 1 [.int .i64 0] 0 [] []),
  Fa 16 1 5,
  Ld 17 16,
  Af [3, 5] (Ap 18 1 8 15 17),
  Op 19 (.build [.int .i64 0, .con (.slice none 0 0)] [(0, 1), (1, 1)] [(.t 14), (.t 18)]),
  Af [2, 6, 3, 5] (Op 20 (.bsl 2 [.int .i64 0, .con (.slice none 0 0)] 1 [0] [(.t 19)])),
  Af [8, 2, 6, 3, 5] (Ap 21 2 32 12 20),
  Mv 3 21]
def f368x6 : List AOper := [
  Bc 22 .add 8 1,
  Mv 8 22]
def f368x7L : ACode := (.seq (.region f368x3 false) (.seq (.cond (.t 9) .skip (.exit 0)) (.seq (.block 1 (.seq (.region f368x4 false) (.region f368x5 true))) (.region f368x6 false))))
def f368x8 : List AOper := [
  Mv 23 3,
  Mv 2 23]
def f368 : AFunc := ⟨24, 1, false, [.t 2], (.seq (.region f368x0 false) (.seq (.region f368x1 false) (.seq (.seq (.region f368x2 false) (.block 0 (.loop f368x7L))) (.seq (.region f368x8 false) .ret))))⟩
def f54x0 : List AOper := [
  Mc 2 (.int .i64 0)]
def f54x1 : List AOper := [
  Mv 3 0,
  Ln 4 0 3,
  Mv 5 0,
  Ct 6 57 [5],
  Ln 7 0 6,
  Bi 8 .add 4 7,
  Mv 2 8]
def f54 : AFunc := ⟨9, 1, false, [.t 2], (.seq (.region f54x0 false) (.seq (.region f54x1 false) .ret))⟩
def f103x0 : List AOper := [
  Mc 4 (.bool false)]
def f103x1 : List AOper := [
  Mv 7 0,
  Ln 8 0 7,
  Mv 9 1,
  Ln 10 0 9,
  Bi 11 .neq 8 10]
def f103x2 : List AOper := [
  Mc 4 (.bool false)]
def f103x3 : List AOper := [
  Mv 12 0,
  Ln 13 0 12,
  Mc 14 (.int .i64 0)]
def f103x4 : List AOper := [
  Bi 15 .lss 14 13]
def f103x5 : List AOper := [
  Mv 16 14,
  Mv 5 16]
def f103x6 : List AOper := [
  Mv 17 0,
  Mv 18 5,
  Ia 19 2 17 18,
  Fa 20 0 19,
  Af [2] (Ld 21 20),
  Mv 22 1,
  Mv 23 5,
  Ia 24 2 22 23,
  Fa 25 0 24,
  Af [7] (Ld 26 25),
  Bi 27 .neq 21 26,
  Mv 28 27,
  Gf 28 (Mv 29 0),
  Gf 28 (Mv 30 5),
  Af [4, 9, 2, 7] (Gf 28 (Ia 31 2 29 30)),
  Gf 28 (Fa 32 1 31),
  Af [14, 4, 9, 2, 7] (Gf 28 (Ld 33 32)),
  Af [16, 14, 4, 9, 2, 7] (Gf 28 (Ln 34 0 33)),
  Gf 28 (Mv 35 1),
  Gf 28 (Mv 36 5),
  Af [4, 9, 2, 7] (Gf 28 (Ia 37 2 35 36)),
  Gf 28 (Fa 38 1 37),
  Af [20, 4, 9, 2, 7] (Gf 28 (Ld 39 38)),
  Af [22, 20, 4, 9, 2, 7] (Gf 28 (Ln 40 0 39)),
  Gf 28 (Bi 41 .neq 34 40),
  Po 42 28 41]
def f103x7 : List AOper := [
  Mc 4 (.bool false)]
def f103x8 : List AOper := [
  Mv 43 0,
  Mv 44 5,
  Ia 45 2 43 44,
  Fa 46 1 45,
  Ld 47 46,
  Ln 48 0 47,
  Mc 49 (.int .i64 0)]
def f103x9 : List AOper := [
  Bi 50 .lss 49 48]
def f103x10 : List AOper := [
  Mv 51 49,
  Mv 6 51]
def f103x11 : List AOper := [
  Mv 52 0,
  Mv 53 5,
  Ia 54 2 52 53,
  Fa 55 1 54,
  Af [2] (Ld 56 55),
  Mv 57 6,
  Af [4, 2] (Ia 58 1 56 57),
  Af [6, 4, 2] (Ld 59 58),
  Mv 60 1,
  Mv 61 5,
  Ia 62 2 60 61,
  Fa 63 1 62,
  Af [10] (Ld 64 63),
  Mv 65 6,
  Af [12, 10] (Ia 66 1 64 65),
  Af [14, 12, 10] (Ld 67 66),
  Bi 68 .neq 59 67]
def f103x12 : List AOper := [
  Mc 4 (.bool false)]
def f103x13 : List AOper := [
  Bc 69 .add 49 1,
  Mv 49 69]
def f103x14L : ACode := (.seq (.region f103x9 false) (.seq (.cond (.t 50) .skip (.exit 2)) (.seq (.block 3 (.seq (.region f103x10 false) (.seq (.region f103x11 true) (.cond (.t 68) (.seq (.region f103x12 false) .ret) .skip)))) (.region f103x13 false))))
def f103x15 : List AOper := [
  Bc 70 .add 14 1,
  Mv 14 70]
def f103x16L : ACode := (.seq (.region f103x4 false) (.seq (.cond (.t 15) .skip (.exit 0)) (.seq (.block 1 (.seq (.region f103x5 false) (.seq (.seq (.region f103x6 true) (.cond (.t 42) (.seq (.region f103x7 false) .ret) .skip)) (.seq (.region f103x8 false) (.block 2 (.loop f103x14L)))))) (.region f103x15 false))))
def f103x17 : List AOper := [
  Mc 4 (.bool true)]
def f103 : AFunc := ⟨71, 2, false, [.t 4], (.seq (.region f103x0 false) (.seq (.seq (.region f103x1 false) (.cond (.t 11) (.seq (.region f103x2 false) .ret) .skip)) (.seq (.seq (.region f103x3 false) (.block 0 (.loop f103x16L))) (.seq (.region f103x17 false) .ret))))⟩
def f103x16LH : List AItem := [.inLoop f103x16L, .inBlock 0, .code (.seq (.region f103x17 false) .ret)]
def f103x14LH : List AItem := [.inLoop f103x14L, .inBlock 2, .inBlock 1, .code (.region f103x15 false), .inLoop f103x16L, .inBlock 0, .code (.seq (.region f103x17 false) .ret)]
def f104x0 : List AOper := [
  Mc 4 (.bool false)]
def f104x1 : List AOper := [
  Mv 6 0,
  Ln 7 0 6,
  Mv 8 1,
  Ln 9 0 8,
  Bi 10 .neq 7 9]
def f104x2 : List AOper := [
  Mc 4 (.bool false)]
def f104x3 : List AOper := [
  Mv 11 0,
  Ln 12 0 11,
  Mc 13 (.int .i64 0)]
def f104x4 : List AOper := [
  Bi 14 .lss 13 12]
def f104x5 : List AOper := [
  Mv 15 13,
  Mv 5 15]
def f104x6 : List AOper := [
  Mv 16 0,
  Mv 17 5,
  Ia 18 1 16 17,
  Af [2] (Ld 19 18),
  Mv 20 1,
  Mv 21 5,
  Ia 22 1 20 21,
  Af [6] (Ld 23 22),
  Bi 24 .neq 19 23]
def f104x7 : List AOper := [
  Mc 4 (.bool false)]
def f104x8 : List AOper := [
  Bc 25 .add 13 1,
  Mv 13 25]
def f104x9L : ACode := (.seq (.region f104x4 false) (.seq (.cond (.t 14) .skip (.exit 0)) (.seq (.block 1 (.seq (.region f104x5 false) (.seq (.region f104x6 true) (.cond (.t 24) (.seq (.region f104x7 false) .ret) .skip)))) (.region f104x8 false))))
def f104x10 : List AOper := [
  Mc 4 (.bool true)]
def f104 : AFunc := ⟨26, 2, false, [.t 4], (.seq (.region f104x0 false) (.seq (.seq (.region f104x1 false) (.cond (.t 10) (.seq (.region f104x2 false) .ret) .skip)) (.seq (.seq (.region f104x3 false) (.block 0 (.loop f104x9L))) (.seq (.region f104x10 false) .ret))))⟩
def f104x9LH : List AItem := [.inLoop f104x9L, .inBlock 0, .code (.seq (.region f104x10 false) .ret)]
def f170x0 : List AOper := [
  Op 1 (.box (.t 0)),
  Mc 2 (.int .i64 0)]
def f170x1 : List AOper := [
  Mc 3 (.int .i64 0),
  Mc 4 (.bool false)]
def f170x2 : List AOper := [
  Fa 8 5 1,
  Ld 9 8,
  Ln 10 0 9,
  Mc 11 (.int .i64 0)]
def f170x3 : List AOper := [
  Bi 12 .lss 11 10]
def f170x4 : List AOper := [
  Mv 13 11,
  Ia 14 2 9 11,
  Ls 15 2 14,
  Op 6 (.alloc (.agg [.int .i64 0, .con (.slice none 0 0)])),
  Mv 5 13,
  St 2 6 15]
def f170x5 : List AOper := [
  Fa 16 1 6,
  Ld 17 16,
  Ln 18 0 17,
  Mv 7 18]
def f170x6 : List AOper := [
  Fa 19 0 6,
  Ld 20 19]
def f170x7 : List AOper := [
  Bc 22 .eql 20 2,
  Mv 21 22]
def f170x8 : List AOper := [
  Mc 7 (.int .i64 0)]
def f170x9 : List AOper := [
  Bc 24 .eql 20 64,
  Mv 23 24]
def f170x10 : List AOper := [
  Mc 7 (.int .i64 2)]
def f170x11 : List AOper := [
  Bc 26 .eql 20 65,
  Mv 25 26]
def f170x12 : List AOper := [
  Mc 7 (.int .i64 4)]
def f170x13 : List AOper := [
  Mc 4 (.bool true)]
def f170x14 : List AOper := [
  Fa 28 0 6,
  Ld 29 28,
  Bc 30 .lss 29 1,
  Mv 31 30,
  Gf 31 (Fa 32 0 6),
  Gf 31 (Ld 33 32),
  Gf 31 (Bc 34 .gtr 33 255),
  Po 35 31 34,
  Mv 27 35]
def f170x15 : List AOper := [
  Mc 2 (.int .i64 5)]
def f170x16 : List AOper := [
  Mv 37 5,
  Bc 38 .gtr 37 0,
  Mv 39 38,
  Gt 39 (Fa 40 0 6),
  Gt 39 (Ld 41 40),
  Gt 39 (Fa 42 5 1),
  Gt 39 (Ld 43 42),
  Gt 39 (Mv 44 5),
  Gt 39 (Bc 45 .sub 44 1),
  Af [6] (Gt 39 (Ia 46 2 43 45)),
  Gt 39 (Fa 47 0 46),
  Af [9, 6] (Gt 39 (Ld 48 47)),
  Gt 39 (Bi 49 .leq 41 48),
  Pa 50 39 49,
  Mv 36 50]
def f170x17 : List AOper := [
  Mc 2 (.int .i64 16)]
def f170x18 : List AOper := [
  Fa 52 1 6,
  Ld 53 52,
  Ln 54 0 53,
  Mv 55 7,
  Bi 56 .neq 54 55,
  Mv 51 56]
def f170x19 : List AOper := [
  Mc 2 (.int .i64 1)]
def f170x20 : List AOper := [
  Fa 58 0 6,
  Ld 59 58,
  Bc 60 .eql 59 65,
  Mv 61 60,
  Gt 61 (Fa 62 1 6),
  Af [1] (Gt 61 (Ld 63 62)),
  Af [5, 1] (Gt 61 (Op 64 (.b2s (.t 63)))),
  Gt 61 (Fa 65 2 1),
  Af [1] (Gt 61 (Ld 66 65)),
  Gt 61 (Cv 67 .u64 66),
  Af [8, 1] (Gt 61 (Ca 68 109 [(.c (.con (.slice none 0 0))), (.c (.int .i64 4)), (.t 67)])),
  Af [10, 8, 1] (Gt 61 (Op 69 (.b2s (.t 68)))),
  Gt 61 (Bi 70 .neq 64 69),
  Pa 71 61 70,
  Mv 57 71]
def f170x21 : List AOper := [
  Mc 2 (.int .i64 14)]
def f170x22 : List AOper := [
  Mv 72 3,
  Fa 73 1 6,
  Ld 74 73,
  Ln 75 0 74,
  Op 76 (.bin .add (.c (.int .i64 2)) (.t 75)),
  Bi 77 .add 72 76,
  Mv 3 77]
def f170x23 : List AOper := [
  Bc 78 .add 11 1,
  Mv 11 78]
def f170x24L : ACode := (.seq (.region f170x3 false) (.seq (.cond (.t 12) .skip (.exit 0)) (.seq (.block 1 (.seq (.region f170x4 false) (.seq (.region f170x5 false) (.seq (.seq (.region f170x6 false) (.block 2 (.seq (.region f170x7 false) (.cond (.t 21) (.region f170x8 false) (.seq (.region f170x9 false) (.cond (.t 23) (.region f170x10 false) (.seq (.region f170x11 false) (.cond (.t 25) (.seq (.region f170x12 false) (.region f170x13 false)) .skip)))))))) (.seq (.block 3 (.seq (.region f170x14 false) (.cond (.t 27) (.seq (.region f170x15 false) .ret) (.seq (.region f170x16 true) (.cond (.t 36) (.seq (.region f170x17 false) .ret) (.seq (.region f170x18 false) (.cond (.t 51) (.seq (.region f170x19 false) .ret) (.seq (.region f170x20 true) (.cond (.t 57) (.seq (.region f170x21 false) .ret) .skip))))))))) (.region f170x22 false)))))) (.region f170x23 false))))
def f170x25 : List AOper := [
  Mv 80 3,
  Bc 81 .gtr 80 253,
  Mv 79 81]
def f170x26 : List AOper := [
  Mc 2 (.int .i64 4)]
def f170x27 : List AOper := [
  Fa 83 2 1,
  Ld 84 83,
  Bc 85 .gtr 84 65535,
  Mv 86 85,
  Gt 86 (Mv 87 4),
  Gt 86 (Un 88 .not 87),
  Pa 89 86 88,
  Mv 82 89]
def f170x28 : List AOper := [
  Mc 2 (.int .i64 22)]
def f170x29 : List AOper := [
  Mc 2 (.int .i64 0)]
def f170 : AFunc := ⟨90, 1, false, [.t 2], (.seq (.region f170x0 false) (.seq (.region f170x1 false) (.seq (.seq (.region f170x2 false) (.block 0 (.loop f170x24L))) (.seq (.block 4 (.seq (.region f170x25 false) (.cond (.t 79) (.seq (.region f170x26 false) .ret) (.seq (.region f170x27 false) (.cond (.t 82) (.seq (.region f170x28 false) .ret) .skip))))) (.seq (.region f170x29 false) .ret)))))⟩
def f170x24LH : List AItem := [.inLoop f170x24L, .inBlock 0, .code (.seq (.block 4 (.seq (.region f170x25 false) (.cond (.t 79) (.seq (.region f170x26 false) .ret) (.seq (.region f170x27 false) (.cond (.t 82) (.seq (.region f170x28 false) .ret) .skip))))) (.seq (.region f170x29 false) .ret))]
def f171x0 : List AOper := [
  Mc 2 (.int .i64 0)]
def f171x1 : List AOper := [
  Mv 5 0,
  Ln 6 0 5,
  Mc 7 (.int .i64 0)]
def f171x2 : List AOper := [
  Bi 8 .lss 7 6]
def f171x3 : List AOper := [
  Mv 9 7,
  Ia 10 2 5 7,
  Ls 11 2 10,
  Op 4 (.alloc (.agg [.int .u32 0, .int .i64 0])),
  Mv 3 9,
  St 2 4 11]
def f171x4 : List AOper := [
  Ls 13 2 4,
  Ct 14 178 [13],
  Un 15 .not 14,
  Mv 12 15]
def f171x5 : List AOper := [
  Mc 2 (.int .i64 1)]
def f171x6 : List AOper := [
  Mv 17 3,
  Bc 18 .gtr 17 0,
  Mv 19 18,
  Gt 19 (Ls 20 2 4),
  Gt 19 (Mv 21 0),
  Gt 19 (Mv 22 3),
  Gt 19 (Bc 23 .sub 22 1),
  Gt 19 (Ia 24 2 21 23),
  Af [7] (Gt 19 (Ls 25 2 24)),
  Af [3, 8, 7] (Gt 19 (Ct 26 172 [20, 25])),
  Gt 19 (Bc 27 .leq 26 0),
  Pa 28 19 27,
  Mv 16 28]
def f171x7 : List AOper := [
  Mc 2 (.int .i64 16)]
def f171x8 : List AOper := [
  Bc 29 .add 7 1,
  Mv 7 29]
def f171x9L : ACode := (.seq (.region f171x2 false) (.seq (.cond (.t 8) .skip (.exit 0)) (.seq (.block 1 (.seq (.region f171x3 false) (.block 2 (.seq (.region f171x4 false) (.cond (.t 12) (.seq (.region f171x5 false) .ret) (.seq (.region f171x6 true) (.cond (.t 16) (.seq (.region f171x7 false) .ret) .skip))))))) (.region f171x8 false))))
def f171x10 : List AOper := [
  Mc 2 (.int .i64 0)]
def f171 : AFunc := ⟨30, 1, false, [.t 2], (.seq (.region f171x0 false) (.seq (.seq (.region f171x1 false) (.block 0 (.loop f171x9L))) (.seq (.region f171x10 false) .ret)))⟩
def f171x9LH : List AItem := [.inLoop f171x9L, .inBlock 0, .code (.seq (.region f171x10 false) .ret)]
def f172x0 : List AOper := [
  Op 2 (.box (.t 0)),
  Op 3 (.box (.t 1)),
  Mc 4 (.int .i64 0)]
def f172x1 : List AOper := [
  Fa 6 0 2,
  Ld 7 6,
  Fa 8 0 3,
  Ld 9 8,
  Bi 10 .lss 7 9,
  Mv 11 10,
  Gf 11 (Fa 12 0 2),
  Gf 11 (Ld 13 12),
  Gf 11 (Fa 14 0 3),
  Gf 11 (Ld 15 14),
  Gf 11 (Bi 16 .eql 13 15),
  Gf 11 (Mv 17 16),
  Gt 17 (Fa 18 1 2),
  Gt 17 (Ld 19 18),
  Gt 17 (Fa 20 1 3),
  Gt 17 (Ld 21 20),
  Gt 17 (Bi 22 .lss 19 21),
  Gf 11 (Pa 23 17 22),
  Po 24 11 23,
  Mv 5 24]
def f172x2 : List AOper := [
  Mc 4 (.int .i64 (-1))]
def f172x3 : List AOper := [
  Ls 26 2 2,
  Ls 27 2 3,
  Op 28 (.eqs [.int, .int] false (.t 26) (.t 27)),
  Mv 25 28]
def f172x4 : List AOper := [
  Mc 4 (.int .i64 0)]
def f172x5 : List AOper := [
  Mc 4 (.int .i64 1)]
def f172 : AFunc := ⟨29, 2, false, [.t 4], (.seq (.region f172x0 false) (.seq (.block 0 (.seq (.region f172x1 false) (.cond (.t 5) (.seq (.region f172x2 false) .ret) (.seq (.region f172x3 false) (.cond (.t 25) (.seq (.region f172x4 false) .ret) .skip))))) (.seq (.region f172x5 false) .ret)))⟩
def f173x0 : List AOper := [
  Op 1 (.box (.t 0)),
  Mc 2 (.int .i64 0)]
def f173x1 : List AOper := [
  Mc 3 (.int .i64 0)]
def f173x2 : List AOper := [
  Mc 4 (.bool false)]
def f173x3 : List AOper := [
  Fa 9 5 1,
  Ld 10 9,
  Ln 11 0 10,
  Mc 12 (.int .i64 0)]
def f173x4 : List AOper := [
  Bi 13 .lss 12 11]
def f173x5 : List AOper := [
  Mv 14 12,
  Ia 15 2 10 12,
  Ls 16 2 15,
  Op 6 (.alloc (.agg [.int .i64 0, .con (.slice none 0 0)])),
  Mv 5 14,
  St 2 6 16]
def f173x6 : List AOper := [
  Fa 17 0 6,
  Ld 18 17,
  Bc 19 .lss 18 1,
  Mv 20 19,
  Gf 20 (Fa 21 0 6),
  Gf 20 (Ld 22 21),
  Gf 20 (Bc 23 .gtr 22 255),
  Po 24 20 23]
def f173x7 : List AOper := [
  Mc 2 (.int .i64 5)]
def f173x8 : List AOper := [
  Mv 25 5,
  Bc 26 .gtr 25 0,
  Mv 27 26,
  Gt 27 (Fa 28 0 6),
  Gt 27 (Ld 29 28),
  Gt 27 (Fa 30 5 1),
  Gt 27 (Ld 31 30),
  Gt 27 (Mv 32 5),
  Gt 27 (Bc 33 .sub 32 1),
  Af [6] (Gt 27 (Ia 34 2 31 33)),
  Gt 27 (Fa 35 0 34),
  Af [9, 6] (Gt 27 (Ld 36 35)),
  Gt 27 (Bi 37 .leq 29 36),
  Pa 38 27 37]
def f173x9 : List AOper := [
  Mc 2 (.int .i64 16)]
def f173x10 : List AOper := [
  Fa 39 0 6,
  Ld 40 39,
  Bc 41 .eql 40 2,
  Mv 42 41,
  Gt 42 (Fa 43 1 6),
  Gt 42 (Ld 44 43),
  Gt 42 (Ln 45 0 44),
  Gt 42 (Bc 46 .neq 45 0),
  Pa 47 42 46,
  Mv 48 47,
  Gf 48 (Fa 49 0 6),
  Gf 48 (Ld 50 49),
  Gf 48 (Bc 51 .eql 50 64),
  Gf 48 (Mv 52 51),
  Gt 52 (Fa 53 1 6),
  Gt 52 (Ld 54 53),
  Gt 52 (Ln 55 0 54),
  Gt 52 (Bc 56 .neq 55 2),
  Gf 48 (Pa 57 52 56),
  Po 58 48 57,
  Mv 59 58,
  Gf 59 (Fa 60 0 6),
  Gf 59 (Ld 61 60),
  Gf 59 (Bc 62 .eql 61 65),
  Gf 59 (Mv 63 62),
  Gt 63 (Fa 64 1 6),
  Gt 63 (Ld 65 64),
  Gt 63 (Ln 66 0 65),
  Gt 63 (Bc 67 .neq 66 4),
  Gf 59 (Pa 68 63 67),
  Po 69 59 68]
def f173x11 : List AOper := [
  Mc 2 (.int .i64 1)]
def f173x12 : List AOper := [
  Fa 70 0 6,
  Ld 71 70,
  Bc 72 .eql 71 65]
def f173x13 : List AOper := [
  Mc 4 (.bool true)]
def f173x14 : List AOper := [
  Fa 74 1 6,
  Ld 75 74,
  Ca 76 113 [(.t 75), (.c (.int .i64 0)), (.c (.int .i64 4))],
  Mv 73 76,
  Ex 77 73 0,
  Ex 78 73 1,
  Mv 7 77,
  Mv 8 78]
def f173x15 : List AOper := [
  Mv 79 7,
  Cv 80 .i64 79,
  Fa 81 2 1,
  Ld 82 81,
  Bi 83 .neq 80 82]
def f173x16 : List AOper := [
  Mc 2 (.int .i64 14)]
def f173x17 : List AOper := [
  Mv 84 3,
  Fa 85 1 6,
  Ld 86 85,
  Ln 87 0 86,
  Op 88 (.bin .add (.c (.int .i64 2)) (.t 87)),
  Bi 89 .add 84 88,
  Mv 3 89]
def f173x18 : List AOper := [
  Bc 90 .add 12 1,
  Mv 12 90]
def f173x19L : ACode := (.seq (.region f173x4 false) (.seq (.cond (.t 13) .skip (.exit 0)) (.seq (.block 1 (.seq (.region f173x5 false) (.seq (.seq (.region f173x6 false) (.cond (.t 24) (.seq (.region f173x7 false) .ret) .skip)) (.seq (.seq (.region f173x8 true) (.cond (.t 38) (.seq (.region f173x9 false) .ret) .skip)) (.seq (.seq (.region f173x10 false) (.cond (.t 69) (.seq (.region f173x11 false) .ret) .skip)) (.seq (.seq (.region f173x12 false) (.cond (.t 72) (.seq (.region f173x13 false) (.seq (.region f173x14 false) (.seq (.region f173x15 false) (.cond (.t 83) (.seq (.region f173x16 false) .ret) .skip)))) .skip)) (.region f173x17 false))))))) (.region f173x18 false))))
def f173x20 : List AOper := [
  Mv 91 3,
  Bc 92 .gtr 91 253]
def f173x21 : List AOper := [
  Mc 2 (.int .i64 4)]
def f173x22 : List AOper := [
  Fa 93 2 1,
  Ld 94 93,
  Bc 95 .gtr 94 65535,
  Mv 96 95,
  Gt 96 (Mv 97 4),
  Gt 96 (Un 98 .not 97),
  Pa 99 96 98]
def f173x23 : List AOper := [
  Mc 2 (.int .i64 22)]
def f173x24 : List AOper := [
  Mc 2 (.int .i64 0)]
def f173 : AFunc := ⟨100, 1, false, [.t 2], (.seq (.region f173x0 false) (.seq (.region f173x1 false) (.seq (.region f173x2 false) (.seq (.seq (.region f173x3 false) (.block 0 (.loop f173x19L))) (.seq (.seq (.region f173x20 false) (.cond (.t 92) (.seq (.region f173x21 false) .ret) .skip)) (.seq (.seq (.region f173x22 false) (.cond (.t 99) (.seq (.region f173x23 false) .ret) .skip)) (.seq (.region f173x24 false) .ret)))))))⟩
def f173x19LH : List AItem := [.inLoop f173x19L, .inBlock 0, .code (.seq (.seq (.region f173x20 false) (.cond (.t 92) (.seq (.region f173x21 false) .ret) .skip)) (.seq (.seq (.region f173x22 false) (.cond (.t 99) (.seq (.region f173x23 false) .ret) .skip)) (.seq (.region f173x24 false) .ret)))]
def f174x0 : List AOper := [
  Mc 2 (.int .i64 0)]
def f174x1 : List AOper := [
  Mv 5 0,
  Ln 6 0 5,
  Mc 7 (.int .i64 0)]
def f174x2 : List AOper := [
  Bi 8 .lss 7 6]
def f174x3 : List AOper := [
  Mv 9 7,
  Ia 10 2 5 7,
  Ls 11 2 10,
  Op 4 (.alloc (.agg [.int .u32 0, .int .i64 0])),
  Mv 3 9,
  St 2 4 11]
def f174x4 : List AOper := [
  Ls 12 2 4,
  Ct 13 179 [12],
  Un 14 .not 13]
def f174x5 : List AOper := [
  Mc 2 (.int .i64 1)]
def f174x6 : List AOper := [
  Mv 15 3,
  Bc 16 .gtr 15 0,
  Mv 17 16,
  Gt 17 (Mv 18 0),
  Gt 17 (Mv 19 3),
  Gt 17 (Bc 20 .sub 19 1),
  Gt 17 (Ia 21 2 18 20),
  Af [6] (Gt 17 (Ls 22 2 21)),
  Gt 17 (Ls 23 2 4),
  Af [7, 8, 6] (Gt 17 (Ct 24 180 [22, 23])),
  Gt 17 (Bc 25 .geq 24 0),
  Pa 26 17 25]
def f174x7 : List AOper := [
  Mc 2 (.int .i64 16)]
def f174x8 : List AOper := [
  Bc 27 .add 7 1,
  Mv 7 27]
def f174x9L : ACode := (.seq (.region f174x2 false) (.seq (.cond (.t 8) .skip (.exit 0)) (.seq (.block 1 (.seq (.region f174x3 false) (.seq (.seq (.region f174x4 false) (.cond (.t 14) (.seq (.region f174x5 false) .ret) .skip)) (.seq (.region f174x6 true) (.cond (.t 26) (.seq (.region f174x7 false) .ret) .skip))))) (.region f174x8 false))))
def f174x10 : List AOper := [
  Mc 2 (.int .i64 0)]
def f174 : AFunc := ⟨28, 1, false, [.t 2], (.seq (.region f174x0 false) (.seq (.seq (.region f174x1 false) (.block 0 (.loop f174x9L))) (.seq (.region f174x10 false) .ret)))⟩
def f174x9LH : List AItem := [.inLoop f174x9L, .inBlock 0, .code (.seq (.region f174x10 false) .ret)]
def f175x0 : List AOper := [
  Mc 4 (.bool false)]
def f175x1 : List AOper := [
  Mc 5 (.int .i64 0),
  Mc 6 (.int .i64 0)]
def f175x2 : List AOper := [
  Mv 8 5,
  Mv 9 0,
  Ln 10 0 9,
  Bi 11 .lss 8 10,
  Mv 12 11,
  Gt 12 (Mv 13 6),
  Gt 12 (Mv 14 1),
  Gt 12 (Ln 15 0 14),
  Gt 12 (Bi 16 .lss 13 15),
  Pa 17 12 16]
def f175x3 : List AOper := [
  Mv 18 0,
  Mv 19 5,
  Ia 20 2 18 19,
  Af [2] (Ls 21 2 20),
  Mv 22 1,
  Mv 23 6,
  Ia 24 2 22 23,
  Af [6] (Ls 25 2 24),
  Af [3, 7, 2, 6] (Ct 26 180 [21, 25]),
  Mv 7 26]
def f175x4 : List AOper := [
  Mv 27 7,
  Bc 28 .eql 27 0]
def f175x5 : List AOper := [
  Mc 4 (.bool true)]
def f175x6 : List AOper := [
  Mv 29 7,
  Bc 30 .lss 29 0]
def f175x7 : List AOper := [
  Mv 31 5,
  Bc 32 .add 31 1,
  Mv 5 32]
def f175x8 : List AOper := [
  Mv 33 6,
  Bc 34 .add 33 1,
  Mv 6 34]
def f175x9L : ACode := (.seq (.seq (.region f175x2 false) (.cond (.t 17) .skip (.exit 0))) (.block 1 (.seq (.region f175x3 true) (.seq (.seq (.region f175x4 false) (.cond (.t 28) (.seq (.region f175x5 false) .ret) .skip)) (.seq (.region f175x6 false) (.cond (.t 30) (.region f175x7 false) (.region f175x8 false)))))))
def f175x10 : List AOper := [
  Mc 4 (.bool false)]
def f175 : AFunc := ⟨35, 2, false, [.t 4], (.seq (.region f175x0 false) (.seq (.region f175x1 false) (.seq (.block 0 (.loop f175x9L)) (.seq (.region f175x10 false) .ret))))⟩
def f175x9LH : List AItem := [.inLoop f175x9L, .inBlock 0, .code (.seq (.region f175x10 false) .ret)]
def f80x0 : List AOper := [
  Mc 2 (.int .i64 0)]
def f80x1 : List AOper := [
  Mv 5 0,
  Ln 6 0 5,
  Bc 7 .gtr 6 64]
def f80x2 : List AOper := [
  Mc 2 (.int .i64 4)]
def f80x3 : List AOper := [
  Mv 8 0,
  Ln 9 0 8,
  Mc 10 (.int .i64 0)]
def f80x4 : List AOper := [
  Bi 11 .lss 10 9]
def f80x5 : List AOper := [
  Mv 12 10,
  Mv 3 12]
def f80x6 : List AOper := [
  Mv 13 0,
  Mv 14 3,
  Ct 15 108 [13, 14],
  Mv 4 15]
def f80x7 : List AOper := [
  Mv 16 4,
  Bc 17 .neq 16 0]
def f80x8 : List AOper := [
  Mv 18 4,
  Mv 2 18]
def f80x9 : List AOper := [
  Bc 19 .add 10 1,
  Mv 10 19]
def f80x10L : ACode := (.seq (.region f80x4 false) (.seq (.cond (.t 11) .skip (.exit 0)) (.seq (.block 1 (.seq (.region f80x5 false) (.seq (.region f80x6 false) (.seq (.region f80x7 false) (.cond (.t 17) (.seq (.region f80x8 false) .ret) .skip))))) (.region f80x9 false))))
def f80x11 : List AOper := [
  Mc 2 (.int .i64 0)]
def f80 : AFunc := ⟨20, 1, false, [.t 2], (.seq (.region f80x0 false) (.seq (.seq (.region f80x1 false) (.cond (.t 7) (.seq (.region f80x2 false) .ret) .skip)) (.seq (.seq (.region f80x3 false) (.block 0 (.loop f80x10L))) (.seq (.region f80x11 false) .ret))))⟩
def f80x10LH : List AItem := [.inLoop f80x10L, .inBlock 0, .code (.seq (.region f80x11 false) .ret)]
def f81x0 : List AOper := [
  Mc 2 (.bool false)]
def f81x1 : List AOper := [
  Mv 3 0,
  Bc 4 .geq 3 0,
  Mv 5 4,
  Gt 5 (Mv 6 0),
  Gt 5 (Bc 7 .leq 6 4294967295),
  Pa 8 5 7,
  Mv 2 8]
def f81 : AFunc := ⟨9, 1, false, [.t 2], (.seq (.region f81x0 false) (.seq (.region f81x1 false) .ret))⟩
def f82x0 : List AOper := [
  Mc 2 (.int .i64 0)]
def f82x1 : List AOper := [
  Mv 4 0,
  Ln 5 0 4,
  Bc 6 .gtr 5 255]
def f82x2 : List AOper := [
  Mc 2 (.int .i64 4)]
def f82x3 : List AOper := [
  Mc 3 (.int .i64 1)]
def f82x4 : List AOper := [
  Mv 7 3,
  Mv 8 0,
  Ln 9 0 8,
  Bi 10 .lss 7 9]
def f82x5 : List AOper := [
  Mv 13 0,
  Mv 14 3,
  Ia 15 1 13 14,
  Af [2] (Ld 16 15),
  Mv 17 0,
  Mv 18 3,
  Bc 19 .sub 18 1,
  Ia 20 1 17 19,
  Af [7] (Ld 21 20),
  Bi 22 .leq 16 21]
def f82x6 : List AOper := [
  Mc 2 (.int .i64 16)]
def f82x7 : List AOper := [
  Mv 11 3,
  Bc 12 .add 11 1,
  Mv 3 12]
def f82x8L : ACode := (.seq (.seq (.region f82x4 false) (.cond (.t 10) .skip (.exit 0))) (.seq (.block 1 (.seq (.region f82x5 true) (.cond (.t 22) (.seq (.region f82x6 false) .ret) .skip))) (.region f82x7 false)))
def f82x9 : List AOper := [
  Mc 2 (.int .i64 0)]
def f82 : AFunc := ⟨23, 1, false, [.t 2], (.seq (.region f82x0 false) (.seq (.seq (.region f82x1 false) (.cond (.t 6) (.seq (.region f82x2 false) .ret) .skip)) (.seq (.seq (.region f82x3 false) (.block 0 (.loop f82x8L))) (.seq (.region f82x9 false) .ret))))⟩
def f82x8LH : List AItem := [.inLoop f82x8L, .inBlock 0, .code (.seq (.region f82x9 false) .ret)]
def f102x0 : List AOper := [
  Mc 2 (.int .i64 0)]
def f102x1 : List AOper := [
  Mv 4 0,
  Bc 5 .eql 4 1,
  Mv 6 5,
  Gf 6 (Mv 7 0),
  Gf 6 (Bc 8 .eql 7 2),
  Po 9 6 8,
  Mv 10 9,
  Gf 10 (Mv 11 0),
  Gf 10 (Bc 12 .eql 11 3),
  Po 13 10 12,
  Mv 14 13,
  Gf 14 (Mv 15 0),
  Gf 14 (Bc 16 .eql 15 5),
  Po 17 14 16,
  Mv 18 17,
  Gf 18 (Mv 19 0),
  Gf 18 (Bc 20 .eql 19 6),
  Po 21 18 20,
  Mv 3 21]
def f102x2 : List AOper := [
  Mc 2 (.int .i64 64)]
def f102x3 : List AOper := [
  Mv 23 0,
  Bc 24 .eql 23 4,
  Mv 25 24,
  Gf 25 (Mv 26 0),
  Gf 25 (Bc 27 .eql 26 9),
  Po 28 25 27,
  Mv 29 28,
  Gf 29 (Mv 30 0),
  Gf 29 (Bc 31 .eql 30 10),
  Po 32 29 31,
  Mv 22 32]
def f102x4 : List AOper := [
  Mc 2 (.int .i64 128)]
def f102x5 : List AOper := [
  Mv 34 0,
  Bc 35 .eql 34 7,
  Mv 36 35,
  Gf 36 (Mv 37 0),
  Gf 36 (Bc 38 .eql 37 8),
  Po 39 36 38,
  Mv 33 39]
def f102x6 : List AOper := [
  Mc 2 (.int .i64 192)]
def f102x7 : List AOper := [
  Mc 2 (.int .i64 224)]
def f102 : AFunc := ⟨40, 1, false, [.t 2], (.seq (.region f102x0 false) (.seq (.block 0 (.seq (.region f102x1 false) (.cond (.t 3) (.seq (.region f102x2 false) .ret) (.seq (.region f102x3 false) (.cond (.t 22) (.seq (.region f102x4 false) .ret) (.seq (.region f102x5 false) (.cond (.t 33) (.seq (.region f102x6 false) .ret) .skip))))))) (.seq (.region f102x7 false) .ret)))⟩
def f178x0 : List AOper := [
  Op 1 (.box (.t 0)),
  Mc 2 (.bool false)]
def f178x1 : List AOper := [
  Fa 3 1 1,
  Ld 4 3,
  Bc 5 .geq 4 0,
  Mv 6 5,
  Gt 6 (Fa 7 1 1),
  Af [1] (Gt 6 (Ld 8 7)),
  Gt 6 (Bc 9 .leq 8 32),
  Pa 10 6 9,
  Mv 11 10,
  Gt 11 (Fa 12 0 1),
  Af [5, 1] (Gt 11 (Ld 13 12)),
  Gt 11 (Fa 14 1 1),
  Af [5, 1] (Gt 11 (Ld 15 14)),
  Af [10, 12, 5, 1] (Gt 11 (Ct 16 181 [13, 15])),
  Gt 11 (Fa 17 0 1),
  Af [5, 1] (Gt 11 (Ld 18 17)),
  Gt 11 (Bi 19 .eql 16 18),
  Pa 20 11 19,
  Mv 2 20]
def f178 : AFunc := ⟨21, 1, false, [.t 2], (.seq (.region f178x0 false) (.seq (.region f178x1 true) .ret))⟩
def f93x0 : List AOper := [
  Mc 6 (.int .i64 0)]
def f93x1 : List AOper := [
  Mv 10 0,
  Mv 11 1,
  Mv 12 2,
  Ct 13 110 [10, 11, 12],
  Mv 9 13,
  Ex 14 9 0,
  Ex 15 9 1,
  Mv 7 14,
  Mv 8 15]
def f93x2 : List AOper := [
  Mv 16 7,
  Cv 17 .i64 16,
  Mv 6 17]
def f93 : AFunc := ⟨18, 3, false, [.t 6], (.seq (.region f93x0 false) (.seq (.region f93x1 false) (.seq (.region f93x2 false) .ret)))⟩
def f94x0 : List AOper := [
  Mc 2 (.int .u8 0)]
def f94x1 : List AOper := [
  Mv 3 0,
  Bc 4 .gtr 3 10]
def f94x2 : List AOper := [
  Mc 2 (.int .u8 224)]
def f94x3 : List AOper := [
  Mv 5 0,
  Op 6 (.iarr 11 1 (.c (.rp [.int .u8 224, .int .u8 64, .int .u8 64, .int .u8 64, .int .u8 128, .int .u8 64, .int .u8 64, .int .u8 192, .int .u8 192, .int .u8 128, .int .u8 128])) (.t 5)),
  Ld 7 6,
  Mv 2 7]
def f94 : AFunc := ⟨8, 1, false, [.t 2], (.seq (.region f94x0 false) (.seq (.seq (.region f94x1 false) (.cond (.t 4) (.seq (.region f94x2 false) .ret) .skip)) (.seq (.region f94x3 false) .ret)))⟩
def f95x0 : List AOper := [
  Mc 8 (.bool false)]
def f95x1 : List AOper := [
  Mc 9 (.int .i64 0)]
def f95x2 : List AOper := [
  Mv 11 2,
  Ln 12 0 11,
  Bc 13 .eql 12 4]
def f95x3 : List AOper := [
  Mv 14 2,
  Ca 15 93 [(.t 14), (.c (.int .i64 0)), (.c (.int .i64 4))],
  Mv 9 15]
def f95x4 : List AOper := [
  Mv 16 2,
  Ln 17 0 16,
  Bc 18 .eql 17 4,
  Mv 10 18]
def f95x5 : List AOper := [
  Mv 19 1]
def f95x6 : List AOper := [
  Bc 35 .eql 19 1,
  Mv 34 35]
def f95x7 : List AOper := [
  Mv 36 2,
  Ln 37 0 36,
  Bc 38 .neq 37 1]
def f95x8 : List AOper := [
  Mc 8 (.bool false)]
def f95x9 : List AOper := [
  Mv 39 0,
  Mv 40 2,
  Op 41 (.iadr 1 (.t 40) (.c (.int .i64 0))),
  Ld 42 41,
  Cv 43 .i64 42,
  Nc 44 39,
  Fa 45 0 44,
  St 1 45 43]
def f95x10 : List AOper := [
  Mc 8 (.bool true)]
def f95x11 : List AOper := [
  Bc 47 .eql 19 2,
  Mv 46 47]
def f95x12 : List AOper := [
  Mv 49 0,
  Mv 50 2,
  Mv 51 3,
  Ct 52 111 [50, 51],
  Mv 48 52,
  Ex 53 48 0,
  Ex 54 48 1,
  Nc 55 49,
  Fa 56 1 55,
  St 1 56 53,
  Mv 10 54]
def f95x13 : List AOper := [
  Bc 58 .eql 19 3,
  Mv 57 58]
def f95x14 : List AOper := [
  Mv 59 0,
  Mv 60 9,
  Cv 61 .u32 60,
  Nc 62 59,
  Fa 63 2 62,
  St 1 63 61]
def f95x15 : List AOper := [
  Bc 65 .eql 19 4,
  Mv 64 65]
def f95x16 : List AOper := [
  Mv 66 0,
  Mv 67 0,
  Mv 68 9,
  Nc 69 66,
  Fa 70 3 69,
  ⟨none, .store 1 (.t 70) (.c (.bool true)), none, []⟩,
  Nc 71 67,
  Fa 72 4 71,
  St 1 72 68]
def f95x17 : List AOper := [
  Bc 74 .eql 19 5,
  Mv 73 74]
def f95x18 : List AOper := [
  Mv 75 0,
  Mv 76 0,
  Mv 77 9,
  Nc 78 75,
  Fa 79 5 78,
  ⟨none, .store 1 (.t 79) (.c (.bool true)), none, []⟩,
  Nc 80 76,
  Fa 81 6 80,
  St 1 81 77]
def f95x19 : List AOper := [
  Bc 83 .eql 19 6,
  Mv 82 83]
def f95x20 : List AOper := [
  Mv 84 0,
  Nc 85 84,
  Fa 86 7 85,
  ⟨none, .store 1 (.t 86) (.c (.bool true)), none, []⟩]
def f95x21 : List AOper := [
  Mv 87 2,
  Ln 88 0 87,
  Bc 89 .eql 88 0,
  Mv 8 89]
def f95x22 : List AOper := [
  Bc 91 .eql 19 7,
  Mv 90 91]
def f95x23 : List AOper := [
  Mv 92 2,
  Ln 93 0 92,
  Mv 94 3,
  Bc 95 .add 94 4,
  Bi 96 .neq 93 95]
def f95x24 : List AOper := [
  Mc 8 (.bool false)]
def f95x25 : List AOper := [
  Mv 97 0,
  Mv 98 0,
  Mv 99 0,
  Mv 100 2,
  Mv 101 3,
  Ca 102 93 [(.t 100), (.c (.int .i64 0)), (.t 101)],
  Mv 103 2,
  Mv 104 3,
  Ca 105 93 [(.t 103), (.t 104), (.c (.int .i64 4))],
  Cv 106 .u32 105,
  Nc 107 97,
  Fa 108 8 107,
  ⟨none, .store 1 (.t 108) (.c (.bool true)), none, []⟩,
  Nc 109 98,
  Fa 110 9 109,
  St 1 110 102,
  Nc 111 99,
  Fa 112 10 111,
  St 1 112 106]
def f95x26 : List AOper := [
  Mc 8 (.bool true)]
def f95x27 : List AOper := [
  Bc 114 .eql 19 8,
  Mv 113 114]
def f95x28 : List AOper := [
  Mv 116 0,
  Mv 117 2,
  Ct 118 112 [117],
  Mv 115 118,
  Ex 119 115 0,
  Ex 120 115 1,
  Nc 121 116,
  Fa 122 11 121,
  St 1 122 119,
  Mv 10 120]
def f95x29 : List AOper := [
  Bc 124 .eql 19 9,
  Mv 123 124]
def f95x30 : List AOper := [
  Mv 125 0,
  Mv 126 0,
  Mv 127 9,
  Cv 128 .u32 127,
  Nc 129 125,
  Fa 130 12 129,
  ⟨none, .store 1 (.t 130) (.c (.bool true)), none, []⟩,
  Nc 131 126,
  Fa 132 13 131,
  St 1 132 128]
def f95x31 : List AOper := [
  Bc 134 .eql 19 10,
  Mv 133 134]
def f95x32 : List AOper := [
  Mv 136 0,
  Mv 137 2,
  Ct 138 112 [137],
  Mv 135 138,
  Ex 139 135 0,
  Ex 140 135 1,
  Nc 141 136,
  Fa 142 14 141,
  St 1 142 139,
  Mv 10 140]
def f95x33 : List AOper := [
  Mv 20 0,
  Mv 21 0,
  Nc 22 21,
  Fa 23 15 22,
  Ld 24 23,
  Mv 25 1,
  Op 26 (.bsl 1 [.int .u8 0] 0 [] []),
  Mv 27 2,
  Af [6] (Ap 28 1 1 26 27),
  Op 29 (.build [.int .i64 0, .con (.slice none 0 0)] [(0, 1), (1, 1)] [(.t 25), (.t 28)]),
  Af [8, 6] (Op 30 (.bsl 2 [.int .i64 0, .con (.slice none 0 0)] 1 [0] [(.t 29)])),
  Af [4, 10, 8, 6] (Ap 31 2 32 24 30),
  Nc 32 20,
  Fa 33 15 32,
  Af [11, 4, 10, 8, 6] (St 1 33 31)]
def f95x34 : List AOper := [
  Mc 8 (.bool true)]
def f95x35 : List AOper := [
  Mv 143 10,
  Mv 8 143]
def f95 : AFunc := ⟨144, 4, false, [.t 8], (.seq (.region f95x0 false) (.seq (.region f95x1 false) (.seq (.seq (.region f95x2 false) (.cond (.t 13) (.region f95x3 false) .skip)) (.seq (.region f95x4 false) (.seq (.seq (.region f95x5 false) (.block 0 (.seq (.region f95x6 false) (.cond (.t 34) (.seq (.seq (.region f95x7 false) (.cond (.t 38) (.seq (.region f95x8 false) .ret) .skip)) (.seq (.region f95x9 false) (.seq (.region f95x10 false) .ret))) (.seq (.region f95x11 false) (.cond (.t 46) (.region f95x12 false) (.seq (.region f95x13 false) (.cond (.t 57) (.region f95x14 false) (.seq (.region f95x15 false) (.cond (.t 64) (.region f95x16 false) (.seq (.region f95x17 false) (.cond (.t 73) (.region f95x18 false) (.seq (.region f95x19 false) (.cond (.t 82) (.seq (.region f95x20 false) (.seq (.region f95x21 false) .ret)) (.seq (.region f95x22 false) (.cond (.t 90) (.seq (.seq (.region f95x23 false) (.cond (.t 96) (.seq (.region f95x24 false) .ret) .skip)) (.seq (.region f95x25 false) (.seq (.region f95x26 false) .ret))) (.seq (.region f95x27 false) (.cond (.t 113) (.region f95x28 false) (.seq (.region f95x29 false) (.cond (.t 123) (.region f95x30 false) (.seq (.region f95x31 false) (.cond (.t 133) (.region f95x32 false) (.seq (.region f95x33 true) (.seq (.region f95x34 false) .ret)))))))))))))))))))))))) (.seq (.region f95x35 false) .ret))))))⟩
def f96x0 : List AOper := [
  Mc 2 (.int .i64 0)]
def f96x1 : List AOper := [
  Mv 3 0]
def f96x2 : List AOper := [
  Mc 2 (.int .i64 4)]
def f96x3 : List AOper := [
  Mc 2 (.int .i64 2)]
def f96 : AFunc := ⟨4, 1, false, [.t 2], (.seq (.region f96x0 false) (.seq (.seq (.region f96x1 false) (.cond (.t 3) (.seq (.region f96x2 false) .ret) .skip)) (.seq (.region f96x3 false) .ret)))⟩
def f179x0 : List AOper := [
  Op 1 (.box (.t 0)),
  Mc 2 (.bool false)]
def f179x1 : List AOper := [
  Fa 3 1 1,
  Ld 4 3,
  Bc 5 .geq 4 0,
  Mv 6 5,
  Gt 6 (Fa 7 1 1),
  Af [1] (Gt 6 (Ld 8 7)),
  Gt 6 (Bc 9 .leq 8 32),
  Pa 10 6 9,
  Mv 11 10,
  Gt 11 (Fa 12 0 1),
  Af [5, 1] (Gt 11 (Ld 13 12)),
  Gt 11 (Fa 14 1 1),
  Af [5, 1] (Gt 11 (Ld 15 14)),
  Af [10, 12, 5, 1] (Gt 11 (Ct 16 182 [13, 15])),
  Gt 11 (Fa 17 0 1),
  Af [5, 1] (Gt 11 (Ld 18 17)),
  Gt 11 (Bi 19 .eql 16 18),
  Pa 20 11 19,
  Mv 2 20]
def f179 : AFunc := ⟨21, 1, false, [.t 2], (.seq (.region f179x0 false) (.seq (.region f179x1 true) .ret))⟩
def f100x0 : List AOper := [
  Mc 6 (.int .i64 0)]
def f100x1 : List AOper := [
  Mv 10 0,
  Mv 11 1,
  Mv 12 2,
  Ct 13 113 [10, 11, 12],
  Mv 9 13,
  Ex 14 9 0,
  Ex 15 9 1,
  Mv 7 14,
  Mv 8 15]
def f100x2 : List AOper := [
  Mv 16 7,
  Cv 17 .i64 16,
  Mv 6 17]
def f100 : AFunc := ⟨18, 3, false, [.t 6], (.seq (.region f100x0 false) (.seq (.region f100x1 false) (.seq (.region f100x2 false) .ret)))⟩
def f101x0 : List AOper := [
  Op 4 (.box (.t 0)),
  Op 8 (.alloc (.agg [.int .i64 0, .con (.slice none 0 0), .int .u32 0, .bool false, .int .i64 0, .bool false, .int .i64 0, .bool false, .bool false, .int .i64 0, .int .u32 0, .con (.slice none 0 0), .bool false, .int .u32 0, .con (.slice none 0 0), .con (.slice none 0 0)])),
  Mc 9 (.bool false)]
def f101x1 : List AOper := [
  Mc 10 (.bool true)]
def f101x2 : List AOper := [
  Mv 18 1]
def f101x3 : List AOper := [
  Bc 30 .eql 18 1,
  Mv 29 30]
def f101x4 : List AOper := [
  Mv 31 2,
  Ln 32 0 31,
  Bc 33 .eql 32 1,
  Mv 10 33]
def f101x5 : List AOper := [
  Mv 34 10]
def f101x6 : List AOper := [
  Mv 35 2,
  Op 36 (.iadr 1 (.t 35) (.c (.int .i64 0))),
  Ld 37 36,
  Cv 38 .i64 37,
  Fa 39 0 4,
  St 1 39 38]
def f101x7 : List AOper := [
  Bc 41 .eql 18 2,
  Mv 40 41]
def f101x8 : List AOper := [
  Mv 43 2,
  Mv 44 3,
  Ct 45 114 [43, 44],
  Mv 42 45,
  Ex 46 42 0,
  Ex 47 42 1,
  Mv 11 46,
  Mv 12 47]
def f101x9 : List AOper := [
  Mv 48 11,
  Fa 49 1 4,
  St 1 49 48]
def f101x10 : List AOper := [
  Mv 50 12,
  Mv 10 50]
def f101x11 : List AOper := [
  Bc 52 .eql 18 6,
  Mv 51 52]
def f101x12 : List AOper := [
  Mv 53 2,
  Ln 54 0 53,
  Bc 55 .eql 54 0,
  Mv 10 55]
def f101x13 : List AOper := [
  Fa 56 7 4,
  ⟨none, .store 1 (.t 56) (.c (.bool true)), none, []⟩]
def f101x14 : List AOper := [
  Bc 58 .eql 18 7,
  Mv 57 58]
def f101x15 : List AOper := [
  Mv 59 3,
  Ct 60 92 [59],
  Mv 13 60]
def f101x16 : List AOper := [
  Mv 61 2,
  Ln 62 0 61,
  Mv 63 13,
  Bc 64 .add 63 4,
  Bi 65 .eql 62 64,
  Mv 10 65]
def f101x17 : List AOper := [
  Mv 66 10]
def f101x18 : List AOper := [
  Fa 67 8 4,
  ⟨none, .store 1 (.t 67) (.c (.bool true)), none, []⟩]
def f101x19 : List AOper := [
  Mv 68 2,
  Mv 69 13,
  Ca 70 100 [(.t 68), (.c (.int .i64 0)), (.t 69)],
  Fa 71 9 4,
  St 1 71 70]
def f101x20 : List AOper := [
  Mv 72 2,
  Mv 73 13,
  Ca 74 100 [(.t 72), (.t 73), (.c (.int .i64 4))],
  Cv 75 .u32 74,
  Fa 76 10 4,
  St 1 76 75]
def f101x21 : List AOper := [
  Bc 78 .eql 18 8,
  Mv 77 78]
def f101x22 : List AOper := [
  Mv 80 2,
  Ct 81 115 [80],
  Mv 79 81,
  Ex 82 79 0,
  Ex 83 79 1,
  Mv 14 82,
  Mv 15 83]
def f101x23 : List AOper := [
  Mv 84 14,
  Fa 85 11 4,
  St 1 85 84]
def f101x24 : List AOper := [
  Mv 86 15,
  Mv 10 86]
def f101x25 : List AOper := [
  Bc 88 .eql 18 10,
  Mv 87 88]
def f101x26 : List AOper := [
  Mv 90 2,
  Ct 91 115 [90],
  Mv 89 91,
  Ex 92 89 0,
  Ex 93 89 1,
  Mv 16 92,
  Mv 17 93]
def f101x27 : List AOper := [
  Mv 94 16,
  Fa 95 14 4,
  St 1 95 94]
def f101x28 : List AOper := [
  Mv 96 17,
  Mv 10 96]
def f101x29 : List AOper := [
  Bc 98 .eql 18 3,
  Mv 97 98]
def f101x30 : List AOper := [
  Bc 99 .eql 18 4,
  Mv 97 99]
def f101x31 : List AOper := [
  Bc 100 .eql 18 5,
  Mv 97 100]
def f101x32 : List AOper := [
  Bc 101 .eql 18 9,
  Mv 97 101]
def f101x33 : List AOper := [
  Mv 102 2,
  Ln 103 0 102,
  Bc 104 .eql 103 4,
  Mv 10 104]
def f101x34 : List AOper := [
  Mv 105 10]
def f101x35 : List AOper := [
  Ls 106 16 4,
  Mv 107 1,
  Mv 108 2,
  Ca 109 100 [(.t 108), (.c (.int .i64 0)), (.c (.int .i64 4))],
  Af [0, 3] (Ct 110 116 [106, 107, 109]),
  Af [4, 0, 3] (St 16 4 110)]
def f101x36 : List AOper := [
  Fa 19 15 4,
  Ld 20 19,
  Mv 21 1,
  Op 22 (.bsl 1 [.int .u8 0] 0 [] []),
  Mv 23 2,
  Af [3] (Ap 24 1 1 22 23),
  Op 25 (.build [.int .i64 0, .con (.slice none 0 0)] [(0, 1), (1, 1)] [(.t 21), (.t 24)]),
  Af [5, 3] (Op 26 (.bsl 2 [.int .i64 0, .con (.slice none 0 0)] 1 [0] [(.t 25)])),
  Af [1, 7, 5, 3] (Ap 27 2 32 20 26),
  Fa 28 15 4,
  Af [8, 1, 7, 5, 3] (St 1 28 27)]
def f101x37 : List AOper := [
  Ls 111 16 4,
  Mv 112 10,
  St 16 8 111,
  Mv 9 112]
def f101 : AFunc := ⟨113, 4, true, [.cell 8 (some 16), .t 9], (.seq (.region f101x0 false) (.seq (.region f101x1 false) (.seq (.seq (.region f101x2 false) (.block 0 (.seq (.region f101x3 false) (.cond (.t 29) (.seq (.region f101x4 false) (.seq (.region f101x5 false) (.cond (.t 34) (.region f101x6 false) .skip))) (.seq (.region f101x7 false) (.cond (.t 40) (.seq (.region f101x8 false) (.seq (.region f101x9 false) (.region f101x10 false))) (.seq (.region f101x11 false) (.cond (.t 51) (.seq (.region f101x12 false) (.region f101x13 false)) (.seq (.region f101x14 false) (.cond (.t 57) (.seq (.region f101x15 false) (.seq (.region f101x16 false) (.seq (.region f101x17 false) (.cond (.t 66) (.seq (.region f101x18 false) (.seq (.region f101x19 false) (.region f101x20 false))) .skip)))) (.seq (.region f101x21 false) (.cond (.t 77) (.seq (.region f101x22 false) (.seq (.region f101x23 false) (.region f101x24 false))) (.seq (.region f101x25 false) (.cond (.t 87) (.seq (.region f101x26 false) (.seq (.region f101x27 false) (.region f101x28 false))) (.seq (.seq (.region f101x29 false) (.cond (.t 97) .skip (.seq (.region f101x30 false) (.cond (.t 97) .skip (.seq (.region f101x31 false) (.cond (.t 97) .skip (.region f101x32 false))))))) (.cond (.t 97) (.seq (.region f101x33 false) (.seq (.region f101x34 false) (.cond (.t 105) (.region f101x35 true) .skip))) (.region f101x36 true))))))))))))))))) (.seq (.region f101x37 false) .ret))))⟩
def f73x0 : List AOper := [
  Mc 2 (.int .i64 0)]
def f73x1 : List AOper := [
  Mv 5 0,
  Ln 6 0 5,
  Mc 7 (.int .i64 0)]
def f73x2 : List AOper := [
  Bi 8 .lss 7 6]
def f73x3 : List AOper := [
  Ia 9 1 5 7,
  Ld 10 9,
  Mv 4 10]
def f73x4 : List AOper := [
  Mv 11 4,
  Bc 12 .neq 11 0]
def f73x5 : List AOper := [
  Mv 13 4,
  Mv 2 13]
def f73x6 : List AOper := [
  Bc 14 .add 7 1,
  Mv 7 14]
def f73x7L : ACode := (.seq (.region f73x2 false) (.seq (.cond (.t 8) .skip (.exit 0)) (.seq (.block 1 (.seq (.region f73x3 false) (.seq (.region f73x4 false) (.cond (.t 12) (.seq (.region f73x5 false) .ret) .skip)))) (.region f73x6 false))))
def f73x8 : List AOper := [
  Mc 2 (.int .i64 0)]
def f73 : AFunc := ⟨15, 1, false, [.t 2], (.seq (.region f73x0 false) (.seq (.seq (.region f73x1 false) (.block 0 (.loop f73x7L))) (.seq (.region f73x8 false) .ret)))⟩
def f73x7LH : List AItem := [.inLoop f73x7L, .inBlock 0, .code (.seq (.region f73x8 false) .ret)]
def f74x0 : List AOper := [
  Mc 4 (.int .i64 0)]
def f74x1 : List AOper := [
  Mv 5 0]
def f74x2 : List AOper := [
  Mv 6 1,
  Mv 4 6]
def f74x3 : List AOper := [
  Mc 4 (.int .i64 0)]
def f74 : AFunc := ⟨7, 2, false, [.t 4], (.seq (.region f74x0 false) (.seq (.seq (.region f74x1 false) (.cond (.t 5) (.seq (.region f74x2 false) .ret) .skip)) (.seq (.region f74x3 false) .ret)))⟩
def f75x0 : List AOper := [
  Mc 2 (.int .i64 0)]
def f75x1 : List AOper := [
  Mv 7 0,
  Ln 8 0 7,
  Bc 9 .gtr 8 64]
def f75x2 : List AOper := [
  Mc 2 (.int .i64 4)]
def f75x3 : List AOper := [
  Mc 3 (.bool false)]
def f75x4 : List AOper := [
  Mv 10 0,
  Ln 11 0 10,
  Mc 12 (.int .i64 0)]
def f75x5 : List AOper := [
  Bi 13 .lss 12 11]
def f75x6 : List AOper := [
  Mv 14 12,
  Ia 15 2 10 12,
  Ls 16 2 15,
  Op 5 (.alloc (.agg [.int .i64 0, .con (.slice none 0 0)])),
  Mv 4 14,
  St 2 5 16]
def f75x7 : List AOper := [
  Ls 17 2 5,
  Ct 18 105 [17],
  Mv 6 18]
def f75x8 : List AOper := [
  Mv 19 6,
  Bc 20 .neq 19 0]
def f75x9 : List AOper := [
  Mv 21 6,
  Mv 2 21]
def f75x10 : List AOper := [
  Fa 22 0 5,
  Ld 23 22,
  Ct 24 106 [23],
  Mv 25 24,
  Gt 25 (Mv 26 3),
  Pa 27 25 26]
def f75x11 : List AOper := [
  Mc 2 (.int .i64 1)]
def f75x12 : List AOper := [
  Mv 28 4,
  Bc 29 .gtr 28 0,
  Mv 30 29,
  Gt 30 (Fa 31 0 5),
  Gt 30 (Ld 32 31),
  Gt 30 (Op 33 (.bsl 1 [.int .i64 0] 2 [0, 1] [(.c (.int .i64 2)), (.c (.int .i64 3))])),
  Af [4, 5] (Gt 30 (Ct 34 107 [32, 33])),
  Pa 35 30 34,
  Mv 36 35,
  Gt 36 (Mv 37 0),
  Gt 36 (Mv 38 4),
  Gt 36 (Bc 39 .sub 38 1),
  Af [6, 4, 5] (Gt 36 (Ia 40 2 37 39)),
  Gt 36 (Fa 41 0 40),
  Af [12, 6, 4, 5] (Gt 36 (Ld 42 41)),
  Gt 36 (Fa 43 0 5),
  Af [6, 4, 5] (Gt 36 (Ld 44 43)),
  Gt 36 (Bi 45 .eql 42 44),
  Pa 46 36 45,
  Mv 47 46,
  Gt 47 (Mv 48 0),
  Gt 47 (Mv 49 4),
  Gt 47 (Bc 50 .sub 49 1),
  Af [14, 16, 12, 6, 4, 5] (Gt 47 (Ia 51 2 48 50)),
  Gt 47 (Fa 52 1 51),
  Af [23, 14, 16, 12, 6, 4, 5] (Gt 47 (Ld 53 52)),
  Af [25, 23, 14, 16, 12, 6, 4, 5] (Gt 47 (Ln 54 0 53)),
  Gt 47 (Bc 55 .lss 54 255),
  Pa 56 47 55]
def f75x13 : List AOper := [
  Mc 2 (.int .i64 1)]
def f75x14 : List AOper := [
  Mv 57 3,
  Mv 58 57,
  Gf 58 (Fa 59 0 5),
  Gf 58 (Ld 60 59),
  Gf 58 (Ct 61 106 [60]),
  Gf 58 (Un 62 .not 61),
  Po 63 58 62,
  Mv 3 63]
def f75x15 : List AOper := [
  Bc 64 .add 12 1,
  Mv 12 64]
def f75x16L : ACode := (.seq (.region f75x5 false) (.seq (.cond (.t 13) .skip (.exit 0)) (.seq (.block 1 (.seq (.region f75x6 false) (.seq (.seq (.region f75x7 false) (.seq (.region f75x8 false) (.cond (.t 20) (.seq (.region f75x9 false) .ret) .skip))) (.seq (.seq (.region f75x10 false) (.cond (.t 27) (.seq (.region f75x11 false) .ret) .skip)) (.seq (.seq (.region f75x12 true) (.cond (.t 56) (.seq (.region f75x13 false) .ret) .skip)) (.region f75x14 false)))))) (.region f75x15 false))))
def f75x17 : List AOper := [
  Mc 2 (.int .i64 0)]
def f75 : AFunc := ⟨65, 1, false, [.t 2], (.seq (.region f75x0 false) (.seq (.seq (.region f75x1 false) (.cond (.t 9) (.seq (.region f75x2 false) .ret) .skip)) (.seq (.region f75x3 false) (.seq (.seq (.region f75x4 false) (.block 0 (.loop f75x16L))) (.seq (.region f75x17 false) .ret)))))⟩
def f75x16LH : List AItem := [.inLoop f75x16L, .inBlock 0, .code (.seq (.region f75x17 false) .ret)]
def f76x0 : List AOper := [
  Mc 6 (.int .i64 0)]
def f76x1 : List AOper := [
  Mv 8 0,
  Mv 9 8,
  Gt 9 (Mv 10 1),
  Gt 9 (Mv 11 2),
  Gt 9 (Bi 12 .lss 10 11),
  Gt 9 (Mv 13 12),
  Gf 13 (Mv 14 1),
  Gf 13 (Bc 15 .gtr 14 4294967295),
  Gt 9 (Po 16 13 15),
  Pa 17 9 16,
  Mv 7 17]
def f76x2 : List AOper := [
  Mc 6 (.int .i64 5)]
def f76x3 : List AOper := [
  Mv 19 0,
  Un 20 .not 19,
  Mv 21 20,
  Gt 21 (Mv 22 1),
  Gt 21 (Bc 23 .neq 22 0),
  Pa 24 21 23,
  Mv 18 24]
def f76x4 : List AOper := [
  Mc 6 (.int .i64 1)]
def f76x5 : List AOper := [
  Mc 6 (.int .i64 0)]
def f76 : AFunc := ⟨25, 3, false, [.t 6], (.seq (.region f76x0 false) (.seq (.block 0 (.seq (.region f76x1 false) (.cond (.t 7) (.seq (.region f76x2 false) .ret) (.seq (.region f76x3 false) (.cond (.t 18) (.seq (.region f76x4 false) .ret) .skip))))) (.seq (.region f76x5 false) .ret)))⟩
def f77x0 : List AOper := [
  Mc 2 (.int .i64 0)]
def f77x1 : List AOper := [
  Mv 4 0,
  Ln 5 0 4,
  Bc 6 .gtr 5 255]
def f77x2 : List AOper := [
  Mc 2 (.int .i64 4)]
def f77x3 : List AOper := [
  Mv 7 0,
  Ln 8 0 7,
  Mc 9 (.int .i64 0)]
def f77x4 : List AOper := [
  Bi 10 .lss 9 8]
def f77x5 : List AOper := [
  Mv 11 9,
  Mv 3 11]
def f77x6 : List AOper := [
  Mv 12 3,
  Bc 13 .gtr 12 0,
  Mv 14 13,
  Gt 14 (Mv 15 0),
  Gt 14 (Mv 16 3),
  Gt 14 (Ia 17 1 15 16),
  Af [5] (Gt 14 (Ld 18 17)),
  Gt 14 (Mv 19 0),
  Gt 14 (Mv 20 3),
  Gt 14 (Bc 21 .sub 20 1),
  Gt 14 (Ia 22 1 19 21),
  Af [10] (Gt 14 (Ld 23 22)),
  Gt 14 (Bi 24 .leq 18 23),
  Pa 25 14 24]
def f77x7 : List AOper := [
  Mc 2 (.int .i64 16)]
def f77x8 : List AOper := [
  Bc 26 .add 9 1,
  Mv 9 26]
def f77x9L : ACode := (.seq (.region f77x4 false) (.seq (.cond (.t 10) .skip (.exit 0)) (.seq (.block 1 (.seq (.region f77x5 false) (.seq (.region f77x6 true) (.cond (.t 25) (.seq (.region f77x7 false) .ret) .skip)))) (.region f77x8 false))))
def f77x10 : List AOper := [
  Mc 2 (.int .i64 0)]
def f77 : AFunc := ⟨27, 1, false, [.t 2], (.seq (.region f77x0 false) (.seq (.seq (.region f77x1 false) (.cond (.t 6) (.seq (.region f77x2 false) .ret) .skip)) (.seq (.seq (.region f77x3 false) (.block 0 (.loop f77x9L))) (.seq (.region f77x10 false) .ret))))⟩
def f77x9LH : List AItem := [.inLoop f77x9L, .inBlock 0, .code (.seq (.region f77x10 false) .ret)]
def f78x0 : List AOper := [
  Mc 2 (.int .i64 0)]
def f78x1 : List AOper := [
  Mv 5 0,
  Ln 6 0 5,
  Bc 7 .gtr 6 64]
def f78x2 : List AOper := [
  Mc 2 (.int .i64 4)]
def f78x3 : List AOper := [
  Mv 8 0,
  Ln 9 0 8,
  Mc 10 (.int .i64 0)]
def f78x4 : List AOper := [
  Bi 11 .lss 10 9]
def f78x5 : List AOper := [
  Ia 12 1 8 10,
  Ld 13 12,
  Mv 4 13]
def f78x6 : List AOper := [
  Mv 14 4,
  Op 15 (.bin .eql (.t 14) (.c (.int .u32 0)))]
def f78x7 : List AOper := [
  Mc 2 (.int .i64 1)]
def f78x8 : List AOper := [
  Bc 16 .add 10 1,
  Mv 10 16]
def f78x9L : ACode := (.seq (.region f78x4 false) (.seq (.cond (.t 11) .skip (.exit 0)) (.seq (.block 1 (.seq (.region f78x5 false) (.seq (.region f78x6 false) (.cond (.t 15) (.seq (.region f78x7 false) .ret) .skip)))) (.region f78x8 false))))
def f78x10 : List AOper := [
  Mc 2 (.int .i64 0)]
def f78 : AFunc := ⟨17, 1, false, [.t 2], (.seq (.region f78x0 false) (.seq (.seq (.region f78x1 false) (.cond (.t 7) (.seq (.region f78x2 false) .ret) .skip)) (.seq (.seq (.region f78x3 false) (.block 0 (.loop f78x9L))) (.seq (.region f78x10 false) .ret))))⟩
def f78x9LH : List AItem := [.inLoop f78x9L, .inBlock 0, .code (.seq (.region f78x10 false) .ret)]
def f79x0 : List AOper := [
  Mc 2 (.int .i64 0)]
def f79x1 : List AOper := [
  Mv 5 0,
  Ln 6 0 5,
  Bc 7 .gtr 6 64]
def f79x2 : List AOper := [
  Mc 2 (.int .i64 4)]
def f79x3 : List AOper := [
  Mv 8 0,
  Ln 9 0 8,
  Mc 10 (.int .i64 0)]
def f79x4 : List AOper := [
  Bi 11 .lss 10 9]
def f79x5 : List AOper := [
  Mv 12 10,
  Ia 13 2 8 10,
  Ls 14 2 13,
  Op 4 (.alloc (.agg [.int .i64 0, .con (.slice none 0 0)])),
  Mv 3 12,
  St 2 4 14]
def f79x6 : List AOper := [
  Fa 16 0 4,
  Ld 17 16,
  Bc 18 .leq 17 10,
  Mv 19 18,
  Gf 19 (Fa 20 0 4),
  Gf 19 (Ld 21 20),
  Gf 19 (Bc 22 .gtr 21 255),
  Po 23 19 22,
  Mv 15 23]
def f79x7 : List AOper := [
  Mc 2 (.int .i64 15)]
def f79x8 : List AOper := [
  Mv 25 3,
  Bc 26 .gtr 25 0,
  Mv 27 26,
  Gt 27 (Fa 28 0 4),
  Gt 27 (Ld 29 28),
  Gt 27 (Mv 30 0),
  Gt 27 (Mv 31 3),
  Gt 27 (Bc 32 .sub 31 1),
  Gt 27 (Ia 33 2 30 32),
  Gt 27 (Fa 34 0 33),
  Af [8] (Gt 27 (Ld 35 34)),
  Gt 27 (Bi 36 .leq 29 35),
  Pa 37 27 36,
  Mv 24 37]
def f79x9 : List AOper := [
  Mc 2 (.int .i64 16)]
def f79x10 : List AOper := [
  Fa 39 1 4,
  Ld 40 39,
  Ln 41 0 40,
  Bc 42 .gtr 41 255,
  Mv 38 42]
def f79x11 : List AOper := [
  Mc 2 (.int .i64 4)]
def f79x12 : List AOper := [
  Bc 43 .add 10 1,
  Mv 10 43]
def f79x13L : ACode := (.seq (.region f79x4 false) (.seq (.cond (.t 11) .skip (.exit 0)) (.seq (.block 1 (.seq (.region f79x5 false) (.block 2 (.seq (.region f79x6 false) (.cond (.t 15) (.seq (.region f79x7 false) .ret) (.seq (.region f79x8 true) (.cond (.t 24) (.seq (.region f79x9 false) .ret) (.seq (.region f79x10 false) (.cond (.t 38) (.seq (.region f79x11 false) .ret) .skip))))))))) (.region f79x12 false))))
def f79x14 : List AOper := [
  Mc 2 (.int .i64 0)]
def f79 : AFunc := ⟨44, 1, false, [.t 2], (.seq (.region f79x0 false) (.seq (.seq (.region f79x1 false) (.cond (.t 7) (.seq (.region f79x2 false) .ret) .skip)) (.seq (.seq (.region f79x3 false) (.block 0 (.loop f79x13L))) (.seq (.region f79x14 false) .ret))))⟩
def f79x13LH : List AItem := [.inLoop f79x13L, .inBlock 0, .code (.seq (.region f79x14 false) .ret)]
def f180x0 : List AOper := [
  Op 2 (.box (.t 0)),
  Op 3 (.box (.t 1)),
  Mc 4 (.int .i64 0)]
def f180x1 : List AOper := [
  Fa 5 0 2,
  Ld 6 5,
  Fa 7 0 3,
  Ld 8 7,
  Bi 9 .neq 6 8]
def f180x2 : List AOper := [
  Fa 10 0 2,
  Ld 11 10,
  Fa 12 0 3,
  Ld 13 12,
  Bi 14 .lss 11 13]
def f180x3 : List AOper := [
  Mc 4 (.int .i64 (-1))]
def f180x4 : List AOper := [
  Mc 4 (.int .i64 1)]
def f180x5 : List AOper := [
  Fa 15 1 2,
  Ld 16 15,
  Fa 17 1 3,
  Ld 18 17,
  Bi 19 .lss 16 18]
def f180x6 : List AOper := [
  Mc 4 (.int .i64 (-1))]
def f180x7 : List AOper := [
  Fa 20 1 2,
  Ld 21 20,
  Fa 22 1 3,
  Ld 23 22,
  Bi 24 .gtr 21 23]
def f180x8 : List AOper := [
  Mc 4 (.int .i64 1)]
def f180x9 : List AOper := [
  Mc 4 (.int .i64 0)]
def f180 : AFunc := ⟨25, 2, false, [.t 4], (.seq (.region f180x0 false) (.seq (.seq (.region f180x1 false) (.cond (.t 9) (.seq (.seq (.region f180x2 false) (.cond (.t 14) (.seq (.region f180x3 false) .ret) .skip)) (.seq (.region f180x4 false) .ret)) .skip)) (.seq (.seq (.region f180x5 false) (.cond (.t 19) (.seq (.region f180x6 false) .ret) .skip)) (.seq (.seq (.region f180x7 false) (.cond (.t 24) (.seq (.region f180x8 false) .ret) .skip)) (.seq (.region f180x9 false) .ret)))))⟩
def f108x0 : List AOper := [
  Mc 4 (.int .i64 0)]
def f108x1 : List AOper := [
  Mv 11 0,
  Mv 12 1,
  Ia 13 2 11 12,
  Ls 14 2 13,
  Op 5 (.alloc (.agg [.int .i64 0, .con (.slice none 0 0)])),
  St 2 5 14]
def f108x2 : List AOper := [
  Fa 15 0 5,
  Ld 16 15,
  Bc 17 .lss 16 1,
  Mv 18 17,
  Gf 18 (Fa 19 0 5),
  Gf 18 (Ld 20 19),
  Gf 18 (Bc 21 .gtr 20 4),
  Po 22 18 21]
def f108x3 : List AOper := [
  Mc 4 (.int .i64 15)]
def f108x4 : List AOper := [
  Fa 23 1 5,
  Ld 24 23,
  Ln 25 0 24,
  Bc 26 .eql 25 0]
def f108x5 : List AOper := [
  Mc 4 (.int .i64 1)]
def f108x6 : List AOper := [
  Fa 27 1 5,
  Ld 28 27,
  Ln 29 0 28,
  Bc 30 .gtr 29 255]
def f108x7 : List AOper := [
  Mc 4 (.int .i64 4)]
def f108x8 : List AOper := [
  Fa 31 1 5,
  Ld 32 31,
  Ln 33 0 32,
  Mc 34 (.int .i64 0)]
def f108x9 : List AOper := [
  Bi 35 .lss 34 33]
def f108x10 : List AOper := [
  Ia 36 1 32 34,
  Ld 37 36,
  Mv 7 37]
def f108x11 : List AOper := [
  Mv 38 7,
  Bc 39 .lss 38 1,
  Mv 40 39,
  Gf 40 (Mv 41 7),
  Gf 40 (Bc 42 .gtr 41 4294967295),
  Po 43 40 42]
def f108x12 : List AOper := [
  Mc 4 (.int .i64 5)]
def f108x13 : List AOper := [
  Bc 44 .add 34 1,
  Mv 34 44]
def f108x14L : ACode := (.seq (.region f108x9 false) (.seq (.cond (.t 35) .skip (.exit 0)) (.seq (.block 1 (.seq (.region f108x10 false) (.seq (.region f108x11 false) (.cond (.t 43) (.seq (.region f108x12 false) .ret) .skip)))) (.region f108x13 false))))
def f108x15 : List AOper := [
  Mc 8 (.int .i64 1)]
def f108x16 : List AOper := [
  Mv 45 8,
  Fa 46 1 5,
  Ld 47 46,
  Ln 48 0 47,
  Bi 49 .lss 45 48]
def f108x17 : List AOper := [
  Fa 52 0 5,
  Ld 53 52,
  Af [1] (Ct 54 117 [53]),
  Mv 55 54,
  Gt 55 (Fa 56 1 5),
  Af [2, 1] (Gt 55 (Ld 57 56)),
  Gt 55 (Mv 58 8),
  Af [5, 2, 1] (Gt 55 (Ia 59 1 57 58)),
  Af [7, 5, 2, 1] (Gt 55 (Ld 60 59)),
  Gt 55 (Fa 61 1 5),
  Af [2, 1] (Gt 55 (Ld 62 61)),
  Gt 55 (Mv 63 8),
  Gt 55 (Bc 64 .sub 63 1),
  Af [10, 2, 1] (Gt 55 (Ia 65 1 62 64)),
  Af [13, 10, 2, 1] (Gt 55 (Ld 66 65)),
  Gt 55 (Bi 67 .leq 60 66),
  Pa 68 55 67]
def f108x18 : List AOper := [
  Mc 4 (.int .i64 16)]
def f108x19 : List AOper := [
  Mv 50 8,
  Bc 51 .add 50 1,
  Mv 8 51]
def f108x20L : ACode := (.seq (.seq (.region f108x16 false) (.cond (.t 49) .skip (.exit 2))) (.seq (.block 3 (.seq (.region f108x17 true) (.cond (.t 68) (.seq (.region f108x18 false) .ret) .skip))) (.region f108x19 false)))
def f108x21 : List AOper := [
  Fa 69 0 5,
  Ld 70 69,
  Ct 71 118 [70]]
def f108x22 : List AOper := [
  Mv 72 0,
  Mv 73 1,
  Op 74 (.slc 2 (.t 72) none (some (.t 73)) none),
  Ln 75 0 74,
  Mc 76 (.int .i64 0)]
def f108x23 : List AOper := [
  Bi 77 .lss 76 75]
def f108x24 : List AOper := [
  Ia 78 2 74 76,
  Ls 79 2 78,
  Op 10 (.alloc (.agg [.int .i64 0, .con (.slice none 0 0)])),
  St 2 10 79]
def f108x25 : List AOper := [
  Fa 80 0 10,
  Ld 81 80,
  Ct 82 118 [81],
  Un 83 .not 82]
def f108x26 : List AOper := [
  Mc 4 (.int .i64 1)]
def f108x27 : List AOper := [
  Bc 84 .add 76 1,
  Mv 76 84]
def f108x28L : ACode := (.seq (.region f108x23 false) (.seq (.cond (.t 77) .skip (.exit 4)) (.seq (.block 5 (.seq (.region f108x24 false) (.seq (.region f108x25 false) (.cond (.t 83) (.seq (.region f108x26 false) .ret) .skip)))) (.region f108x27 false))))
def f108x29 : List AOper := [
  Mv 85 1,
  Bc 86 .gtr 85 0,
  Mv 87 86,
  Gt 87 (Fa 88 0 5),
  Gt 87 (Ld 89 88),
  Af [4] (Gt 87 (Ct 90 117 [89])),
  Gt 87 (Un 91 .not 90),
  Pa 92 87 91,
  Mv 93 92,
  Gt 93 (Mv 94 0),
  Gt 93 (Mv 95 1),
  Gt 93 (Bc 96 .sub 95 1),
  Af [5, 4] (Gt 93 (Ia 97 2 94 96)),
  Gt 93 (Fa 98 0 97),
  Af [12, 5, 4] (Gt 93 (Ld 99 98)),
  Gt 93 (Fa 100 0 5),
  Af [5, 4] (Gt 93 (Ld 101 100)),
  Gt 93 (Bi 102 .eql 99 101),
  Pa 103 93 102,
  Mv 104 103,
  Gt 104 (Mv 105 0),
  Gt 104 (Mv 106 1),
  Gt 104 (Bc 107 .sub 106 1),
  Af [14, 16, 12, 5, 4] (Gt 104 (Ia 108 2 105 107)),
  Gt 104 (Fa 109 1 108),
  Af [23, 14, 16, 12, 5, 4] (Gt 104 (Ld 110 109)),
  Af [25, 23, 14, 16, 12, 5, 4] (Gt 104 (Ln 111 0 110)),
  Gt 104 (Bc 112 .lss 111 255),
  Pa 113 104 112]
def f108x30 : List AOper := [
  Mc 4 (.int .i64 1)]
def f108x31 : List AOper := [
  Mc 4 (.int .i64 0)]
def f108 : AFunc := ⟨114, 2, false, [.t 4], (.seq (.region f108x0 false) (.seq (.region f108x1 false) (.seq (.seq (.region f108x2 false) (.cond (.t 22) (.seq (.region f108x3 false) .ret) .skip)) (.seq (.seq (.region f108x4 false) (.cond (.t 26) (.seq (.region f108x5 false) .ret) .skip)) (.seq (.seq (.region f108x6 false) (.cond (.t 30) (.seq (.region f108x7 false) .ret) .skip)) (.seq (.seq (.region f108x8 false) (.block 0 (.loop f108x14L))) (.seq (.seq (.region f108x15 false) (.block 2 (.loop f108x20L))) (.seq (.seq (.region f108x21 false) (.cond (.t 71) (.seq (.region f108x22 false) (.block 4 (.loop f108x28L))) .skip)) (.seq (.seq (.region f108x29 true) (.cond (.t 113) (.seq (.region f108x30 false) .ret) .skip)) (.seq (.region f108x31 false) .ret))))))))))⟩
def f108x14LH : List AItem := [.inLoop f108x14L, .inBlock 0, .code (.seq (.seq (.region f108x15 false) (.block 2 (.loop f108x20L))) (.seq (.seq (.region f108x21 false) (.cond (.t 71) (.seq (.region f108x22 false) (.block 4 (.loop f108x28L))) .skip)) (.seq (.seq (.region f108x29 true) (.cond (.t 113) (.seq (.region f108x30 false) .ret) .skip)) (.seq (.region f108x31 false) .ret))))]
def f108x20LH : List AItem := [.inLoop f108x20L, .inBlock 2, .code (.seq (.seq (.region f108x21 false) (.cond (.t 71) (.seq (.region f108x22 false) (.block 4 (.loop f108x28L))) .skip)) (.seq (.seq (.region f108x29 true) (.cond (.t 113) (.seq (.region f108x30 false) .ret) .skip)) (.seq (.region f108x31 false) .ret)))]
def f108x28LH : List AItem := [.inLoop f108x28L, .inBlock 4, .code (.seq (.seq (.region f108x29 true) (.cond (.t 113) (.seq (.region f108x30 false) .ret) .skip)) (.seq (.region f108x31 false) .ret))]
def f181x0 : List AOper := [
  Mc 4 (.int .u32 0)]
def f181x1 : List AOper := [
  Mv 5 0,
  Mv 6 1,
  Ct 7 183 [6],
  Bi 8 .and 5 7,
  Mv 4 8]
def f181 : AFunc := ⟨9, 2, false, [.t 4], (.seq (.region f181x0 false) (.seq (.region f181x1 false) .ret))⟩
def f111x0 : List AOper := [
  Mc 4 (.con (.slice none 0 0)),
  Mc 5 (.bool false)]
def f111x1 : List AOper := [
  Mc 6 (.con (.slice none 0 0))]
def f111x2 : List AOper := [
  Mv 10 0,
  Ln 11 0 10,
  Bc 12 .gtr 11 0]
def f111x3 : List AOper := [
  Mv 13 0,
  Ln 14 0 13,
  Bc 15 .lss 14 2,
  Mv 16 15,
  Gf 16 (Mv 17 0),
  Gf 16 (Op 18 (.iadr 1 (.t 17) (.c (.int .i64 1)))),
  Gf 16 (Ld 19 18),
  Gf 16 (Op 20 (.bin .eql (.t 19) (.c (.int .u8 0)))),
  Po 21 16 20,
  Mv 22 21,
  Gf 22 (Mv 23 0),
  Gf 22 (Ln 24 0 23),
  Gf 22 (Mv 25 0),
  Gf 22 (Op 26 (.iadr 1 (.t 25) (.c (.int .i64 1)))),
  Gf 22 (Ld 27 26),
  Gf 22 (Cv 28 .i64 27),
  Gf 22 (Mv 29 1),
  Gf 22 (Bi 30 .mul 28 29),
  Gf 22 (Op 31 (.bin .add (.c (.int .i64 2)) (.t 30))),
  Gf 22 (Bi 32 .lss 24 31),
  Po 33 22 32]
def f111x4 : List AOper := [
  Mc 4 (.con (.slice none 0 0)),
  Mc 5 (.bool false)]
def f111x5 : List AOper := [
  Mv 34 0,
  Op 35 (.iadr 1 (.t 34) (.c (.int .i64 0))),
  Ld 36 35,
  Cv 37 .i64 36,
  Op 38 (.build [.int .i64 0, .con (.slice none 0 0)] [(0, 1)] [(.t 37)]),
  Op 7 (.alloc (.agg [.int .i64 0, .con (.slice none 0 0)])),
  St 2 7 38]
def f111x6 : List AOper := [
  Mv 39 0,
  Op 40 (.iadr 1 (.t 39) (.c (.int .i64 1))),
  Ld 41 40,
  Cv 42 .i64 41,
  Mv 8 42]
def f111x7 : List AOper := [
  Mv 43 8,
  Mc 44 (.int .i64 0)]
def f111x8 : List AOper := [
  Bi 45 .lss 44 43]
def f111x9 : List AOper := [
  Mv 46 44,
  Mv 9 46]
def f111x10 : List AOper := [
  Fa 47 1 7,
  Ld 48 47,
  Mv 49 0,
  Mv 50 9,
  Mv 51 1,
  Bi 52 .mul 50 51,
  Op 53 (.bin .add (.c (.int .i64 2)) (.t 52)),
  Mv 54 1,
  Ct 55 93 [49, 53, 54],
  Af [8] (Op 56 (.bsl 1 [.int .i64 0] 1 [0] [(.t 55)])),
  Af [1, 9, 8] (Ap 57 1 8 48 56),
  Fa 58 1 7,
  Af [10, 1, 9, 8] (St 1 58 57)]
def f111x11 : List AOper := [
  Bc 59 .add 44 1,
  Mv 44 59]
def f111x12L : ACode := (.seq (.region f111x8 false) (.seq (.cond (.t 45) .skip (.exit 2)) (.seq (.block 3 (.seq (.region f111x9 false) (.region f111x10 true))) (.region f111x11 false))))
def f111x13 : List AOper := [
  Mv 60 6,
  Ls 61 2 7,
  Op 62 (.bsl 2 [.int .i64 0, .con (.slice none 0 0)] 1 [0] [(.t 61)]),
  Ap 63 2 32 60 62,
  Mv 6 63]
def f111x14 : List AOper := [
  Mv 64 0,
  Mv 65 8,
  Mv 66 1,
  Bi 67 .mul 65 66,
  Op 68 (.bin .add (.c (.int .i64 2)) (.t 67)),
  Op 69 (.slc 1 (.t 64) (some (.t 68)) none none),
  Mv 0 69]
def f111x15L : ACode := (.seq (.seq (.region f111x2 false) (.cond (.t 12) .skip (.exit 0))) (.block 1 (.seq (.seq (.region f111x3 false) (.cond (.t 33) (.seq (.region f111x4 false) .ret) .skip)) (.seq (.region f111x5 false) (.seq (.region f111x6 false) (.seq (.seq (.region f111x7 false) (.block 2 (.loop f111x12L))) (.seq (.region f111x13 false) (.region f111x14 false))))))))
def f111x16 : List AOper := [
  Mv 70 6,
  Mv 4 70,
  Mc 5 (.bool true)]
def f111 : AFunc := ⟨71, 2, false, [.t 4, .t 5], (.seq (.region f111x0 false) (.seq (.region f111x1 false) (.seq (.block 0 (.loop f111x15L)) (.seq (.region f111x16 false) .ret))))⟩
def f112x0 : List AOper := [
  Mc 2 (.con (.slice none 0 0)),
  Mc 3 (.bool false)]
def f112x1 : List AOper := [
  Mc 4 (.con (.slice none 0 0))]
def f112x2 : List AOper := [
  Mc 5 (.int .i64 0)]
def f112x3 : List AOper := [
  Mv 6 5,
  Bc 7 .add 6 4,
  Mv 8 0,
  Ln 9 0 8,
  Bi 10 .leq 7 9]
def f112x4 : List AOper := [
  Mv 13 4,
  Mv 14 0,
  Mv 15 5,
  Ca 16 93 [(.t 14), (.t 15), (.c (.int .i64 4))],
  Cv 17 .u32 16,
  Op 18 (.bsl 1 [.int .u32 0] 1 [0] [(.t 17)]),
  Ap 19 1 4 13 18,
  Mv 4 19]
def f112x5 : List AOper := [
  Mv 11 5,
  Bc 12 .add 11 4,
  Mv 5 12]
def f112x6L : ACode := (.seq (.seq (.region f112x3 false) (.cond (.t 10) .skip (.exit 0))) (.seq (.block 1 (.region f112x4 false)) (.region f112x5 false)))
def f112x7 : List AOper := [
  Mv 20 4,
  Mv 21 0,
  Ln 22 0 21,
  Bc 23 .gtr 22 0,
  Mv 24 23,
  Gt 24 (Mv 25 0),
  Gt 24 (Ln 26 0 25),
  Gt 24 (Bc 27 .rem 26 4),
  Gt 24 (Bc 28 .eql 27 0),
  Pa 29 24 28,
  Mv 2 20,
  Mv 3 29]
def f112 : AFunc := ⟨30, 1, false, [.t 2, .t 3], (.seq (.region f112x0 false) (.seq (.region f112x1 false) (.seq (.seq (.region f112x2 false) (.block 0 (.loop f112x6L))) (.seq (.region f112x7 false) .ret))))⟩
def f182x0 : List AOper := [
  Mc 4 (.int .u32 0)]
def f182x1 : List AOper := [
  Mc 5 (.int .u32 0)]
def f182x2 : List AOper := [
  Mv 7 1,
  Ca 8 184 [(.t 7), (.c (.int .i64 32))],
  Mc 9 (.int .i64 0)]
def f182x3 : List AOper := [
  Bi 10 .lss 9 8]
def f182x4 : List AOper := [
  Mv 11 9,
  Mv 6 11]
def f182x5 : List AOper := [
  Mv 12 5,
  Mv 13 0,
  Mv 14 6,
  Ct 15 185 [13, 14],
  Cv 16 .u32 15,
  Mv 17 6,
  Op 18 (.bin .sub (.c (.int .i64 31)) (.t 17)),
  Cv 19 .u64 18,
  Bi 20 .shl 16 19,
  Bi 21 .or 12 20,
  Mv 5 21]
def f182x6 : List AOper := [
  Bc 22 .add 9 1,
  Mv 9 22]
def f182x7L : ACode := (.seq (.region f182x3 false) (.seq (.cond (.t 10) .skip (.exit 0)) (.seq (.block 1 (.seq (.region f182x4 false) (.region f182x5 false))) (.region f182x6 false))))
def f182x8 : List AOper := [
  Mv 23 5,
  Mv 4 23]
def f182 : AFunc := ⟨24, 2, false, [.t 4], (.seq (.region f182x0 false) (.seq (.region f182x1 false) (.seq (.seq (.region f182x2 false) (.block 0 (.loop f182x7L))) (.seq (.region f182x8 false) .ret))))⟩
def f182x7LH : List AItem := [.inLoop f182x7L, .inBlock 0, .code (.seq (.region f182x8 false) .ret)]
def f114x0 : List AOper := [
  Mc 4 (.con (.slice none 0 0)),
  Mc 5 (.bool false)]
def f114x1 : List AOper := [
  Mc 6 (.con (.slice none 0 0))]
def f114x2 : List AOper := [
  Mc 7 (.int .i64 0)]
def f114x3 : List AOper := [
  Mv 11 7,
  Mv 12 0,
  Ln 13 0 12,
  Bi 14 .lss 11 13]
def f114x4 : List AOper := [
  Mv 15 7,
  Bc 16 .add 15 2,
  Mv 17 0,
  Ln 18 0 17,
  Bi 19 .gtr 16 18]
def f114x5 : List AOper := [
  Mc 4 (.con (.slice none 0 0)),
  Mc 5 (.bool false)]
def f114x6 : List AOper := [
  Mv 20 0,
  Mv 21 7,
  Ia 22 1 20 21,
  Ld 23 22,
  Cv 24 .i64 23,
  Op 25 (.build [.int .i64 0, .con (.slice none 0 0)] [(0, 1)] [(.t 24)]),
  Op 8 (.alloc (.agg [.int .i64 0, .con (.slice none 0 0)])),
  St 2 8 25]
def f114x7 : List AOper := [
  Mv 26 0,
  Mv 27 7,
  Bc 28 .add 27 1,
  Ia 29 1 26 28,
  Af [3] (Ld 30 29),
  Cv 31 .i64 30,
  Mv 32 1,
  Ct 33 92 [32],
  Mv 9 31,
  Mv 10 33]
def f114x8 : List AOper := [
  Mv 34 7,
  Bc 35 .add 34 2,
  Mv 7 35]
def f114x9 : List AOper := [
  Mv 36 9,
  Bc 37 .eql 36 0,
  Mv 38 37,
  Gf 38 (Mv 39 7),
  Gf 38 (Mv 40 9),
  Gf 38 (Mv 41 10),
  Gf 38 (Bi 42 .mul 40 41),
  Gf 38 (Bi 43 .add 39 42),
  Gf 38 (Mv 44 0),
  Gf 38 (Ln 45 0 44),
  Gf 38 (Bi 46 .gtr 43 45),
  Po 47 38 46]
def f114x10 : List AOper := [
  Mc 4 (.con (.slice none 0 0)),
  Mc 5 (.bool false)]
def f114x11 : List AOper := [
  Mv 48 9,
  Mc 49 (.int .i64 0)]
def f114x12 : List AOper := [
  Bi 50 .lss 49 48]
def f114x13 : List AOper := [
  Fa 51 1 8,
  Ld 52 51,
  Mv 53 0,
  Mv 54 7,
  Mv 55 10,
  Ct 56 100 [53, 54, 55],
  Af [5] (Op 57 (.bsl 1 [.int .i64 0] 1 [0] [(.t 56)])),
  Af [1, 6, 5] (Ap 58 1 8 52 57),
  Fa 59 1 8,
  Af [7, 1, 6, 5] (St 1 59 58)]
def f114x14 : List AOper := [
  Mv 60 7,
  Mv 61 10,
  Bi 62 .add 60 61,
  Mv 7 62]
def f114x15 : List AOper := [
  Bc 63 .add 49 1,
  Mv 49 63]
def f114x16L : ACode := (.seq (.region f114x12 false) (.seq (.cond (.t 50) .skip (.exit 2)) (.seq (.block 3 (.seq (.region f114x13 true) (.region f114x14 false))) (.region f114x15 false))))
def f114x17 : List AOper := [
  Mv 64 6,
  Ls 65 2 8,
  Op 66 (.bsl 2 [.int .i64 0, .con (.slice none 0 0)] 1 [0] [(.t 65)]),
  Ap 67 2 32 64 66,
  Mv 6 67]
def f114x18L : ACode := (.seq (.seq (.region f114x3 false) (.cond (.t 14) .skip (.exit 0))) (.block 1 (.seq (.seq (.region f114x4 false) (.cond (.t 19) (.seq (.region f114x5 false) .ret) .skip)) (.seq (.region f114x6 false) (.seq (.region f114x7 true) (.seq (.region f114x8 false) (.seq (.seq (.region f114x9 false) (.cond (.t 47) (.seq (.region f114x10 false) .ret) .skip)) (.seq (.seq (.region f114x11 false) (.block 2 (.loop f114x16L))) (.region f114x17 false)))))))))
def f114x19 : List AOper := [
  Mv 68 6,
  Mv 4 68,
  Mc 5 (.bool true)]
def f114 : AFunc := ⟨69, 2, false, [.t 4, .t 5], (.seq (.region f114x0 false) (.seq (.region f114x1 false) (.seq (.seq (.region f114x2 false) (.block 0 (.loop f114x18L))) (.seq (.region f114x19 false) .ret))))⟩
def f115x0 : List AOper := [
  Mc 2 (.con (.slice none 0 0)),
  Mc 3 (.bool false)]
def f115x1 : List AOper := [
  Mc 4 (.con (.slice none 0 0))]
def f115x2 : List AOper := [
  Mc 5 (.int .i64 0)]
def f115x3 : List AOper := [
  Mv 6 5,
  Bc 7 .add 6 4,
  Mv 8 0,
  Ln 9 0 8,
  Bi 10 .leq 7 9]
def f115x4 : List AOper := [
  Mv 13 4,
  Mv 14 0,
  Mv 15 5,
  Ca 16 100 [(.t 14), (.t 15), (.c (.int .i64 4))],
  Cv 17 .u32 16,
  Op 18 (.bsl 1 [.int .u32 0] 1 [0] [(.t 17)]),
  Ap 19 1 4 13 18,
  Mv 4 19]
def f115x5 : List AOper := [
  Mv 11 5,
  Bc 12 .add 11 4,
  Mv 5 12]
def f115x6L : ACode := (.seq (.seq (.region f115x3 false) (.cond (.t 10) .skip (.exit 0))) (.seq (.block 1 (.region f115x4 false)) (.region f115x5 false)))
def f115x7 : List AOper := [
  Mv 20 4,
  Mv 21 0,
  Ln 22 0 21,
  Bc 23 .gtr 22 0,
  Mv 24 23,
  Gt 24 (Mv 25 0),
  Gt 24 (Ln 26 0 25),
  Gt 24 (Bc 27 .rem 26 4),
  Gt 24 (Bc 28 .eql 27 0),
  Pa 29 24 28,
  Mv 2 20,
  Mv 3 29]
def f115 : AFunc := ⟨30, 1, false, [.t 2, .t 3], (.seq (.region f115x0 false) (.seq (.region f115x1 false) (.seq (.seq (.region f115x2 false) (.block 0 (.loop f115x6L))) (.seq (.region f115x7 false) .ret))))⟩
def f116x0 : List AOper := [
  Op 3 (.box (.t 0)),
  Op 6 (.alloc (.agg [.int .i64 0, .con (.slice none 0 0), .int .u32 0, .bool false, .int .i64 0, .bool false, .int .i64 0, .bool false, .bool false, .int .i64 0, .int .u32 0, .con (.slice none 0 0), .bool false, .int .u32 0, .con (.slice none 0 0), .con (.slice none 0 0)]))]
def f116x1 : List AOper := [
  Mv 7 1]
def f116x2 : List AOper := [
  Bc 13 .eql 7 3,
  Mv 12 13]
def f116x3 : List AOper := [
  Mv 14 2,
  Cv 15 .u32 14,
  Fa 16 2 3,
  St 1 16 15]
def f116x4 : List AOper := [
  Bc 18 .eql 7 4,
  Mv 17 18]
def f116x5 : List AOper := [
  Fa 19 3 3,
  ⟨none, .store 1 (.t 19) (.c (.bool true)), none, []⟩]
def f116x6 : List AOper := [
  Mv 20 2,
  Fa 21 4 3,
  St 1 21 20]
def f116x7 : List AOper := [
  Bc 23 .eql 7 5,
  Mv 22 23]
def f116x8 : List AOper := [
  Fa 24 5 3,
  ⟨none, .store 1 (.t 24) (.c (.bool true)), none, []⟩]
def f116x9 : List AOper := [
  Mv 25 2,
  Fa 26 6 3,
  St 1 26 25]
def f116x10 : List AOper := [
  Fa 8 12 3,
  ⟨none, .store 1 (.t 8) (.c (.bool true)), none, []⟩]
def f116x11 : List AOper := [
  Mv 9 2,
  Cv 10 .u32 9,
  Fa 11 13 3,
  St 1 11 10]
def f116x12 : List AOper := [
  Ls 27 16 3,
  St 16 6 27]
def f116 : AFunc := ⟨28, 3, true, [.cell 6 (some 16)], (.seq (.region f116x0 false) (.seq (.seq (.region f116x1 false) (.block 0 (.seq (.region f116x2 false) (.cond (.t 12) (.region f116x3 false) (.seq (.region f116x4 false) (.cond (.t 17) (.seq (.region f116x5 false) (.region f116x6 false)) (.seq (.region f116x7 false) (.cond (.t 22) (.seq (.region f116x8 false) (.region f116x9 false)) (.seq (.region f116x10 false) (.region f116x11 false)))))))))) (.seq (.region f116x12 false) .ret)))⟩
def f105x0 : List AOper := [
  Op 1 (.box (.t 0)),
  Mc 2 (.int .i64 0)]
def f105x1 : List AOper := [
  Fa 7 0 1,
  Ld 8 7,
  Op 9 (.bsl 1 [.int .i64 0] 4 [0, 1, 2, 3] [(.c (.int .i64 1)), (.c (.int .i64 2)), (.c (.int .i64 3)), (.c (.int .i64 4))]),
  Ct 10 107 [8, 9],
  Un 11 .not 10,
  Mv 6 11]
def f105x2 : List AOper := [
  Mc 2 (.int .i64 15)]
def f105x3 : List AOper := [
  Fa 13 1 1,
  Ld 14 13,
  Ln 15 0 14,
  Bc 16 .eql 15 0,
  Mv 12 16]
def f105x4 : List AOper := [
  Mc 2 (.int .i64 1)]
def f105x5 : List AOper := [
  Fa 18 1 1,
  Ld 19 18,
  Ln 20 0 19,
  Bc 21 .gtr 20 255,
  Mv 17 21]
def f105x6 : List AOper := [
  Mc 2 (.int .i64 4)]
def f105x7 : List AOper := [
  Fa 22 1 1,
  Ld 23 22,
  Ln 24 0 23,
  Mc 25 (.int .i64 0)]
def f105x8 : List AOper := [
  Bi 26 .lss 25 24]
def f105x9 : List AOper := [
  Ia 27 1 23 25,
  Ld 28 27,
  Mv 4 28]
def f105x10 : List AOper := [
  Mv 29 4,
  Bc 30 .lss 29 1,
  Mv 31 30,
  Gf 31 (Mv 32 4),
  Gf 31 (Bc 33 .gtr 32 4294967295),
  Po 34 31 33]
def f105x11 : List AOper := [
  Mc 2 (.int .i64 5)]
def f105x12 : List AOper := [
  Bc 35 .add 25 1,
  Mv 25 35]
def f105x13L : ACode := (.seq (.region f105x8 false) (.seq (.cond (.t 26) .skip (.exit 1)) (.seq (.block 2 (.seq (.region f105x9 false) (.seq (.region f105x10 false) (.cond (.t 34) (.seq (.region f105x11 false) .ret) .skip)))) (.region f105x12 false))))
def f105x14 : List AOper := [
  Fa 36 1 1,
  Ld 37 36,
  Ln 38 0 37,
  Mc 39 (.int .i64 0)]
def f105x15 : List AOper := [
  Bi 40 .lss 39 38]
def f105x16 : List AOper := [
  Mv 41 39,
  Mv 5 41]
def f105x17 : List AOper := [
  Mv 42 5,
  Bc 43 .gtr 42 0,
  Mv 44 43,
  Gt 44 (Fa 45 0 1),
  Gt 44 (Ld 46 45),
  Gt 44 (Op 47 (.bsl 1 [.int .i64 0] 2 [0, 1] [(.c (.int .i64 1)), (.c (.int .i64 4))])),
  Af [4, 5] (Gt 44 (Ct 48 107 [46, 47])),
  Pa 49 44 48,
  Mv 50 49,
  Gt 50 (Fa 51 1 1),
  Af [6, 4, 5] (Gt 50 (Ld 52 51)),
  Gt 50 (Mv 53 5),
  Af [10, 6, 4, 5] (Gt 50 (Ia 54 1 52 53)),
  Af [12, 10, 6, 4, 5] (Gt 50 (Ld 55 54)),
  Gt 50 (Fa 56 1 1),
  Af [6, 4, 5] (Gt 50 (Ld 57 56)),
  Gt 50 (Mv 58 5),
  Gt 50 (Bc 59 .sub 58 1),
  Af [15, 6, 4, 5] (Gt 50 (Ia 60 1 57 59)),
  Af [18, 15, 6, 4, 5] (Gt 50 (Ld 61 60)),
  Gt 50 (Bi 62 .leq 55 61),
  Pa 63 50 62]
def f105x18 : List AOper := [
  Mc 2 (.int .i64 16)]
def f105x19 : List AOper := [
  Bc 64 .add 39 1,
  Mv 39 64]
def f105x20L : ACode := (.seq (.region f105x15 false) (.seq (.cond (.t 40) .skip (.exit 3)) (.seq (.block 4 (.seq (.region f105x16 false) (.seq (.region f105x17 true) (.cond (.t 63) (.seq (.region f105x18 false) .ret) .skip)))) (.region f105x19 false))))
def f105x21 : List AOper := [
  Mc 2 (.int .i64 0)]
def f105 : AFunc := ⟨65, 1, false, [.t 2], (.seq (.region f105x0 false) (.seq (.block 0 (.seq (.region f105x1 false) (.cond (.t 6) (.seq (.region f105x2 false) .ret) (.seq (.region f105x3 false) (.cond (.t 12) (.seq (.region f105x4 false) .ret) (.seq (.region f105x5 false) (.cond (.t 17) (.seq (.region f105x6 false) .ret) .skip))))))) (.seq (.seq (.region f105x7 false) (.block 1 (.loop f105x13L))) (.seq (.seq (.region f105x14 false) (.block 3 (.loop f105x20L))) (.seq (.region f105x21 false) .ret)))))⟩
def f105x13LH : List AItem := [.inLoop f105x13L, .inBlock 1, .code (.seq (.seq (.region f105x14 false) (.block 3 (.loop f105x20L))) (.seq (.region f105x21 false) .ret))]
def f105x20LH : List AItem := [.inLoop f105x20L, .inBlock 3, .code (.seq (.region f105x21 false) .ret)]
def f106x0 : List AOper := [
  Mc 2 (.bool false)]
def f106x1 : List AOper := [
  Mv 3 0,
  Op 4 (.bsl 1 [.int .i64 0] 2 [0, 1] [(.c (.int .i64 3)), (.c (.int .i64 4))]),
  Ct 5 107 [3, 4],
  Mv 2 5]
def f106 : AFunc := ⟨6, 1, false, [.t 2], (.seq (.region f106x0 false) (.seq (.region f106x1 false) .ret))⟩
def f107x0 : List AOper := [
  Mc 4 (.bool false)]
def f107x1 : List AOper := [
  Mv 7 1,
  Ln 8 0 7,
  Mc 9 (.int .i64 0)]
def f107x2 : List AOper := [
  Bi 10 .lss 9 8]
def f107x3 : List AOper := [
  Ia 11 1 7 9,
  Ld 12 11,
  Mv 6 12]
def f107x4 : List AOper := [
  Mv 13 6,
  Mv 14 0,
  Bi 15 .eql 13 14]
def f107x5 : List AOper := [
  Mc 4 (.bool true)]
def f107x6 : List AOper := [
  Bc 16 .add 9 1,
  Mv 9 16]
def f107x7L : ACode := (.seq (.region f107x2 false) (.seq (.cond (.t 10) .skip (.exit 0)) (.seq (.block 1 (.seq (.region f107x3 false) (.seq (.region f107x4 false) (.cond (.t 15) (.seq (.region f107x5 false) .ret) .skip)))) (.region f107x6 false))))
def f107x8 : List AOper := [
  Mc 4 (.bool false)]
def f107 : AFunc := ⟨17, 2, false, [.t 4], (.seq (.region f107x0 false) (.seq (.seq (.region f107x1 false) (.block 0 (.loop f107x7L))) (.seq (.region f107x8 false) .ret)))⟩
def f107x7LH : List AItem := [.inLoop f107x7L, .inBlock 0, .code (.seq (.region f107x8 false) .ret)]
def f117x0 : List AOper := [
  Mc 2 (.bool false)]
def f117x1 : List AOper := [
  Mv 3 0,
  Bc 4 .eql 3 1,
  Mv 5 4,
  Gf 5 (Mv 6 0),
  Gf 5 (Bc 7 .eql 6 4),
  Po 8 5 7,
  Mv 2 8]
def f117 : AFunc := ⟨9, 1, false, [.t 2], (.seq (.region f117x0 false) (.seq (.region f117x1 false) .ret))⟩
def f118x0 : List AOper := [
  Mc 2 (.bool false)]
def f118x1 : List AOper := [
  Mv 3 0,
  Bc 4 .eql 3 3,
  Mv 5 4,
  Gf 5 (Mv 6 0),
  Gf 5 (Bc 7 .eql 6 4),
  Po 8 5 7,
  Mv 2 8]
def f118 : AFunc := ⟨9, 1, false, [.t 2], (.seq (.region f118x0 false) (.seq (.region f118x1 false) .ret))⟩
def f183x0 : List AOper := [
  Mc 2 (.int .u32 0)]
def f183x1 : List AOper := [
  Mv 3 0,
  Ca 4 186 [(.t 3), (.c (.int .i64 32))],
  Op 5 (.bin .sub (.c (.int .i64 32)) (.t 4)),
  Op 6 (.bin .shl (.c (.int .u32 4294967295)) (.t 5)),
  Mv 2 6]
def f183 : AFunc := ⟨7, 1, false, [.t 2], (.seq (.region f183x0 false) (.seq (.region f183x1 false) .ret))⟩
def f184x0 : List AOper := [
  Mc 4 (.int .i64 0)]
def f184x1 : List AOper := [
  Mv 5 0,
  Op 6 (.minmax true [(.t 5), (.c (.int .i64 0))]),
  Mv 7 1,
  Op 8 (.minmax false [(.t 6), (.t 7)]),
  Mv 4 8]
def f184 : AFunc := ⟨9, 2, false, [.t 4], (.seq (.region f184x0 false) (.seq (.region f184x1 false) .ret))⟩
def f185x0 : List AOper := [
  Mc 4 (.int .i64 0)]
def f185x1 : List AOper := [
  Mv 5 1,
  Bc 6 .lss 5 0,
  Mv 7 6,
  Gf 7 (Mv 8 1),
  Gf 7 (Bc 9 .gtr 8 31),
  Po 10 7 9]
def f185x2 : List AOper := [
  Mc 4 (.int .i64 0)]
def f185x3 : List AOper := [
  Mv 11 0,
  Mv 12 1,
  Op 13 (.bin .sub (.c (.int .i64 31)) (.t 12)),
  Cv 14 .u64 13,
  Bi 15 .shr 11 14,
  Op 16 (.bin .and (.t 15) (.c (.int .u32 1))),
  Cv 17 .i64 16,
  Mv 4 17]
def f185 : AFunc := ⟨18, 2, false, [.t 4], (.seq (.region f185x0 false) (.seq (.seq (.region f185x1 false) (.cond (.t 10) (.seq (.region f185x2 false) .ret) .skip)) (.seq (.region f185x3 false) .ret)))⟩
def f186x0 : List AOper := [
  Mc 4 (.int .i64 0)]
def f186x1 : List AOper := [
  Mv 5 0,
  Op 6 (.minmax true [(.t 5), (.c (.int .i64 0))]),
  Mv 7 1,
  Op 8 (.minmax false [(.t 6), (.t 7)]),
  Mv 4 8]
def f186 : AFunc := ⟨9, 2, false, [.t 4], (.seq (.region f186x0 false) (.seq (.region f186x1 false) .ret))⟩
end Go.AM.IR
namespace Go.AM.IR
def G (f : Nat) : Fun := bif Nat.blt f 139 then (bif Nat.blt f 92 then (bif Nat.blt f 76 then (bif Nat.blt f 68 then (bif Nat.blt f 57 then (bif Nat.blt f 26 then (bif Nat.beq f 21 then .code f21 else .none) else (bif Nat.blt f 54 then (bif Nat.beq f 26 then .code f26 else .none) else (bif Nat.beq f 54 then .code f54 else .none))) else (bif Nat.blt f 66 then (bif Nat.blt f 65 then (bif Nat.beq f 57 then .code f57 else .none) else (bif Nat.beq f 65 then .code f65 else .none)) else (bif Nat.blt f 67 then (bif Nat.beq f 66 then .code f66 else .none) else (bif Nat.beq f 67 then .code f67 else .none)))) else (bif Nat.blt f 72 then (bif Nat.blt f 70 then (bif Nat.blt f 69 then (bif Nat.beq f 68 then .code f68 else .none) else (bif Nat.beq f 69 then .code f69 else .none)) else (bif Nat.blt f 71 then (bif Nat.beq f 70 then .code f70 else .none) else (bif Nat.beq f 71 then .code f71 else .none))) else (bif Nat.blt f 74 then (bif Nat.blt f 73 then (bif Nat.beq f 72 then .code f72 else .none) else (bif Nat.beq f 73 then .code f73 else .none)) else (bif Nat.blt f 75 then (bif Nat.beq f 74 then .code f74 else .none) else (bif Nat.beq f 75 then .code f75 else .none))))) else (bif Nat.blt f 84 then (bif Nat.blt f 80 then (bif Nat.blt f 78 then (bif Nat.blt f 77 then (bif Nat.beq f 76 then .code f76 else .none) else (bif Nat.beq f 77 then .code f77 else .none)) else (bif Nat.blt f 79 then (bif Nat.beq f 78 then .code f78 else .none) else (bif Nat.beq f 79 then .code f79 else .none))) else (bif Nat.blt f 82 then (bif Nat.blt f 81 then (bif Nat.beq f 80 then .code f80 else .none) else (bif Nat.beq f 81 then .code f81 else .none)) else (bif Nat.blt f 83 then (bif Nat.beq f 82 then .code f82 else .none) else (bif Nat.beq f 83 then .code f83 else .none)))) else (bif Nat.blt f 88 then (bif Nat.blt f 86 then (bif Nat.blt f 85 then (bif Nat.beq f 84 then .code f84 else .none) else (bif Nat.beq f 85 then .code f85 else .none)) else (bif Nat.blt f 87 then (bif Nat.beq f 86 then .code f86 else .none) else (bif Nat.beq f 87 then .code f87 else .none))) else (bif Nat.blt f 90 then (bif Nat.blt f 89 then (bif Nat.beq f 88 then .code f88 else .none) else (bif Nat.beq f 89 then .code f89 else .none)) else (bif Nat.blt f 91 then (bif Nat.beq f 90 then .code f90 else .none) else (bif Nat.beq f 91 then .code f91 else .none)))))) else (bif Nat.blt f 108 then (bif Nat.blt f 100 then (bif Nat.blt f 96 then (bif Nat.blt f 94 then (bif Nat.blt f 93 then (bif Nat.beq f 92 then .code f92 else .none) else (bif Nat.beq f 93 then .code f93 else .none)) else (bif Nat.blt f 95 then (bif Nat.beq f 94 then .code f94 else .none) else (bif Nat.beq f 95 then .code f95 else .none))) else (bif Nat.blt f 98 then (bif Nat.blt f 97 then (bif Nat.beq f 96 then .code f96 else .none) else (bif Nat.beq f 97 then .code f97 else .none)) else (bif Nat.blt f 99 then (bif Nat.beq f 98 then .code f98 else .none) else (bif Nat.beq f 99 then .code f99 else .none)))) else (bif Nat.blt f 104 then (bif Nat.blt f 102 then (bif Nat.blt f 101 then (bif Nat.beq f 100 then .code f100 else .none) else (bif Nat.beq f 101 then .code f101 else .none)) else (bif Nat.blt f 103 then (bif Nat.beq f 102 then .code f102 else .none) else (bif Nat.beq f 103 then .code f103 else .none))) else (bif Nat.blt f 106 then (bif Nat.blt f 105 then (bif Nat.beq f 104 then .code f104 else .none) else (bif Nat.beq f 105 then .code f105 else .none)) else (bif Nat.blt f 107 then (bif Nat.beq f 106 then .code f106 else .none) else (bif Nat.beq f 107 then .code f107 else .none))))) else (bif Nat.blt f 116 then (bif Nat.blt f 112 then (bif Nat.blt f 110 then (bif Nat.blt f 109 then (bif Nat.beq f 108 then .code f108 else .none) else (bif Nat.beq f 109 then .code f109 else .none)) else (bif Nat.blt f 111 then (bif Nat.beq f 110 then .code f110 else .none) else (bif Nat.beq f 111 then .code f111 else .none))) else (bif Nat.blt f 114 then (bif Nat.blt f 113 then (bif Nat.beq f 112 then .code f112 else .none) else (bif Nat.beq f 113 then .code f113 else .none)) else (bif Nat.blt f 115 then (bif Nat.beq f 114 then .code f114 else .none) else (bif Nat.beq f 115 then .code f115 else .none)))) else (bif Nat.blt f 120 then (bif Nat.blt f 118 then (bif Nat.blt f 117 then (bif Nat.beq f 116 then .code f116 else .none) else (bif Nat.beq f 117 then .code f117 else .none)) else (bif Nat.blt f 119 then (bif Nat.beq f 118 then .code f118 else .none) else (bif Nat.beq f 119 then .code f119 else .none))) else (bif Nat.blt f 130 then (bif Nat.blt f 126 then (bif Nat.beq f 120 then .code f120 else .none) else (bif Nat.beq f 126 then .code f126 else .none)) else (bif Nat.blt f 138 then (bif Nat.beq f 130 then .code f130 else .none) else (bif Nat.beq f 138 then .code f138 else .none))))))) else (bif Nat.blt f 198 then (bif Nat.blt f 175 then (bif Nat.blt f 161 then (bif Nat.blt f 157 then (bif Nat.blt f 148 then (bif Nat.blt f 144 then (bif Nat.beq f 139 then .code f139 else .none) else (bif Nat.beq f 144 then .code f144 else .none)) else (bif Nat.blt f 156 then (bif Nat.beq f 148 then .code f148 else .none) else (bif Nat.beq f 156 then .code f156 else .none))) else (bif Nat.blt f 159 then (bif Nat.blt f 158 then (bif Nat.beq f 157 then .code f157 else .none) else (bif Nat.beq f 158 then .code f158 else .none)) else (bif Nat.blt f 160 then (bif Nat.beq f 159 then .code f159 else .none) else (bif Nat.beq f 160 then .code f160 else .none)))) else (bif Nat.blt f 171 then (bif Nat.blt f 169 then (bif Nat.blt f 162 then (bif Nat.beq f 161 then .code f161 else .none) else (bif Nat.beq f 162 then .code f162 else .none)) else (bif Nat.blt f 170 then (bif Nat.beq f 169 then .code f169 else .none) else (bif Nat.beq f 170 then .code f170 else .none))) else (bif Nat.blt f 173 then (bif Nat.blt f 172 then (bif Nat.beq f 171 then .code f171 else .none) else (bif Nat.beq f 172 then .code f172 else .none)) else (bif Nat.blt f 174 then (bif Nat.beq f 173 then .code f173 else .none) else (bif Nat.beq f 174 then .code f174 else .none))))) else (bif Nat.blt f 185 then (bif Nat.blt f 181 then (bif Nat.blt f 179 then (bif Nat.blt f 178 then (bif Nat.beq f 175 then .code f175 else .none) else (bif Nat.beq f 178 then .code f178 else .none)) else (bif Nat.blt f 180 then (bif Nat.beq f 179 then .code f179 else .none) else (bif Nat.beq f 180 then .code f180 else .none))) else (bif Nat.blt f 183 then (bif Nat.blt f 182 then (bif Nat.beq f 181 then .code f181 else .none) else (bif Nat.beq f 182 then .code f182 else .none)) else (bif Nat.blt f 184 then (bif Nat.beq f 183 then .code f183 else .none) else (bif Nat.beq f 184 then .code f184 else .none)))) else (bif Nat.blt f 194 then (bif Nat.blt f 192 then (bif Nat.blt f 186 then (bif Nat.beq f 185 then .code f185 else .none) else (bif Nat.beq f 186 then .code f186 else .none)) else (bif Nat.blt f 193 then (bif Nat.beq f 192 then .code f192 else .none) else (bif Nat.beq f 193 then .code f193 else .none))) else (bif Nat.blt f 196 then (bif Nat.blt f 195 then (bif Nat.beq f 194 then .code f194 else .none) else (bif Nat.beq f 195 then .code f195 else .none)) else (bif Nat.blt f 197 then (bif Nat.beq f 196 then .code f196 else .none) else (bif Nat.beq f 197 then .code f197 else .none)))))) else (bif Nat.blt f 353 then (bif Nat.blt f 206 then (bif Nat.blt f 202 then (bif Nat.blt f 200 then (bif Nat.blt f 199 then (bif Nat.beq f 198 then .code f198 else .none) else (bif Nat.beq f 199 then .code f199 else .none)) else (bif Nat.blt f 201 then (bif Nat.beq f 200 then .code f200 else .none) else (bif Nat.beq f 201 then .code f201 else .none))) else (bif Nat.blt f 204 then (bif Nat.blt f 203 then (bif Nat.beq f 202 then .code f202 else .none) else (bif Nat.beq f 203 then .code f203 else .none)) else (bif Nat.blt f 205 then (bif Nat.beq f 204 then .code f204 else .none) else (bif Nat.beq f 205 then .code f205 else .none)))) else (bif Nat.blt f 210 then (bif Nat.blt f 208 then (bif Nat.blt f 207 then (bif Nat.beq f 206 then .code f206 else .none) else (bif Nat.beq f 207 then .code f207 else .none)) else (bif Nat.blt f 209 then (bif Nat.beq f 208 then .code f208 else .none) else (bif Nat.beq f 209 then .code f209 else .none))) else (bif Nat.blt f 351 then (bif Nat.blt f 350 then (bif Nat.beq f 210 then .code f210 else .none) else (bif Nat.beq f 350 then .code f350 else .none)) else (bif Nat.blt f 352 then (bif Nat.beq f 351 then .code f351 else .none) else (bif Nat.beq f 352 then .code f352 else .none))))) else (bif Nat.blt f 361 then (bif Nat.blt f 357 then (bif Nat.blt f 355 then (bif Nat.blt f 354 then (bif Nat.beq f 353 then .code f353 else .none) else (bif Nat.beq f 354 then .code f354 else .none)) else (bif Nat.blt f 356 then (bif Nat.beq f 355 then .code f355 else .none) else (bif Nat.beq f 356 then .code f356 else .none))) else (bif Nat.blt f 359 then (bif Nat.blt f 358 then (bif Nat.beq f 357 then .code f357 else .none) else (bif Nat.beq f 358 then .code f358 else .none)) else (bif Nat.blt f 360 then (bif Nat.beq f 359 then .code f359 else .none) else (bif Nat.beq f 360 then .code f360 else .none)))) else (bif Nat.blt f 365 then (bif Nat.blt f 363 then (bif Nat.blt f 362 then (bif Nat.beq f 361 then .code f361 else .none) else (bif Nat.beq f 362 then .code f362 else .none)) else (bif Nat.blt f 364 then (bif Nat.beq f 363 then .code f363 else .none) else (bif Nat.beq f 364 then .code f364 else .none))) else (bif Nat.blt f 367 then (bif Nat.blt f 366 then (bif Nat.beq f 365 then .code f365 else .none) else (bif Nat.beq f 366 then .code f366 else .none)) else (bif Nat.blt f 368 then (bif Nat.beq f 367 then .code f367 else .none) else (bif Nat.beq f 368 then .code f368 else .none)))))))
end Go.AM.IR
namespace Go.AM.IR
def encI (x : Int) : List AV := [.int .i64 x]
def encU (x : Int) : List AV := [.int .u32 x]
structure Seg where
  kind : Int
  as : List Int
def Seg.enc (s : Seg) : List AV := [.int .i64 s.kind, .sl 1 (s.as.map encI)]
structure TLV where
  kind : Int
  value : List UInt8
def TLV.enc (s : TLV) : List AV := [.int .i64 s.kind, .sl 1 (byteCells s.value)]
structure Attrs where
  origin : Int
  path : List Seg
  nextHop : Int
  hasMED : Bool
  med : Int
  hasPref : Bool
  pref : Int
  atomic : Bool
  hasAggr : Bool
  aggrAS : Int
  aggrAddr : Int
  comms : List Int
  hasOrig : Bool
  orig : Int
  clusters : List Int
  unknown : List TLV
def Attrs.enc (a : Attrs) : List AV := [.int .i64 a.origin, .sl 2 (a.path.map Seg.enc), .int .u32 a.nextHop, .bool a.hasMED, .int .i64 a.med, .bool a.hasPref, .int .i64 a.pref, .bool a.atomic, .bool a.hasAggr, .int .i64 a.aggrAS, .int .u32 a.aggrAddr,
  .sl 1 (a.comms.map encU), .bool a.hasOrig, .int .u32 a.orig, .sl 1 (a.clusters.map encU), .sl 2 (a.unknown.map TLV.enc)]
structure PVRoute where
  paddr : Int
  plen : Int
  attrs : Attrs
  peer : Int
  kind : Int
  router : Int
  stale : Bool
def PVRoute.enc (r : PVRoute) : List AV := [.int .u32 r.paddr, .int .i64 r.plen,
  .int .i64 r.attrs.origin, .sl 2 (r.attrs.path.map Seg.enc), .int .u32 r.attrs.nextHop, .bool r.attrs.hasMED, .int .i64 r.attrs.med, .bool r.attrs.hasPref, .int .i64 r.attrs.pref, .bool r.attrs.atomic, .bool r.attrs.hasAggr, .int .i64 r.attrs.aggrAS, .int .u32 r.attrs.aggrAddr,
  .sl 1 (r.attrs.comms.map encU), .bool r.attrs.hasOrig, .int .u32 r.attrs.orig, .sl 1 (r.attrs.clusters.map encU), .sl 2 (r.attrs.unknown.map TLV.enc),
  .int .i64 r.peer, .int .i64 r.kind, .int .u32 r.router, .bool r.stale]
structure IGP where
  addr : Int
  cost : Int
def IGP.enc (c : IGP) : List AV := [.int .u32 c.addr, .int .i64 c.cost]
theorem pureLL_map {α : Type} {f : α → List AV} (h : ∀ x, pureL (f x) = true) : ∀ l : List α, pureLL (l.map f) = true
  | [] => rfl
  | x :: r => by simp only [List.map_cons, pureLL, h x, pureLL_map h r, Bool.and_self]
theorem pureLL_bytes : ∀ l : List UInt8, pureLL (byteCells l) = true := fun l => pureLL_map (f := fun b : UInt8 => [AV.int .u8 (b.toNat : Int)]) (fun _ => rfl) l
@[simp] theorem pure_encI (l : List Int) : pureLL (l.map encI) = true := pureLL_map (fun _ => rfl) l
@[simp] theorem pure_encU (l : List Int) : pureLL (l.map encU) = true := pureLL_map (fun _ => rfl) l
theorem Seg.pure (s : Seg) : pureL s.enc = true := by simp [Seg.enc, pureL, AV.pure]
@[simp] theorem pure_segs (l : List Seg) : pureLL (l.map Seg.enc) = true := pureLL_map Seg.pure l
theorem TLV.pure (s : TLV) : pureL s.enc = true := by simp [TLV.enc, pureL, AV.pure, pureLL_bytes]
@[simp] theorem pure_tlvs (l : List TLV) : pureLL (l.map TLV.enc) = true := pureLL_map TLV.pure l
@[simp] theorem Attrs.pure (s : Attrs) : pureL s.enc = true := by simp [Attrs.enc, pureL, AV.pure]
@[simp] theorem PVRoute.pure (s : PVRoute) : pureL s.enc = true := by simp [PVRoute.enc, pureL, AV.pure]
@[simp] theorem pure_routes (l : List PVRoute) : pureLL (l.map PVRoute.enc) = true := pureLL_map PVRoute.pure l
@[simp] theorem pure_igps (l : List IGP) : pureLL (l.map IGP.enc) = true := pureLL_map (fun _ => rfl) l
end Go.AM.IR
namespace Go.AM.IR
theorem lift_enc {α : Type} {e : List AV → Prop} {enc : α → List AV} {Q : α → Prop} (h : ∀ x, e x → ∃ a, x = enc a ∧ Q a) : ∀ es : List (List AV), (∀ x ∈ es, e x) → ∃ l : List α, es = l.map enc ∧ ∀ a ∈ l, Q a
  | [], _ => ⟨[], rfl, by simp⟩
  | x :: r, hx => by
    obtain ⟨a, rfl, ha⟩ := h x (hx x (by simp))
    obtain ⟨l, rfl, hl⟩ := lift_enc h r fun y hy => hx y (by simp [hy])
    exact ⟨a :: l, rfl, by simpa using ⟨ha, hl⟩⟩
def okI (x : Int) : Prop := -9223372036854775808 ≤ x ∧ x ≤ 9223372036854775807
def okU (x : Int) : Prop := 0 ≤ x ∧ x ≤ 4294967295
theorem T_i64 {as : List AV} (h : Ty.T (.int .i64) as) : ∃ x, as = encI x ∧ okI x := by
  obtain ⟨n, rfl, h1, h2⟩ := h
  exact ⟨n, rfl, by simpa [IntKind.min, IntKind.max, IntKind.signed, IntKind.bits, okI] using And.intro h1 h2⟩
theorem T_u32 {as : List AV} (h : Ty.T (.int .u32) as) : ∃ x, as = encU x ∧ okU x := by
  obtain ⟨n, rfl, h1, h2⟩ := h
  exact ⟨n, rfl, by simpa [IntKind.min, IntKind.max, IntKind.signed, IntKind.bits, okU] using And.intro h1 h2⟩
theorem T_u8 {as : List AV} (h : Ty.T (.int .u8) as) : ∃ b : UInt8, as = [.int .u8 b.toNat] ∧ True := by
  obtain ⟨n, rfl, h1, h2⟩ := h
  have h1 : 0 ≤ n := by simpa [IntKind.min, IntKind.signed] using h1
  have h2 : n ≤ 255 := by simpa [IntKind.max, IntKind.signed, IntKind.bits] using h2
  refine ⟨UInt8.ofNat n.toNat, ?_, trivial⟩
  have : ((UInt8.ofNat n.toNat).toNat : Int) = n := by simp; omega
  rw [this]
theorem T_sl {α : Type} {τ : Ty} {enc : α → List AV} {Q : α → Prop} (h : ∀ x, τ.T x → ∃ a, x = enc a ∧ Q a) {as : List AV} (hs : Ty.T (.sl τ) as) : ∃ l : List α, as = [.sl τ.cells (l.map enc)] ∧ ∀ a ∈ l, Q a := by
  obtain ⟨es, rfl, h1, _⟩ := hs
  obtain ⟨l, rfl, h2⟩ := lift_enc h es h1
  exact ⟨l, rfl, h2⟩
theorem T_bytes {as : List AV} (hs : Ty.T (.sl (.int .u8)) as) : ∃ l : List UInt8, as = [.sl 1 (byteCells l)] := by
  obtain ⟨l, rfl, _⟩ := T_sl (fun x => T_u8) hs
  exact ⟨l, rfl⟩
def tSeg : Ty := .st [.int .i64, .sl (.int .i64)]
def tTLV : Ty := .st [.int .i64, .sl (.int .u8)]
def tAttrs : Ty := .st [.int .i64, .sl tSeg, .int .u32, .bool, .int .i64, .bool, .int .i64, .bool, .bool, .int .i64, .int .u32, .sl (.int .u32), .bool, .int .u32, .sl (.int .u32), .sl tTLV]
structure Seg.ok (s : Seg) : Prop where
  kind : okI s.kind
  as : ∀ x ∈ s.as, okI x
theorem T_seg {as : List AV} (h : tSeg.T as) : ∃ s : Seg, as = s.enc ∧ s.ok := by
  simp only [tSeg, Ty.T.eq_5, TT] at h
  obtain ⟨a1, b1, rfl, h1, a2, b2, rfl, h2, rfl⟩ := h
  obtain ⟨x1, rfl, k1⟩ := T_i64 h1
  obtain ⟨x2, rfl, k2⟩ := T_sl (fun x => T_i64) h2
  exact ⟨⟨x1, x2⟩, rfl, k1, k2⟩
structure TLV.ok (s : TLV) : Prop where
  kind : okI s.kind
theorem T_tlv {as : List AV} (h : tTLV.T as) : ∃ s : TLV, as = s.enc ∧ s.ok := by
  simp only [tTLV, Ty.T.eq_5, TT] at h
  obtain ⟨a1, b1, rfl, h1, a2, b2, rfl, h2, rfl⟩ := h
  obtain ⟨x1, rfl, k1⟩ := T_i64 h1
  obtain ⟨x2, rfl⟩ := T_bytes h2
  exact ⟨⟨x1, x2⟩, rfl, ⟨k1⟩⟩
structure IGP.ok (s : IGP) : Prop where
  addr : okU s.addr
  cost : okI s.cost
structure Attrs.ok (a : Attrs) : Prop where
  origin : okI a.origin
  path : ∀ s ∈ a.path, s.ok
  nextHop : okU a.nextHop
  med : okI a.med
  pref : okI a.pref
  aggrAS : okI a.aggrAS
  aggrAddr : okU a.aggrAddr
  comms : ∀ x ∈ a.comms, okU x
  orig : okU a.orig
  clusters : ∀ x ∈ a.clusters, okU x
  unknown : ∀ x ∈ a.unknown, x.ok
theorem T_attrs {as : List AV} (h : tAttrs.T as) : ∃ s : Attrs, as = s.enc ∧ s.ok := by
  simp only [tAttrs, Ty.T.eq_5, TT] at h
  obtain ⟨a1, b1, rfl, h1, a2, b2, rfl, h2, a3, b3, rfl, h3, a4, b4, rfl, h4, a5, b5, rfl, h5, a6, b6, rfl, h6, a7, b7, rfl, h7, a8, b8, rfl, h8, a9, b9, rfl, h9, a10, b10, rfl, h10, a11, b11, rfl, h11, a12, b12, rfl, h12, a13, b13, rfl, h13, a14, b14, rfl, h14, a15, b15, rfl, h15, a16, b16, rfl, h16, rfl⟩ := h
  obtain ⟨x1, rfl, k1⟩ := T_i64 h1
  obtain ⟨x2, rfl, k2⟩ := T_sl (fun x => T_seg) h2
  obtain ⟨x3, rfl, k3⟩ := T_u32 h3
  obtain ⟨x4, rfl⟩ := h4
  obtain ⟨x5, rfl, k5⟩ := T_i64 h5
  obtain ⟨x6, rfl⟩ := h6
  obtain ⟨x7, rfl, k7⟩ := T_i64 h7
  obtain ⟨x8, rfl⟩ := h8
  obtain ⟨x9, rfl⟩ := h9
  obtain ⟨x10, rfl, k10⟩ := T_i64 h10
  obtain ⟨x11, rfl, k11⟩ := T_u32 h11
  obtain ⟨x12, rfl, k12⟩ := T_sl (fun x => T_u32) h12
  obtain ⟨x13, rfl⟩ := h13
  obtain ⟨x14, rfl, k14⟩ := T_u32 h14
  obtain ⟨x15, rfl, k15⟩ := T_sl (fun x => T_u32) h15
  obtain ⟨x16, rfl, k16⟩ := T_sl (fun x => T_tlv) h16
  exact ⟨⟨x1, x2, x3, x4, x5, x6, x7, x8, x9, x10, x11, x12, x13, x14, x15, x16⟩, rfl, k1, k2, k3, k5, k7, k10, k11, k12, k14, k15, k16⟩
structure PVRoute.ok (r : PVRoute) : Prop where
  paddr : okU r.paddr
  plen : okI r.plen
  attrs : r.attrs.ok
  peer : okI r.peer
  kind : okI r.kind
  router : okU r.router
end Go.AM.IR
namespace Go.AM.IR
structure Pfx where
  addr : Int
  len : Int
  deriving DecidableEq
def Pfx.enc (p : Pfx) : List AV := [.int .u32 p.addr, .int .i64 p.len]
structure Cap where
  code : Int
  value : List UInt8
  deriving DecidableEq
def Cap.enc (p : Cap) : List AV := [.int .i64 p.code, .sl 1 (byteCells p.value)]
structure PMsg where
  kind : Int
  version : Int
  as : Int
  hold : Int
  router : Int
  caps : List Cap
  withdrawn : List Pfx
  attrs : Attrs
  reach : List Pfx
  code : Int
  sub : Int
  data : List UInt8
def PMsg.enc (m : PMsg) : List AV := [.int .i64 m.kind, .int .i64 m.version, .int .i64 m.as, .int .i64 m.hold, .int .u32 m.router, .sl 2 (m.caps.map Cap.enc), .sl 2 (m.withdrawn.map Pfx.enc),
  .int .i64 m.attrs.origin, .sl 2 (m.attrs.path.map Seg.enc), .int .u32 m.attrs.nextHop, .bool m.attrs.hasMED, .int .i64 m.attrs.med, .bool m.attrs.hasPref, .int .i64 m.attrs.pref, .bool m.attrs.atomic, .bool m.attrs.hasAggr, .int .i64 m.attrs.aggrAS, .int .u32 m.attrs.aggrAddr,
  .sl 1 (m.attrs.comms.map encU), .bool m.attrs.hasOrig, .int .u32 m.attrs.orig, .sl 1 (m.attrs.clusters.map encU), .sl 2 (m.attrs.unknown.map TLV.enc),
  .sl 2 (m.reach.map Pfx.enc), .int .i64 m.code, .int .i64 m.sub, .sl 1 (byteCells m.data)]
structure Peer where
  kind : Int
  as : Int
  addr : Int
  loc : Int
  client : Bool
  hold : Int
  restart : Int
  imp : List UInt8
  exp : List UInt8
  nextSelf : Bool
  damp : Bool
def Peer.enc (p : Peer) : List AV := [.int .i64 p.kind, .int .i64 p.as, .int .u32 p.addr, .int .u32 p.loc, .bool p.client, .int .i64 p.hold, .int .i64 p.restart, .str p.imp, .str p.exp, .bool p.nextSelf, .bool p.damp]
structure Conf where
  as : Int
  confed : Int
  router : Int
  cluster : Int
  peers : List Peer
  nets : AV
  p1 : AV
  p2 : AV
  p3 : AV
  p4 : AV
  d1 : Int
  d2 : Int
  d3 : Int
  d4 : Int
  multi : Int
def Conf.enc (c : Conf) : List AV := [.int .i64 c.as, .int .i64 c.confed, .int .u32 c.router, .int .u32 c.cluster, .sl 11 (c.peers.map Peer.enc), c.nets, c.p1, c.p2, c.p3, c.p4, .int .i64 c.d1, .int .i64 c.d2, .int .i64 c.d3, .int .i64 c.d4, .int .i64 c.multi]
structure Ses where
  state : Int
  retry : Int
  hold : Int
  keep : Int
  holdTime : Int
  router : Int
  restart : Int
  refresh : Bool
  untl : Int
def Ses.enc (s : Ses) : List AV := [.int .i64 s.state, .int .i64 s.retry, .int .i64 s.hold, .int .i64 s.keep, .int .i64 s.holdTime, .int .u32 s.router, .int .i64 s.restart, .bool s.refresh, .int .i64 s.untl]
structure Act where
  kind : Int
  msg : PMsg
def Act.enc (a : Act) : List AV := .int .i64 a.kind :: a.msg.enc
theorem Pfx.pure (s : Pfx) : pureL s.enc = true := rfl
@[simp] theorem pure_pfxs (l : List Pfx) : pureLL (l.map Pfx.enc) = true := pureLL_map Pfx.pure l
theorem Cap.pure (s : Cap) : pureL s.enc = true := by simp [Cap.enc, pureL, AV.pure, pureLL_bytes]
@[simp] theorem pure_caps (l : List Cap) : pureLL (l.map Cap.enc) = true := pureLL_map Cap.pure l
@[simp] theorem PMsg.pure (s : PMsg) : pureL s.enc = true := by simp [PMsg.enc, pureL, AV.pure, pureLL_bytes]
theorem Peer.pure (s : Peer) : pureL s.enc = true := rfl
@[simp] theorem pure_peers (l : List Peer) : pureLL (l.map Peer.enc) = true := pureLL_map Peer.pure l
@[simp] theorem Ses.pure (s : Ses) : pureL s.enc = true := rfl
@[simp] theorem Act.pure (s : Act) : pureL s.enc = true := by simp [Act.enc, pureL, AV.pure]
@[simp] theorem pure_acts (l : List Act) : pureLL (l.map Act.enc) = true := pureLL_map Act.pure l
structure Conf.ok (c : Conf) : Prop where
  nets : c.nets.pure = true
  p1 : c.p1.pure = true
  p2 : c.p2.pure = true
  p3 : c.p3.pure = true
  p4 : c.p4.pure = true
  as : okI c.as
  confed : okI c.confed
  router : okU c.router
  peers : ∀ p ∈ c.peers, okI p.as ∧ okI p.hold ∧ okI p.restart ∧ okI p.kind
  len : c.peers.length ≤ maxLen
theorem Conf.pure {c : Conf} (h : c.ok) : pureL c.enc = true := by simp [Conf.enc, pureL, AV.pure, h.nets, h.p1, h.p2, h.p3, h.p4]
def tPfx : Ty := .st [.int .u32, .int .i64]
def tCap : Ty := .st [.int .i64, .sl (.int .u8)]
def tMsg : Ty := .st [.int .i64, .int .i64, .int .i64, .int .i64, .int .u32, .sl tCap, .sl tPfx, tAttrs, .sl tPfx, .int .i64, .int .i64, .sl (.int .u8)]
structure Pfx.ok (p : Pfx) : Prop where
  addr : okU p.addr
  len : okI p.len
theorem T_pfx {as : List AV} (h : tPfx.T as) : ∃ s : Pfx, as = s.enc ∧ s.ok := by
  simp only [tPfx, Ty.T.eq_5, TT] at h
  obtain ⟨a1, b1, rfl, h1, a2, b2, rfl, h2, rfl⟩ := h
  obtain ⟨x1, rfl, k1⟩ := T_u32 h1
  obtain ⟨x2, rfl, k2⟩ := T_i64 h2
  exact ⟨⟨x1, x2⟩, rfl, k1, k2⟩
theorem T_cap {as : List AV} (h : tCap.T as) : ∃ s : Cap, as = s.enc ∧ okI s.code := by
  simp only [tCap, Ty.T.eq_5, TT] at h
  obtain ⟨a1, b1, rfl, h1, a2, b2, rfl, h2, rfl⟩ := h
  obtain ⟨x1, rfl, k1⟩ := T_i64 h1
  obtain ⟨x2, rfl⟩ := T_bytes h2
  exact ⟨⟨x1, x2⟩, rfl, k1⟩
structure PMsg.ok (m : PMsg) : Prop where
  kind : okI m.kind
  version : okI m.version
  as : okI m.as
  hold : okI m.hold
  router : okU m.router
  caps : ∀ c ∈ m.caps, okI c.code
  withdrawn : ∀ p ∈ m.withdrawn, p.ok
  attrs : m.attrs.ok
  reach : ∀ p ∈ m.reach, p.ok
  code : okI m.code
  sub : okI m.sub
theorem T_msg {as : List AV} (h : tMsg.T as) : ∃ s : PMsg, as = s.enc ∧ s.ok := by
  simp only [tMsg, Ty.T.eq_5, TT] at h
  obtain ⟨a1, b1, rfl, h1, a2, b2, rfl, h2, a3, b3, rfl, h3, a4, b4, rfl, h4, a5, b5, rfl, h5, a6, b6, rfl, h6, a7, b7, rfl, h7, a8, b8, rfl, h8, a9, b9, rfl, h9, a10, b10, rfl, h10, a11, b11, rfl, h11, a12, b12, rfl, h12, rfl⟩ := h
  obtain ⟨x1, rfl, k1⟩ := T_i64 h1
  obtain ⟨x2, rfl, k2⟩ := T_i64 h2
  obtain ⟨x3, rfl, k3⟩ := T_i64 h3
  obtain ⟨x4, rfl, k4⟩ := T_i64 h4
  obtain ⟨x5, rfl, k5⟩ := T_u32 h5
  obtain ⟨x6, rfl, k6⟩ := T_sl (fun x => T_cap) h6
  obtain ⟨x7, rfl, k7⟩ := T_sl (fun x => T_pfx) h7
  obtain ⟨x8, rfl, k8⟩ := T_attrs h8
  obtain ⟨x9, rfl, k9⟩ := T_sl (fun x => T_pfx) h9
  obtain ⟨x10, rfl, k10⟩ := T_i64 h10
  obtain ⟨x11, rfl, k11⟩ := T_i64 h11
  obtain ⟨x12, rfl⟩ := T_bytes h12
  exact ⟨⟨x1, x2, x3, x4, x5, x6, x7, x8, x9, x10, x11, x12⟩, rfl, k1, k2, k3, k4, k5, k6, k7, k8, k9, k10, k11⟩
structure Ses.ok (s : Ses) : Prop where
  state : okI s.state
  retry : okI s.retry
  hold : okI s.hold
  keep : okI s.keep
  holdTime : okI s.holdTime
  router : okU s.router
  restart : okI s.restart
  untl : okI s.untl
end Go.AM.IR
set_option maxHeartbeats 4000000
set_option maxRecDepth 20000
namespace Go.AM.IR
def keepN (x n : Nat) : Nat := x / 2 ^ (32 - n) * 2 ^ (32 - n)
def maskN (n : Nat) : Nat := 4294967296 - 2 ^ (32 - n)
theorem keepN_bit (x n j : Nat) (hn : n ≤ 32) : (keepN x n).testBit j = (decide (32 - n ≤ j) && x.testBit j) := by
  unfold keepN
  rw [Nat.testBit_mul_two_pow]
  by_cases h : 32 - n ≤ j
  · simp only [h, decide_true, Bool.true_and]
    rw [Nat.testBit_div_two_pow]; congr 1; omega
  · simp [h]
theorem maskN_eq (n : Nat) (hn : n ≤ 32) : maskN n = (2 ^ n - 1) * 2 ^ (32 - n) := by
  unfold maskN
  rw [Nat.sub_mul, ← Nat.pow_add, show n + (32 - n) = 32 by omega]; omega
theorem maskN_bit (n j : Nat) (hn : n ≤ 32) : (maskN n).testBit j = (decide (32 - n ≤ j) && decide (j < 32)) := by
  rw [maskN_eq n hn, Nat.testBit_mul_two_pow, Nat.testBit_two_pow_sub_one]
  by_cases h : 32 - n ≤ j
  · simp only [h, decide_true, Bool.true_and]
    congr 1; simp; omega
  · simp [h]
theorem and_mask (x n : Nat) (hx : x < 4294967296) (hn : n ≤ 32) : x &&& maskN n = keepN x n := by
  apply Nat.eq_of_testBit_eq
  intro j
  rw [Nat.testBit_and, keepN_bit x n j hn, maskN_bit n j hn]
  by_cases hj : j < 32
  · simp [hj, Bool.and_comm]
  · have : x.testBit j = false := Nat.testBit_lt_two_pow (Nat.lt_of_lt_of_le hx (by rw [show 4294967296 = 2 ^ 32 from rfl]; exact Nat.pow_le_pow_right (by omega) (by omega)))
    simp [this]
theorem keepN_le (x n : Nat) : keepN x n ≤ x := Nat.div_mul_le_self _ _
theorem keepN_succ (x n : Nat) (hn : n < 32) : keepN x n ||| (x / 2 ^ (31 - n) % 2 * 2 ^ (31 - n)) = keepN x (n + 1) := by
  apply Nat.eq_of_testBit_eq
  intro j
  rw [Nat.testBit_or, keepN_bit x n j (by omega), keepN_bit x (n + 1) j (by omega), Nat.testBit_mul_two_pow]
  have e1 : ∀ q : Nat, (x / 2 ^ (31 - n) % 2).testBit q = (decide (q < 1) && (x / 2 ^ (31 - n)).testBit q) := fun q => by
    have := Nat.testBit_mod_two_pow (x / 2 ^ (31 - n)) 1 q
    simpa using this
  rw [e1, Nat.testBit_div_two_pow]
  by_cases h1 : 32 - n ≤ j
  · have h2 : 32 - (n + 1) ≤ j := by omega
    have h3 : ¬ (j - (31 - n) < 1) := by omega
    simp [h1, h2, h3]; intro _; omega
  · by_cases h2 : j = 31 - n
    · subst h2
      have h3 : 32 - (n + 1) ≤ 31 - n := by omega
      simp [h1, h3]
    · have h3 : ¬ 32 - (n + 1) ≤ j := by omega
      have h4 : ¬ 31 - n ≤ j := by omega
      simp [h1, h3, h4]
theorem keepN_zero (x : Nat) (hx : x < 4294967296) : keepN x 0 = 0 := by
  unfold keepN; rw [Nat.div_eq_of_lt (by simpa using hx), Nat.zero_mul]
def clampN (n : Int) : Nat := if n ≤ 0 then 0 else if n ≤ 32 then n.toNat else 32
theorem clampN_le (n : Int) : clampN n ≤ 32 := by
  unfold clampN
  repeat' split
  all_goals omega
section
variable {k : AV → Prop}
theorem wrapU32 (r : Nat) (hr : r < 4294967296) : IntKind.wrap .u32 (r : Int) = (r : Int) := by
  simp [IntKind.wrap, IntKind.signed, IntKind.bits]; omega
theorem ofInt32 (a : Nat) (ha : a < 4294967296) : (BitVec.ofInt 32 (a : Int)).toNat = a := by
  rw [BitVec.toNat_ofInt]; omega
theorem and_u32 (a b : Nat) (ha : a < 4294967296) (hb : b < 4294967296) : intBits .and .u32 (a : Int) (b : Int) = ((a &&& b : Nat) : Int) := by
  have hl : a &&& b < 4294967296 := Nat.lt_of_le_of_lt Nat.and_le_left ha
  show IntKind.wrap .u32 (((BitVec.ofInt 32 (a : Int) &&& BitVec.ofInt 32 (b : Int)).toNat : Nat) : Int) = _
  rw [BitVec.toNat_and, ofInt32 a ha, ofInt32 b hb]; exact wrapU32 _ hl
theorem or_u32 (a b : Nat) (ha : a < 4294967296) (hb : b < 4294967296) : intBits .or .u32 (a : Int) (b : Int) = ((a ||| b : Nat) : Int) := by
  have hl : a ||| b < 4294967296 := Nat.or_lt_two_pow (n := 32) ha hb
  show IntKind.wrap .u32 (((BitVec.ofInt 32 (a : Int) ||| BitVec.ofInt 32 (b : Int)).toNat : Nat) : Int) = _
  rw [BitVec.toNat_or, ofInt32 a ha, ofInt32 b hb]; exact wrapU32 _ hl
theorem zAnd32 {a b : Nat} (h : k (.int .u32 ((a &&& b : Nat) : Int))) (ha : a < 4294967296 := by omega) (hb : b < 4294967296 := by omega) : ∃ v, binA .and (.int .u32 (a : Int)) (.int .u32 (b : Int)) = some v ∧ k v := ⟨_, by show some (AV.int .u32 (intBits .and .u32 _ _)) = _; rw [and_u32 a b ha hb], h⟩
theorem zOr32 {a b : Nat} (h : k (.int .u32 ((a ||| b : Nat) : Int))) (ha : a < 4294967296) (hb : b < 4294967296) : ∃ v, binA .or (.int .u32 (a : Int)) (.int .u32 (b : Int)) = some v ∧ k v := ⟨_, by show some (AV.int .u32 (intBits .or .u32 _ _)) = _; rw [or_u32 a b ha hb], h⟩
theorem zMask {n : Nat} {j : Int} (h : k (.int .u32 ((maskN n : Nat) : Int))) (hj : j = 32 - (n : Int)) (hn : n ≤ 32) : ∃ v, binA .shl (.int .u32 4294967295) (.int .i64 j) = some v ∧ k v := by
  refine ⟨_, ?_, h⟩
  show (if j < 0 then none else some (AV.int .u32 (IntKind.wrap .u32 (4294967295 * 2 ^ (min j.toNat 32))))) = _
  rw [if_neg (by omega), show min j.toNat 32 = 32 - n by omega]
  have h1 : (2 : Nat) ^ (32 - n) ≤ 2 ^ 32 := Nat.pow_le_pow_right (by omega) (by omega)
  have h2 : 0 < (2 : Nat) ^ (32 - n) := Nat.pow_pos (by omega)
  have e : (4294967295 * 2 ^ (32 - n) : Int) = ((maskN n : Nat) : Int) + 4294967296 * ((2 ^ (32 - n) - 1 : Nat) : Int) := by
    unfold maskN
    have : ((2 ^ (32 - n) : Nat) : Int) = (2 : Int) ^ (32 - n) := by simp
    rw [← this]; omega
  congr 2
  rw [e]
  have h3 : maskN n < 4294967296 := by unfold maskN; omega
  simp [IntKind.wrap, IntKind.signed, IntKind.bits]; omega
theorem zShr32 {x : Nat} {j : Int} (h : k (.int .u32 ((x / 2 ^ j.toNat : Nat) : Int))) (h0 : 0 ≤ j) (h1 : j ≤ 32) : ∃ v, binA .shr (.int .u32 (x : Int)) (.int .u64 j) = some v ∧ k v := by
  refine ⟨_, ?_, h⟩
  show (if j < 0 then none else some (AV.int .u32 ((x : Int).fdiv (2 ^ (min j.toNat 32))))) = _
  rw [if_neg (by omega), show min j.toNat 32 = j.toNat by omega]
  congr 2
  rw [Int.fdiv_eq_ediv_of_nonneg _ (by exact Int.le_of_lt (Int.pow_pos (by omega)))]
  simp
theorem zShl1 {b m : Nat} {j : Int} (h : k (.int .u32 ((b * 2 ^ m : Nat) : Int))) (hj : j = m) (hm : m < 32) (hb : b < 2) : ∃ v, binA .shl (.int .u32 (b : Int)) (.int .u64 j) = some v ∧ k v := by
  refine ⟨_, ?_, h⟩
  show (if j < 0 then none else some (AV.int .u32 (IntKind.wrap .u32 ((b : Int) * 2 ^ (min j.toNat 32))))) = _
  rw [if_neg (by omega), show min j.toNat 32 = m by omega]
  have h1 : (2 : Nat) ^ m ≤ 2 ^ 31 := Nat.pow_le_pow_right (by omega) (by omega)
  have e : ((b : Int) * 2 ^ m : Int) = ((b * 2 ^ m : Nat) : Int) := by simp
  rw [e]
  have h3 : b * 2 ^ m < 4294967296 := by
    have : b * 2 ^ m ≤ 1 * 2 ^ m := Nat.mul_le_mul_right _ (by omega)
    omega
  congr 2
  simp only [IntKind.wrap, IntKind.signed, IntKind.bits]; simp; omega
theorem zAnd1 {x : Nat} (hx : x < 4294967296) (h : k (.int .u32 ((x % 2 : Nat) : Int))) : ∃ v, binA .and (.int .u32 (x : Int)) (.int .u32 1) = some v ∧ k v :=
  ⟨_, by
    show some (AV.int .u32 (intBits .and .u32 (x : Int) ((1 : Nat) : Int))) = _
    rw [and_u32 x 1 hx (by omega), Nat.and_one_is_mod], h⟩
end
end Go.AM.IR
set_option maxHeartbeats 4000000
set_option maxRecDepth 20000
namespace Go.AM.IR
theorem clamp_gives186 (n : Int) : Gives G 186 [.int .i64 n, .int .i64 32] [] ⟨.int .i64 (clampN n : Nat), []⟩ := by
  by_cases h0 : n ≤ 0
  · rw [show clampN n = 0 from by simp [clampN, h0]]
    by_cases h1 : n = 0
    · subst h1
      refine gives_code (F := f186) rfl rfl (W_ok 300 _ _ _ _ ?_)
      repeat' (first | refine stpA ?_ | (refine condS ?_ ?_ <;> intro h))
      (first | refine fin1 ?_ | refine fin0 ?_); rfl
    · have h2 : n < 0 := by omega
      refine gives_code (F := f186) rfl rfl (W_ok 300 _ _ _ _ ?_)
      repeat' (first | refine stpA ?_ | (refine condS ?_ ?_ <;> intro h))
      (first | refine fin1 ?_ | refine fin0 ?_); first | rfl | (simp [h2])
  · by_cases h1 : n ≤ 32
    · rw [show ((clampN n : Nat) : Int) = n from by simp [clampN, h0, h1]; omega]
      refine gives_code (F := f186) rfl rfl (W_ok 300 _ _ _ _ ?_)
      repeat' (first | refine stpA ?_ | (refine condS ?_ ?_ <;> intro h))
      (first | refine fin1 ?_ | refine fin0 ?_); rfl
    · rw [show clampN n = 32 from by simp [clampN, h0, h1]]
      refine gives_code (F := f186) rfl rfl (W_ok 300 _ _ _ _ ?_)
      repeat' (first | refine stpA ?_ | (refine condS ?_ ?_ <;> intro h))
      (first | refine fin1 ?_ | refine fin0 ?_); rfl
theorem low_gives184 (n : Int) : Gives G 184 [.int .i64 n, .int .i64 32] [] ⟨.int .i64 (clampN n : Nat), []⟩ := by
  by_cases h0 : n ≤ 0
  · rw [show clampN n = 0 from by simp [clampN, h0]]
    by_cases h1 : n = 0
    · subst h1
      refine gives_code (F := f184) rfl rfl (W_ok 300 _ _ _ _ ?_)
      repeat' (first | refine stpA ?_ | (refine condS ?_ ?_ <;> intro h))
      (first | refine fin1 ?_ | refine fin0 ?_); rfl
    · have h2 : n < 0 := by omega
      refine gives_code (F := f184) rfl rfl (W_ok 300 _ _ _ _ ?_)
      repeat' (first | refine stpA ?_ | (refine condS ?_ ?_ <;> intro h))
      (first | refine fin1 ?_ | refine fin0 ?_); first | rfl | (simp [h2])
  · by_cases h1 : n ≤ 32
    · rw [show ((clampN n : Nat) : Int) = n from by simp [clampN, h0, h1]; omega]
      refine gives_code (F := f184) rfl rfl (W_ok 300 _ _ _ _ ?_)
      repeat' (first | refine stpA ?_ | (refine condS ?_ ?_ <;> intro h))
      (first | refine fin1 ?_ | refine fin0 ?_); rfl
    · rw [show clampN n = 32 from by simp [clampN, h0, h1]]
      refine gives_code (F := f184) rfl rfl (W_ok 300 _ _ _ _ ?_)
      repeat' (first | refine stpA ?_ | (refine condS ?_ ?_ <;> intro h))
      (first | refine fin1 ?_ | refine fin0 ?_); rfl
theorem mask_gives183 (n : Int) : Gives G 183 [.int .i64 n] [] ⟨.int .u32 (maskN (clampN n) : Nat), []⟩ := by
  have hc := clamp_gives186 n
  have hl := clampN_le n
  generalize clampN n = c at *
  refine gives_code (F := f183) rfl rfl (W_ok 300 _ _ _ _ ?_)
  repeat' ((conv => whnf); first | refine zMask (n := c) ?_ (by omega) (by omega) | refine bslP (by first | rfl | (simp [pureL, pureLL, AV.pure]; done) | fail) rfl ?_ | refine TakeC.full (by first | rfl | omega | (simp; done) | (simp; omega) | fail) ?_ | refine zBs ?_ | refine zBn ?_ | refine zBv rfl rfl ?_ | refine zN ?_ | refine zC ?_ | refine zC4 ?_ | refine zOr16 ?_ | refine zC1 ?_ | refine zByte ?_ | refine zMaxL ?_ | refine zMaxR ?_ | refine zMinL ?_ | refine zMinR ?_ | refine zShr ?_ | refine zC8 ?_ | refine zQ ?_ | refine zR ?_ | refine zS ?_ | refine zA ?_ | refine zM ?_ | refine xr rfl ?_ | refine ai rfl ?_ | refine condT ?_ | refine condF ?_ | refine condG1 ?_ | refine condG0 ?_ | refine cD ?_ | refine dD ?_ | refine cB ?_ | refine dB ?_ | refine cN ?_ | refine dN ?_ | refine cV ?_ | refine dV ?_ | refine cE ?_ | refine dE ?_ | refine condX0 ?_ | refine condX1 ?_ | refine condNot ?_ | refine condAnd ?_ | refine condOr ?_ | refine aO ?_ | refine aB ?_ | refine aR ?_ | refine aR ?_ (by simp; omega) | refine xr (by assumption) ?_ | refine ai (by assumption) ?_ | refine kV (by assumption) ?_ | refine kN (by assumption) ?_ | refine callW (by assumption) ?_ | refine condD (fun h => ?_) (fun h => ?_) | refine condB (fun h => ?_) (fun h => ?_) | refine condN (fun h => ?_) (fun h => ?_) | refine condE (fun h => ?_) (fun h => ?_) | refine condV (fun h => ?_) (fun h => ?_))
  (first | refine fin1 ?_ | refine fin0 ?_); rfl
theorem keep_gives181 (x : Nat) (n : Int) (hx : x < 4294967296) : Gives G 181 [.int .u32 (x : Int), .int .i64 n] [] ⟨.int .u32 (keepN x (clampN n) : Nat), []⟩ := by
  have hm := mask_gives183 n
  have hl := clampN_le n
  rw [← and_mask x (clampN n) hx hl]
  have hb : maskN (clampN n) < 4294967296 := by unfold maskN; have := Nat.pow_pos (n := 32 - clampN n) (show 0 < 2 by omega); omega
  generalize maskN (clampN n) = mk at *
  refine gives_code (F := f181) rfl rfl (W_ok 300 _ _ _ _ ?_)
  repeat' ((conv => whnf); first | refine zAnd32 ?_ hx hb | refine bslP (by first | rfl | (simp [pureL, pureLL, AV.pure]; done) | fail) rfl ?_ | refine TakeC.full (by first | rfl | omega | (simp; done) | (simp; omega) | fail) ?_ | refine zBs ?_ | refine zBn ?_ | refine zBv rfl rfl ?_ | refine zN ?_ | refine zC ?_ | refine zC4 ?_ | refine zOr16 ?_ | refine zC1 ?_ | refine zByte ?_ | refine zMaxL ?_ | refine zMaxR ?_ | refine zMinL ?_ | refine zMinR ?_ | refine zShr ?_ | refine zC8 ?_ | refine zQ ?_ | refine zR ?_ | refine zS ?_ | refine zA ?_ | refine zM ?_ | refine xr rfl ?_ | refine ai rfl ?_ | refine condT ?_ | refine condF ?_ | refine condG1 ?_ | refine condG0 ?_ | refine cD ?_ | refine dD ?_ | refine cB ?_ | refine dB ?_ | refine cN ?_ | refine dN ?_ | refine cV ?_ | refine dV ?_ | refine cE ?_ | refine dE ?_ | refine condX0 ?_ | refine condX1 ?_ | refine condNot ?_ | refine condAnd ?_ | refine condOr ?_ | refine aO ?_ | refine aB ?_ | refine aR ?_ | refine aR ?_ (by simp; omega) | refine xr (by assumption) ?_ | refine ai (by assumption) ?_ | refine kV (by assumption) ?_ | refine kN (by assumption) ?_ | refine callW (by assumption) ?_ | refine condD (fun h => ?_) (fun h => ?_) | refine condB (fun h => ?_) (fun h => ?_) | refine condN (fun h => ?_) (fun h => ?_) | refine condE (fun h => ?_) (fun h => ?_) | refine condV (fun h => ?_) (fun h => ?_))
  (first | refine fin1 ?_ | refine fin0 ?_); rfl
theorem at_gives185 (x i : Nat) (hx : x < 4294967296) (hi : i < 32) : Gives G 185 [.int .u32 (x : Int), .int .i64 (i : Int)] [] ⟨.int .i64 (x / 2 ^ (31 - i) % 2 : Nat), []⟩ := by
  have he : (31 - (i : Int)).toNat = 31 - i := by omega
  have hd : x / 2 ^ (31 - i) < 4294967296 := Nat.lt_of_le_of_lt (Nat.div_le_self _ _) hx
  have hm : x / 2 ^ (31 - i) % 2 < 2 := Nat.mod_lt _ (by omega)
  rw [← he] at hd hm ⊢
  refine gives_code (F := f185) rfl rfl (W_ok 300 _ _ _ _ ?_)
  repeat' ((conv => whnf); first | refine zShr32 ?_ (by omega) (by omega) | refine zAnd1 hd ?_ | refine bslP (by first | rfl | (simp [pureL, pureLL, AV.pure]; done) | fail) rfl ?_ | refine TakeC.full (by first | rfl | omega | (simp; done) | (simp; omega) | fail) ?_ | refine zBs ?_ | refine zBn ?_ | refine zBv rfl rfl ?_ | refine zN ?_ | refine zC ?_ | refine zC4 ?_ | refine zOr16 ?_ | refine zC1 ?_ | refine zByte ?_ | refine zMaxL ?_ | refine zMaxR ?_ | refine zMinL ?_ | refine zMinR ?_ | refine zShr ?_ | refine zC8 ?_ | refine zQ ?_ | refine zR ?_ | refine zS ?_ | refine zA ?_ | refine zM ?_ | refine xr rfl ?_ | refine ai rfl ?_ | refine condT ?_ | refine condF ?_ | refine condG1 ?_ | refine condG0 ?_ | refine cD ?_ | refine dD ?_ | refine cB ?_ | refine dB ?_ | refine cN ?_ | refine dN ?_ | refine cV ?_ | refine dV ?_ | refine cE ?_ | refine dE ?_ | refine condX0 ?_ | refine condX1 ?_ | refine condNot ?_ | refine condAnd ?_ | refine condOr ?_ | refine aO ?_ | refine aB ?_ | refine aR ?_ | refine aR ?_ (by simp; omega) | refine xr (by assumption) ?_ | refine ai (by assumption) ?_ | refine kV (by assumption) ?_ | refine kN (by assumption) ?_ | refine callW (by assumption) ?_ | refine condD (fun h => ?_) (fun h => ?_) | refine condB (fun h => ?_) (fun h => ?_) | refine condN (fun h => ?_) (fun h => ?_) | refine condE (fun h => ?_) (fun h => ?_) | refine condV (fun h => ?_) (fun h => ?_))
  (first | refine fin1 ?_ | refine fin0 ?_); rfl
theorem keep_loop182 (x c : Nat) (hx : x < 4294967296) (hc : c ≤ 32) : ∀ (d i : Nat) (T : List (Nat × AV)) (H : Heap) (ct : Nat) (hd : d + i = c),
   Ev G ⟨f182x7LH, ⟨(9, .int .i64 (i : Int)) :: (0, .int .u32 (x : Int)) :: (5, .int .u32 (keepN x i : Nat)) :: (8, .int .i64 (c : Int)) :: T, H, ct⟩, [.t 4], 0⟩ ⟨.int .u32 (keepN x c : Nat), []⟩
  | 0, i, T, H, ct, hd => by
    obtain rfl : i = c := by omega
    refine ev_loop' (W_ok 300 _ _ _ _ ?_)
    repeat' (first | refine stpA ?_ | (refine condS ?_ ?_ <;> intro h))
    (first | refine fin1 ?_ | refine fin0 ?_); rfl
  | d + 1, i, T, H, ct, hd => by
    have ha := at_gives185 x i hx (by omega)
    have hb : x / 2 ^ (31 - i) % 2 < 2 := Nat.mod_lt _ (by omega)
    have hk := keepN_succ x i (by omega)
    have hl := keepN_le x i
    have hs : x / 2 ^ (31 - i) % 2 * 2 ^ (31 - i) < 4294967296 := by
      have h1 : (2 : Nat) ^ (31 - i) ≤ 2 ^ 31 := Nat.pow_le_pow_right (by omega) (by omega)
      have h2 := Nat.mul_le_mul_right (2 ^ (31 - i)) (show x / 2 ^ (31 - i) % 2 ≤ 1 by omega)
      omega
    generalize x / 2 ^ (31 - i) % 2 = b at *
    generalize hki : keepN x i = ki at *
    refine ev_loop' (W_ok 300 _ _ _ _ ?_)
    repeat' ((conv => whnf); first | refine zShl1 (m := 31 - i) ?_ (by omega) (by omega) hb | refine zOr32 ?_ (by omega) hs | refine bslP (by first | rfl | (simp [pureL, pureLL, AV.pure]; done) | fail) rfl ?_ | refine TakeC.full (by first | rfl | omega | (simp; done) | (simp; omega) | fail) ?_ | refine zBs ?_ | refine zBn ?_ | refine zBv rfl rfl ?_ | refine zN ?_ | refine zC ?_ | refine zC4 ?_ | refine zOr16 ?_ | refine zC1 ?_ | refine zByte ?_ | refine zMaxL ?_ | refine zMaxR ?_ | refine zMinL ?_ | refine zMinR ?_ | refine zShr ?_ | refine zC8 ?_ | refine zQ ?_ | refine zR ?_ | refine zS ?_ | refine zA ?_ | refine zM ?_ | refine xr rfl ?_ | refine ai rfl ?_ | refine condT ?_ | refine condF ?_ | refine condG1 ?_ | refine condG0 ?_ | refine cD ?_ | refine dD ?_ | refine cB ?_ | refine dB ?_ | refine cN ?_ | refine dN ?_ | refine cV ?_ | refine dV ?_ | refine cE ?_ | refine dE ?_ | refine condX0 ?_ | refine condX1 ?_ | refine condNot ?_ | refine condAnd ?_ | refine condOr ?_ | refine aO ?_ | refine aB ?_ | refine aR ?_ | refine aR ?_ (by simp; omega) | refine xr (by assumption) ?_ | refine ai (by assumption) ?_ | refine kV (by assumption) ?_ | refine kN (by assumption) ?_ | refine callW (by assumption) ?_ | refine condD (fun h => ?_) (fun h => ?_) | refine condB (fun h => ?_) (fun h => ?_) | refine condN (fun h => ?_) (fun h => ?_) | refine condE (fun h => ?_) (fun h => ?_) | refine condV (fun h => ?_) (fun h => ?_))
    rw [hk]
    refine ev_keep [9, 0, 5, 8] [] ?_
    exact keep_loop182 x c hx hc d (i + 1) _ _ _ (by omega)
theorem keep_gives182 (x : Nat) (n : Int) (hx : x < 4294967296) : Gives G 182 [.int .u32 (x : Int), .int .i64 n] [] ⟨.int .u32 (keepN x (clampN n) : Nat), []⟩ := by
  have hm := low_gives184 n
  have hl := clampN_le n
  have h0 := keepN_zero x hx
  generalize clampN n = c at *
  refine gives_code (F := f182) rfl rfl (W_ok 300 _ _ _ _ ?_)
  repeat' (first | refine stpA ?_ | (refine condS ?_ ?_ <;> intro h))
  refine ev_keep [9, 0, 5, 8] [] ?_
  have := keep_loop182 x c hx hl c 0
  rw [h0] at this
  exact this _ _ _ rfl
def validP (p : Pfx) : Bool := decide (0 ≤ p.len ∧ p.len ≤ 32 ∧ (keepN p.addr.toNat p.len.toNat : Int) = p.addr)
theorem valid_gives178 (p : Pfx) (h : p.ok) : Gives G 178 [.agg p.enc] [] ⟨.bool (validP p), []⟩ := by
  obtain ⟨a, n⟩ := p
  obtain ⟨x, rfl⟩ : ∃ x : Nat, a = x := ⟨a.toNat, by have := h.addr; unfold okU at this; simp only at this; omega⟩
  have hx : x < 4294967296 := by have := h.addr; unfold okU at this; simp only at this; omega
  have hk := keep_gives181 x n hx
  have hkl := keepN_le x (clampN n)
  by_cases hn : 0 ≤ n ∧ n ≤ 32
  · obtain ⟨n0, n1⟩ := hn
    have hc : clampN n = n.toNat := by unfold clampN; repeat' split <;> omega
    rw [hc] at hk hkl
    by_cases hq : keepN x n.toNat = x
    · rw [show validP ⟨x, n⟩ = true from by simp [validP, n0, n1, hq]]
      rw [hq] at hk
      refine gives_code (F := f178) rfl rfl (W_ok 300 _ _ _ _ ?_)
      repeat' (first | refine stpA ?_ | (refine condS ?_ ?_ <;> intro h))
      (first | refine fin1 ?_ | refine fin0 ?_); simp
    · rw [show validP ⟨x, n⟩ = false from by simp only [validP, decide_eq_false_iff_not]; intro hh; exact hq (by have := hh.2.2; simp only [Int.toNat_natCast] at this; omega)]
      have hq2 : ¬ ((keepN x n.toNat : Nat) : Int) = (x : Int) := by omega
      generalize keepN x n.toNat = kq at *
      refine gives_code (F := f178) rfl rfl (W_ok 300 _ _ _ _ ?_)
      repeat' (first | refine stpA ?_ | (refine condS ?_ ?_ <;> intro h))
      (first | refine fin1 ?_ | refine fin0 ?_); simp [hq2]
  · rw [show validP ⟨x, n⟩ = false from by simp [validP]; omega]
    by_cases n0 : 0 ≤ n
    · have n1 : ¬ n ≤ 32 := by omega
      refine gives_code (F := f178) rfl rfl (W_ok 300 _ _ _ _ ?_)
      repeat' (first | refine stpA ?_ | (refine condS ?_ ?_ <;> intro h))
      (first | refine fin1 ?_ | refine fin0 ?_); rfl
    · refine gives_code (F := f178) rfl rfl (W_ok 300 _ _ _ _ ?_)
      repeat' (first | refine stpA ?_ | (refine condS ?_ ?_ <;> intro h))
      (first | refine fin1 ?_ | refine fin0 ?_); rfl
end Go.AM.IR
set_option maxHeartbeats 4000000
set_option maxRecDepth 20000
namespace Go.AM.IR
theorem valid_gives179 (p : Pfx) (h : p.ok) : Gives G 179 [.agg p.enc] [] ⟨.bool (validP p), []⟩ := by
  obtain ⟨a, n⟩ := p
  obtain ⟨x, rfl⟩ : ∃ x : Nat, a = x := ⟨a.toNat, by have := h.addr; unfold okU at this; simp only at this; omega⟩
  have hx : x < 4294967296 := by have := h.addr; unfold okU at this; simp only at this; omega
  have hk := keep_gives182 x n hx
  have hkl := keepN_le x (clampN n)
  by_cases hn : 0 ≤ n ∧ n ≤ 32
  · obtain ⟨n0, n1⟩ := hn
    have hc : clampN n = n.toNat := by unfold clampN; repeat' split <;> omega
    rw [hc] at hk hkl
    by_cases hq : keepN x n.toNat = x
    · rw [show validP ⟨x, n⟩ = true from by simp [validP, n0, n1, hq]]
      rw [hq] at hk
      refine gives_code (F := f179) rfl rfl (W_ok 300 _ _ _ _ ?_)
      repeat' (first | refine stpA ?_ | (refine condS ?_ ?_ <;> intro h))
      (first | refine fin1 ?_ | refine fin0 ?_); simp
    · rw [show validP ⟨x, n⟩ = false from by simp only [validP, decide_eq_false_iff_not]; intro hh; exact hq (by have := hh.2.2; simp only [Int.toNat_natCast] at this; omega)]
      have hq2 : ¬ ((keepN x n.toNat : Nat) : Int) = (x : Int) := by omega
      generalize keepN x n.toNat = kq at *
      refine gives_code (F := f179) rfl rfl (W_ok 300 _ _ _ _ ?_)
      repeat' (first | refine stpA ?_ | (refine condS ?_ ?_ <;> intro h))
      (first | refine fin1 ?_ | refine fin0 ?_); simp [hq2]
  · rw [show validP ⟨x, n⟩ = false from by simp [validP]; omega]
    by_cases n0 : 0 ≤ n
    · have n1 : ¬ n ≤ 32 := by omega
      refine gives_code (F := f179) rfl rfl (W_ok 300 _ _ _ _ ?_)
      repeat' (first | refine stpA ?_ | (refine condS ?_ ?_ <;> intro h))
      (first | refine fin1 ?_ | refine fin0 ?_); rfl
    · refine gives_code (F := f179) rfl rfl (W_ok 300 _ _ _ _ ?_)
      repeat' (first | refine stpA ?_ | (refine condS ?_ ?_ <;> intro h))
      (first | refine fin1 ?_ | refine fin0 ?_); rfl
def cmpP (p q : Pfx) : Int := if p.addr < q.addr ∨ (p.addr = q.addr ∧ p.len < q.len) then -1 else if p = q then 0 else 1
theorem cmp_gives172 (p q : Pfx) : Gives G 172 [.agg p.enc, .agg q.enc] [] ⟨.int .i64 (cmpP p q), []⟩ := by
  have hee : (p = q) ↔ (p.addr = q.addr ∧ p.len = q.len) := by cases p; cases q; simp
  by_cases h1 : p.addr < q.addr
  · rw [show cmpP p q = -1 from by simp [cmpP, h1]]
    refine gives_code (F := f172) rfl rfl (W_ok 300 _ _ _ _ ?_)
    repeat' (first | refine stpA ?_ | (refine condS ?_ ?_ <;> intro h))
    all_goals ((first | refine fin1 ?_ | refine fin0 ?_); first | rfl | (exfalso; omega))
  · by_cases h2 : p.addr = q.addr
    · by_cases h3 : p.len < q.len
      · rw [show cmpP p q = -1 from by simp [cmpP, h2, h3]]
        refine gives_code (F := f172) rfl rfl (W_ok 300 _ _ _ _ ?_)
        repeat' (first | refine stpA ?_ | (refine condS ?_ ?_ <;> intro h))
        all_goals ((first | refine fin1 ?_ | refine fin0 ?_); first | rfl | (exfalso; omega))
      · by_cases h4 : p.len = q.len
        · rw [show cmpP p q = 0 from by simp [cmpP, h2, h4, hee]]
          refine gives_code (F := f172) rfl rfl (W_ok 300 _ _ _ _ ?_)
          repeat' (first | refine stpA ?_ | (refine condS ?_ ?_ <;> intro h))
          all_goals ((first | refine fin1 ?_ | refine fin0 ?_); first | rfl | (exfalso; omega))
        · rw [show cmpP p q = 1 from by simp [cmpP, h2, h3, h4, hee]]
          refine gives_code (F := f172) rfl rfl (W_ok 300 _ _ _ _ ?_)
          repeat' (first | refine stpA ?_ | (refine condS ?_ ?_ <;> intro h))
          all_goals ((first | refine fin1 ?_ | refine fin0 ?_); first | rfl | (exfalso; omega))
    · rw [show cmpP p q = 1 from by simp [cmpP, h1, h2, hee]]
      refine gives_code (F := f172) rfl rfl (W_ok 300 _ _ _ _ ?_)
      repeat' (first | refine stpA ?_ | (refine condS ?_ ?_ <;> intro h))
      all_goals ((first | refine fin1 ?_ | refine fin0 ?_); first | rfl | (exfalso; omega))
theorem cmp_gives180 (p q : Pfx) : Gives G 180 [.agg p.enc, .agg q.enc] [] ⟨.int .i64 (cmpP p q), []⟩ := by
  have hee : (p = q) ↔ (p.addr = q.addr ∧ p.len = q.len) := by cases p; cases q; simp
  by_cases h1 : p.addr < q.addr
  · rw [show cmpP p q = -1 from by simp [cmpP, h1]]
    refine gives_code (F := f180) rfl rfl (W_ok 300 _ _ _ _ ?_)
    repeat' (first | refine stpA ?_ | (refine condS ?_ ?_ <;> intro h))
    all_goals ((first | refine fin1 ?_ | refine fin0 ?_); first | rfl | (exfalso; omega))
  · by_cases h2 : p.addr = q.addr
    · by_cases h3 : p.len < q.len
      · rw [show cmpP p q = -1 from by simp [cmpP, h2, h3]]
        refine gives_code (F := f180) rfl rfl (W_ok 300 _ _ _ _ ?_)
        repeat' (first | refine stpA ?_ | (refine condS ?_ ?_ <;> intro h))
        all_goals ((first | refine fin1 ?_ | refine fin0 ?_); first | rfl | (exfalso; omega))
      · by_cases h4 : p.len = q.len
        · rw [show cmpP p q = 0 from by simp [cmpP, h2, h4, hee]]
          refine gives_code (F := f180) rfl rfl (W_ok 300 _ _ _ _ ?_)
          repeat' (first | refine stpA ?_ | (refine condS ?_ ?_ <;> intro h))
          all_goals ((first | refine fin1 ?_ | refine fin0 ?_); first | rfl | (exfalso; omega))
        · rw [show cmpP p q = 1 from by simp [cmpP, h2, h3, h4, hee]]
          refine gives_code (F := f180) rfl rfl (W_ok 300 _ _ _ _ ?_)
          repeat' (first | refine stpA ?_ | (refine condS ?_ ?_ <;> intro h))
          all_goals ((first | refine fin1 ?_ | refine fin0 ?_); first | rfl | (exfalso; omega))
    · rw [show cmpP p q = 1 from by simp [cmpP, h1, h2, hee]]
      refine gives_code (F := f180) rfl rfl (W_ok 300 _ _ _ _ ?_)
      repeat' (first | refine stpA ?_ | (refine condS ?_ ?_ <;> intro h))
      all_goals ((first | refine fin1 ?_ | refine fin0 ?_); first | rfl | (exfalso; omega))
end Go.AM.IR
set_option maxHeartbeats 4000000
set_option maxRecDepth 20000
namespace Go.AM.IR
theorem cmpP_zero (p q : Pfx) : cmpP p q = 0 ↔ p = q := by
  unfold cmpP
  split
  · rename_i h
    constructor
    · intro h1; omega
    · rintro rfl; omega
  · split <;> simp_all
theorem cmpP_swap (p q : Pfx) : cmpP q p = - cmpP p q := by
  have hee : (p = q) ↔ (p.addr = q.addr ∧ p.len = q.len) := by cases p; cases q; simp
  have hee2 : (q = p) ↔ (p.addr = q.addr ∧ p.len = q.len) := by rw [← hee]; exact eq_comm
  unfold cmpP
  simp only [hee, hee2]
  repeat' split
  all_goals omega
def pfxE : Option Pfx → List Pfx → Int
  | _, [] => 0
  | p, x :: r => if validP x = false then 1 else if p.any (fun q => decide (cmpP x q ≤ 0)) then 16 else pfxE (some x) r
theorem pfx_loop171 (l : List Pfx) (hok : ∀ x ∈ l, x.ok) (hl : l.length < 2 ^ 40) (ln : Int) (hln : ln = l.length) : ∀ (rest done : List Pfx) (p : Option Pfx) (T : List (Nat × AV)) (H : Heap) (c : Nat) (n : Int) (e : l = done ++ rest) (hn : n = done.length) (hp : p = done.getLast?), Ev G ⟨f171x9LH, ⟨(5, .sl 2 (l.map Pfx.enc)) :: (6, .int .i64 ln) :: (7, .int .i64 n) :: (0, .sl 2 (l.map Pfx.enc)) :: T, H, c⟩, [.t 2], 0⟩ (⟨.int .i64 (pfxE p rest), []⟩)
  | [], done, p, T, H, c, n, e, hn, hp => by
    have hd : l.length = done.length := by simp [e]
    have hll : (l.map Pfx.enc).length = l.length := by simp
    refine ev_loop' (W_ok 300 _ _ _ _ ?_)
    repeat' (first | refine stpA ?_ | (refine condS ?_ ?_ <;> intro h))
    all_goals try ((first | refine fin1 ?_ | refine fin0 ?_); first | rfl | (simp [pfxE, Bool.cond_eq_ite, *]; done) | (simp [pfxE, Bool.cond_eq_ite, *]; omega) | (unfold pfxE; repeat' split; all_goals first | rfl | (exfalso; omega) | (simp_all; done) | (simp_all; omega)))
  | x :: r, done, p, T, H, c, n, e, hn, hp => by
    have hd : l.length = done.length + (r.length + 1) := by simp [e]
    have hll : (l.map Pfx.enc).length = l.length := by simp
    have hx : (l.map Pfx.enc)[n.toNat]? = some (Pfx.enc x) := by simp [e, hn]
    have hv := valid_gives178 x (hok x (by simp [e]))
    rcases List.eq_nil_or_concat done with hd0 | ⟨d, q, hd1⟩
    · have hn' : n = 0 := by rw [hn, hd0]; rfl
      obtain rfl : p = none := by rw [hp, hd0]; rfl
      cases hvx : validP x
      · rw [hvx] at hv
        rw [show pfxE none (x :: r) = 1 from by simp [pfxE, hvx]]
        refine ev_loop' (W_ok 300 _ _ _ _ ?_)
        repeat' (first | refine stpA ?_ | (refine condS ?_ ?_ <;> intro h))
        (first | refine fin1 ?_ | refine fin0 ?_); rfl
      · rw [hvx] at hv
        rw [show pfxE none (x :: r) = pfxE (some x) r from by simp [pfxE, hvx]]
        refine ev_loop' (W_ok 300 _ _ _ _ ?_)
        repeat' (first | refine stpA ?_ | (refine condS ?_ ?_ <;> intro h))
        refine ev_keep [5, 6, 7, 0] [] ?_; exact pfx_loop171 l hok hl ln hln r (done ++ [x]) (some x) _ _ _ (n + 1) (by simp [e]) (by simp [hn] <;> omega) (by simp)
    · have hn' : n - 1 = d.length := by rw [hn, hd1]; simp
      have hn2 : n > 0 := by omega
      obtain rfl : p = some q := by rw [hp, hd1]; simp
      have hy : (l.map Pfx.enc)[(n - 1).toNat]? = some (Pfx.enc q) := by rw [e, hd1, hn']; simp
      have hb : (n - 1).toNat < (l.map Pfx.enc).length := by rw [hll, hd, hd1]; simp; omega
      have hc := cmp_gives172 x q
      cases hvx : validP x
      · rw [hvx] at hv
        rw [show pfxE (some q) (x :: r) = 1 from by simp [pfxE, hvx]]
        refine ev_loop' (W_ok 300 _ _ _ _ ?_)
        repeat' (first | refine stpA ?_ | (refine condS ?_ ?_ <;> intro h))
        (first | refine fin1 ?_ | refine fin0 ?_); rfl
      · rw [hvx] at hv
        by_cases hcx : cmpP x q ≤ 0
        · rw [show pfxE (some q) (x :: r) = 16 from by simp [pfxE, hvx, hcx]]
          generalize cmpP x q = cv at *
          refine ev_loop' (W_ok 300 _ _ _ _ ?_)
          repeat' (first | refine stpA ?_ | (refine condS ?_ ?_ <;> intro h))
          (first | refine fin1 ?_ | refine fin0 ?_); rfl
        · rw [show pfxE (some q) (x :: r) = pfxE (some x) r from by simp [pfxE, hvx, hcx]]
          generalize cmpP x q = cv at *
          refine ev_loop' (W_ok 300 _ _ _ _ ?_)
          repeat' (first | refine stpA ?_ | (refine condS ?_ ?_ <;> intro h))
          refine ev_keep [5, 6, 7, 0] [] ?_; exact pfx_loop171 l hok hl ln hln r (done ++ [x]) (some x) _ _ _ (n + 1) (by simp [e]) (by simp [hn] <;> omega) (by simp)
theorem pfx_gives171 (l : List Pfx) (hl : l.length < 2 ^ 40) (hok : ∀ x ∈ l, x.ok) : Gives G 171 [.sl 2 (l.map Pfx.enc)] [] ⟨.int .i64 (pfxE none l), []⟩ := by
  have l1 : (l.map Pfx.enc).length = l.length := by simp
  refine gives_code (F := f171) rfl rfl (W_ok 300 _ _ _ _ ?_)
  repeat' (first | refine stpA ?_ | (refine condS ?_ ?_ <;> intro h))
  refine ev_keep [5, 6, 7, 0] [] ?_
  rw [l1]
  exact pfx_loop171 l hok hl _ rfl l [] none _ _ _ 0 rfl rfl rfl
theorem pfx_loop174 (l : List Pfx) (hok : ∀ x ∈ l, x.ok) (hl : l.length < 2 ^ 40) (ln : Int) (hln : ln = l.length) : ∀ (rest done : List Pfx) (p : Option Pfx) (T : List (Nat × AV)) (H : Heap) (c : Nat) (n : Int) (e : l = done ++ rest) (hn : n = done.length) (hp : p = done.getLast?), Ev G ⟨f174x9LH, ⟨(5, .sl 2 (l.map Pfx.enc)) :: (6, .int .i64 ln) :: (7, .int .i64 n) :: (0, .sl 2 (l.map Pfx.enc)) :: T, H, c⟩, [.t 2], 0⟩ (⟨.int .i64 (pfxE p rest), []⟩)
  | [], done, p, T, H, c, n, e, hn, hp => by
    have hd : l.length = done.length := by simp [e]
    have hll : (l.map Pfx.enc).length = l.length := by simp
    refine ev_loop' (W_ok 300 _ _ _ _ ?_)
    repeat' (first | refine stpA ?_ | (refine condS ?_ ?_ <;> intro h))
    all_goals try ((first | refine fin1 ?_ | refine fin0 ?_); first | rfl | (simp [pfxE, Bool.cond_eq_ite, *]; done) | (simp [pfxE, Bool.cond_eq_ite, *]; omega) | (unfold pfxE; repeat' split; all_goals first | rfl | (exfalso; omega) | (simp_all; done) | (simp_all; omega)))
  | x :: r, done, p, T, H, c, n, e, hn, hp => by
    have hd : l.length = done.length + (r.length + 1) := by simp [e]
    have hll : (l.map Pfx.enc).length = l.length := by simp
    have hx : (l.map Pfx.enc)[n.toNat]? = some (Pfx.enc x) := by simp [e, hn]
    have hv := valid_gives179 x (hok x (by simp [e]))
    rcases List.eq_nil_or_concat done with hd0 | ⟨d, q, hd1⟩
    · have hn' : n = 0 := by rw [hn, hd0]; rfl
      obtain rfl : p = none := by rw [hp, hd0]; rfl
      cases hvx : validP x
      · rw [hvx] at hv
        rw [show pfxE none (x :: r) = 1 from by simp [pfxE, hvx]]
        refine ev_loop' (W_ok 300 _ _ _ _ ?_)
        repeat' (first | refine stpA ?_ | (refine condS ?_ ?_ <;> intro h))
        (first | refine fin1 ?_ | refine fin0 ?_); rfl
      · rw [hvx] at hv
        rw [show pfxE none (x :: r) = pfxE (some x) r from by simp [pfxE, hvx]]
        refine ev_loop' (W_ok 300 _ _ _ _ ?_)
        repeat' (first | refine stpA ?_ | (refine condS ?_ ?_ <;> intro h))
        refine ev_keep [5, 6, 7, 0] [] ?_; exact pfx_loop174 l hok hl ln hln r (done ++ [x]) (some x) _ _ _ (n + 1) (by simp [e]) (by simp [hn] <;> omega) (by simp)
    · have hn' : n - 1 = d.length := by rw [hn, hd1]; simp
      have hn2 : n > 0 := by omega
      obtain rfl : p = some q := by rw [hp, hd1]; simp
      have hy : (l.map Pfx.enc)[(n - 1).toNat]? = some (Pfx.enc q) := by rw [e, hd1, hn']; simp
      have hb : (n - 1).toNat < (l.map Pfx.enc).length := by rw [hll, hd, hd1]; simp; omega
      have hc := cmp_gives180 q x
      have hsw := cmpP_swap x q
      cases hvx : validP x
      · rw [hvx] at hv
        rw [show pfxE (some q) (x :: r) = 1 from by simp [pfxE, hvx]]
        refine ev_loop' (W_ok 300 _ _ _ _ ?_)
        repeat' (first | refine stpA ?_ | (refine condS ?_ ?_ <;> intro h))
        (first | refine fin1 ?_ | refine fin0 ?_); rfl
      · rw [hvx] at hv
        by_cases hcx : cmpP x q ≤ 0
        · rw [show pfxE (some q) (x :: r) = 16 from by simp [pfxE, hvx, hcx]]
          generalize cmpP x q = cv at *
          generalize cmpP q x = cw at *
          refine ev_loop' (W_ok 300 _ _ _ _ ?_)
          repeat' (first | refine stpA ?_ | (refine condS ?_ ?_ <;> intro h))
          (first | refine fin1 ?_ | refine fin0 ?_); rfl
        · rw [show pfxE (some q) (x :: r) = pfxE (some x) r from by simp [pfxE, hvx, hcx]]
          generalize cmpP x q = cv at *
          generalize cmpP q x = cw at *
          refine ev_loop' (W_ok 300 _ _ _ _ ?_)
          repeat' (first | refine stpA ?_ | (refine condS ?_ ?_ <;> intro h))
          refine ev_keep [5, 6, 7, 0] [] ?_; exact pfx_loop174 l hok hl ln hln r (done ++ [x]) (some x) _ _ _ (n + 1) (by simp [e]) (by simp [hn] <;> omega) (by simp)
theorem pfx_gives174 (l : List Pfx) (hl : l.length < 2 ^ 40) (hok : ∀ x ∈ l, x.ok) : Gives G 174 [.sl 2 (l.map Pfx.enc)] [] ⟨.int .i64 (pfxE none l), []⟩ := by
  have l1 : (l.map Pfx.enc).length = l.length := by simp
  refine gives_code (F := f174) rfl rfl (W_ok 300 _ _ _ _ ?_)
  repeat' (first | refine stpA ?_ | (refine condS ?_ ?_ <;> intro h))
  refine ev_keep [5, 6, 7, 0] [] ?_
  rw [l1]
  exact pfx_loop174 l hok hl _ rfl l [] none _ _ _ 0 rfl rfl rfl
def comF : Nat → List Pfx → List Pfx → Bool
  | 0, _, _ => false
  | _ + 1, [], _ => false
  | _ + 1, _ :: _, [] => false
  | N + 1, x :: a, y :: b => if cmpP x y = 0 then true else if cmpP x y < 0 then comF N a (y :: b) else comF N (x :: a) b
theorem com_loop175 (a b : List Pfx) (ha : a.length < 2 ^ 40) (hb : b.length < 2 ^ 40) : ∀ (N : Nat) (ra da rb db : List Pfx) (T : List (Nat × AV)) (H : Heap) (c : Nat) (i k : Int) (e1 : a = da ++ ra) (e2 : b = db ++ rb) (hi : i = da.length) (hk : k = db.length) (hN : ra.length + rb.length < N),
   Ev G ⟨f175x9LH, ⟨(5, .int .i64 i) :: (6, .int .i64 k) :: (1, .sl 2 (b.map Pfx.enc)) :: (0, .sl 2 (a.map Pfx.enc)) :: T, H, c⟩, [.t 4], 0⟩ (⟨.bool (comF N ra rb), []⟩)
  | 0, _, _, _, _, _, _, _, _, _, _, _, _, _, hN => by omega
  | N + 1, [], da, rb, db, T, H, c, i, k, e1, e2, hi, hk, hN => by
    have hd : a.length = da.length := by simp [e1]
    have hll : (a.map Pfx.enc).length = a.length := by simp
    rw [show comF (N + 1) [] rb = false from rfl]
    refine ev_loop' (W_ok 300 _ _ _ _ ?_)
    repeat' (first | refine stpA ?_ | (refine condS ?_ ?_ <;> intro h))
    (first | refine fin1 ?_ | refine fin0 ?_); rfl
  | N + 1, x :: ra, da, [], db, T, H, c, i, k, e1, e2, hi, hk, hN => by
    have hd : a.length = da.length + (ra.length + 1) := by simp [e1]
    have hd2 : b.length = db.length := by simp [e2]
    have hll : (a.map Pfx.enc).length = a.length := by simp
    have hl2 : (b.map Pfx.enc).length = b.length := by simp
    rw [show comF (N + 1) (x :: ra) [] = false from rfl]
    refine ev_loop' (W_ok 300 _ _ _ _ ?_)
    repeat' (first | refine stpA ?_ | (refine condS ?_ ?_ <;> intro h))
    (first | refine fin1 ?_ | refine fin0 ?_); rfl
  | N + 1, x :: ra, da, y :: rb, db, T, H, c, i, k, e1, e2, hi, hk, hN => by
    have hd : a.length = da.length + (ra.length + 1) := by simp [e1]
    have hd2 : b.length = db.length + (rb.length + 1) := by simp [e2]
    have hll : (a.map Pfx.enc).length = a.length := by simp
    have hl2 : (b.map Pfx.enc).length = b.length := by simp
    have hx : (a.map Pfx.enc)[i.toNat]? = some x.enc := by simp [e1, hi]
    have hy : (b.map Pfx.enc)[k.toNat]? = some y.enc := by simp [e2, hk]
    have hc := cmp_gives180 x y
    simp only [List.length_cons] at hN
    by_cases h0 : cmpP x y = 0
    · rw [show comF (N + 1) (x :: ra) (y :: rb) = true from by simp [comF, h0]]
      generalize cmpP x y = cv at *
      refine ev_loop' (W_ok 300 _ _ _ _ ?_)
      repeat' (first | refine stpA ?_ | (refine condS ?_ ?_ <;> intro h))
      (first | refine fin1 ?_ | refine fin0 ?_); rfl
    · by_cases h1 : cmpP x y < 0
      · rw [show comF (N + 1) (x :: ra) (y :: rb) = comF N ra (y :: rb) from by simp [comF, h0, h1]]
        generalize cmpP x y = cv at *
        refine ev_loop' (W_ok 300 _ _ _ _ ?_)
        repeat' (first | refine stpA ?_ | (refine condS ?_ ?_ <;> intro h))
        refine ev_keep [5, 6, 1, 0] [] ?_; exact com_loop175 a b ha hb N ra (da ++ [x]) (y :: rb) db _ _ _ (i + 1) k (by simp [e1]) e2 (by simp [hi]) hk (by simp only [List.length_cons]; omega)
      · rw [show comF (N + 1) (x :: ra) (y :: rb) = comF N (x :: ra) rb from by simp [comF, h0, h1]]
        generalize cmpP x y = cv at *
        refine ev_loop' (W_ok 300 _ _ _ _ ?_)
        repeat' (first | refine stpA ?_ | (refine condS ?_ ?_ <;> intro h))
        refine ev_keep [5, 6, 1, 0] [] ?_; exact com_loop175 a b ha hb N (x :: ra) da rb (db ++ [y]) _ _ _ i (k + 1) e1 (by simp [e2]) hi (by simp [hk]) (by simp only [List.length_cons]; omega)
def comS (a b : List Pfx) : Bool := comF (a.length + b.length + 1) a b
theorem com_gives175 (a b : List Pfx) (ha : a.length < 2 ^ 40) (hb : b.length < 2 ^ 40) : Gives G 175 [.sl 2 (a.map Pfx.enc), .sl 2 (b.map Pfx.enc)] [] ⟨.bool (comS a b), []⟩ := by
  refine gives_code (F := f175) rfl rfl (W_ok 300 _ _ _ _ ?_)
  repeat' (first | refine stpA ?_ | (refine condS ?_ ?_ <;> intro h))
  refine ev_keep [5, 6, 1, 0] [] ?_
  exact com_loop175 a b ha hb (a.length + b.length + 1) a [] b [] _ _ _ 0 0 rfl rfl rfl rfl (by omega)
end Go.AM.IR
set_option maxHeartbeats 4000000
set_option maxRecDepth 20000
namespace Go.AM.IR
theorem byte_step (acc : List UInt8) (x j : Nat) (i : Int) (hi : i = j) : byteCells acc ++ [[AV.int .u8 (UInt8.ofNat (x / 2 ^ (8 * i).toNat)).toNat]] = byteCells (acc ++ [UInt8.ofNat (x / 256 ^ j)]) := by
  subst hi
  rw [show (8 * (j : Int)).toNat = 8 * j from by omega, pow_256]
  simp [byteCells]
theorem num_loop120 (x : Nat) : ∀ (j : Nat) (acc : List UInt8) (T : List (Nat × AV)) (H : Heap) (c g m : Nat) (key : Nat) (es : List (List AV)) (i : Int) (hk : key = 69) (hi : i = (j : Int) - 1) (hj : j ≤ 8) (hm : m = acc.length) (hes : es = byteCells acc) (ha : acc.length + j < 2 ^ 40),
   Ev G ⟨f120x6LH, ⟨(6, .int .i64 i) :: (1, .int .u64 (x : Int)) :: (5, .vs 69 g m) :: T, (69, some (g, .vec 1 es)) :: H, c⟩, [.t 4], 0⟩ (rB (acc ++ be j x))
  | 0, acc, T, H, c, g, m, key, es, i, hk, hi, hj, hm, hes, ha => by
    refine ev_loop' (W_ok 300 _ _ _ _ ?_)
    repeat' (first | refine stpA ?_ | (refine condS ?_ ?_ <;> intro h))
    refine ev_retB 69 ⟨_, _, _, rfl, rfl, ?_, ?_⟩
    · simp [hm, be]
    · simp [hes, be]
  | j + 1, acc, T, H, c, g, m, key, es, i, hk, hi, hj, hm, hes, ha => by
    have hel : es.length = acc.length := by simp [hes]
    rw [show acc ++ be (j + 1) x = acc ++ [UInt8.ofNat (x / 256 ^ j)] ++ be j x from by simp [be]]
    refine ev_loop' (W_ok 300 _ _ _ _ ?_)
    repeat' (first | refine stpA ?_ | (refine condS ?_ ?_ <;> intro h))
    refine ev_keep [6, 1, 5] [69] ?_
    refine num_loop120 x j (acc ++ [UInt8.ofNat (x / 256 ^ j)]) _ _ _ _ _ key _ (i - 1) hk (by omega) (by omega) ?_ ?_ ?_
    · simp [hm]
    · rw [hes]; exact byte_step acc x j i (by omega)
    · simp; omega
theorem num_loop91 (x : Nat) : ∀ (j : Nat) (acc : List UInt8) (T : List (Nat × AV)) (H : Heap) (c g m : Nat) (key : Nat) (es : List (List AV)) (i : Int) (hk : key = 75) (hi : i = (j : Int) - 1) (hj : j ≤ 8) (hm : m = acc.length) (hes : es = byteCells acc) (ha : acc.length + j < 2 ^ 40),
   Ev G ⟨f91x7LH, ⟨(8, .int .i64 i) :: (2, .int .u64 (x : Int)) :: (7, .vs 75 g m) :: T, (75, some (g, .vec 1 es)) :: H, c⟩, [.t 6], 0⟩ (rB (acc ++ be j x))
  | 0, acc, T, H, c, g, m, key, es, i, hk, hi, hj, hm, hes, ha => by
    refine ev_loop' (W_ok 300 _ _ _ _ ?_)
    repeat' (first | refine stpA ?_ | (refine condS ?_ ?_ <;> intro h))
    refine ev_retB 75 ⟨_, _, _, rfl, rfl, ?_, ?_⟩
    · simp [hm, be]
    · simp [hes, be]
  | j + 1, acc, T, H, c, g, m, key, es, i, hk, hi, hj, hm, hes, ha => by
    have hel : es.length = acc.length := by simp [hes]
    rw [show acc ++ be (j + 1) x = acc ++ [UInt8.ofNat (x / 256 ^ j)] ++ be j x from by simp [be]]
    refine ev_loop' (W_ok 300 _ _ _ _ ?_)
    repeat' (first | refine stpA ?_ | (refine condS ?_ ?_ <;> intro h))
    refine ev_keep [8, 2, 7] [75] ?_
    refine num_loop91 x j (acc ++ [UInt8.ofNat (x / 256 ^ j)]) _ _ _ _ _ key _ (i - 1) hk (by omega) (by omega) ?_ ?_ ?_
    · simp [hm]
    · rw [hes]; exact byte_step acc x j i (by omega)
    · simp; omega
theorem number_gives120 (n x : Nat) (hn : n ≤ 8) : Gives G 120 [.int .i64 n, .int .u64 (x : Int)] [] (rB (be n x)) := by
  refine gives_code (F := f120) rfl rfl (W_ok 300 _ _ _ _ ?_)
  repeat' (first | refine stpA ?_ | (refine condS ?_ ?_ <;> intro h))
  refine ev_nil 69 1 [(5, .vs 69 _ 0)] [] ⟨LeP.nilV _ _ _, trivial⟩ trivial ?_
  refine ev_keep [6, 1, 5] [69] ?_
  exact num_loop120 x n [] _ _ _ _ _ 69 _ _ rfl rfl hn rfl rfl (by simp; omega)
theorem put_gives91 (b : List UInt8) (hb : b.length < 2 ^ 39) (n x : Nat) (hn : n ≤ 8) : Gives G 91 [.sl 1 (byteCells b), .int .i64 n, .int .u64 (x : Int)] [] (rB (b ++ be n x)) := by
  have hbl := byteCells_length b
  refine gives_code (F := f91) rfl rfl (W_ok 300 _ _ _ _ ?_)
  repeat' (first | refine stpA ?_ | (refine condS ?_ ?_ <;> intro h))
  refine ev_keep [8, 2, 7] [75] ?_
  exact num_loop91 x n b _ _ _ _ _ 75 _ _ rfl rfl hn (by simp) rfl (by omega)
def cat (l : List (List UInt8)) : List UInt8 := l.flatMap id
def bEnc (l : List UInt8) : List AV := [.sl 1 (byteCells l)]
theorem app_loop119 (l : List (List UInt8)) (hc : (cat l).length < 2 ^ 40) (hl : l.length < 2 ^ 40) (ln : Int) (hln : ln = l.length) : ∀ (rest done : List (List UInt8)) (g m : Nat) (es : List (List AV)) (T : List (Nat × AV)) (H : Heap) (c : Nat) (n : Int) (e : l = done ++ rest) (hn : n = done.length) (hm : m = (cat done).length) (hes : es = byteCells (cat done)), Ev G ⟨f119x14LH, ⟨(22, .sl 1 (l.map bEnc)) :: (23, .int .i64 ln) :: (24, .int .i64 n) :: (6, .vs 85 g m) :: T, (85, some (g, .vec 1 es)) :: H, c⟩, [.t 2], 0⟩ (rB (cat l))
  | [], done, g, m, es, T, H, c, n, e, hn, hm, hes => by
    have hd : l.length = done.length := by simp [e]
    have hll : (l.map bEnc).length = l.length := by simp
    obtain rfl : l = done := by simpa using e
    refine ev_loop' (W_ok 300 _ _ _ _ ?_)
    repeat' (first | refine stpA ?_ | (refine condS ?_ ?_ <;> intro h))
    exact ev_retB 85 ⟨_, _, _, rfl, rfl, hm, hes⟩
  | x :: r, done, g, m, es, T, H, c, n, e, hn, hm, hes => by
    have hd : l.length = done.length + (r.length + 1) := by simp [e]
    have hll : (l.map bEnc).length = l.length := by simp
    have hx : (l.map bEnc)[n.toNat]? = some (bEnc x) := by simp [e, hn]
    have hcl : (cat l).length = (cat done).length + (x.length + (cat r).length) := by rw [e]; simp [cat]
    have hbl := byteCells_length x
    have hel : m = es.length := by rw [hm, hes]; simp
    refine ev_loop' (W_ok 300 _ _ _ _ ?_)
    repeat' (first | refine stpA ?_ | (refine condS ?_ ?_ <;> intro h))
    refine ev_keep [22, 23, 24, 6] [85] ?_; exact app_loop119 l hc hl ln hln r (done ++ [x]) _ _ _ _ _ _ (n + 1) (by simp [e]) (by simp [hn] <;> omega) (by simp [hm, cat]) (by rw [hes]; simp [cat])
theorem len_loop119 (l : List (List UInt8)) (hc : (cat l).length < 2 ^ 40) (hl : l.length < 2 ^ 40) (ln : Int) (hln : ln = l.length) : ∀ (rest done : List (List UInt8)) (s : Int) (T : List (Nat × AV)) (H : Heap) (c : Nat) (n : Int) (e : l = done ++ rest) (hn : n = done.length) (hs : s = (cat done).length), Ev G ⟨f119x7LH, ⟨(9, .sl 1 (l.map bEnc)) :: (10, .int .i64 ln) :: (11, .int .i64 n) :: (3, .int .i64 s) :: (0, .sl 1 (l.map bEnc)) :: T, H, c⟩, [.t 2], 0⟩ (rB (cat l))
  | [], done, s, T, H, c, n, e, hn, hs => by
    have hd : l.length = done.length := by simp [e]
    have hll : (l.map bEnc).length = l.length := by simp
    obtain rfl : l = done := by simpa using e
    refine ev_loop' (W_ok 300 _ _ _ _ ?_)
    repeat' (first | refine stpA ?_ | (refine condS ?_ ?_ <;> intro h))
    refine ev_keep [22, 23, 24, 6] [85] ?_
    exact app_loop119 l hc hl _ (by simp) l [] _ 0 _ _ _ _ 0 rfl rfl rfl rfl
  | x :: r, done, s, T, H, c, n, e, hn, hs => by
    have hd : l.length = done.length + (r.length + 1) := by simp [e]
    have hll : (l.map bEnc).length = l.length := by simp
    have hx : (l.map bEnc)[n.toNat]? = some (bEnc x) := by simp [e, hn]
    have hcl : (cat l).length = (cat done).length + (x.length + (cat r).length) := by rw [e]; simp [cat]
    have hbl := byteCells_length x
    refine ev_loop' (W_ok 300 _ _ _ _ ?_)
    repeat' (first | refine stpA ?_ | (refine condS ?_ ?_ <;> intro h))
    refine ev_keep [9, 10, 11, 3, 0] [] ?_; exact len_loop119 l hc hl ln hln r (done ++ [x]) _ _ _ _ (n + 1) (by simp [e]) (by simp [hn] <;> omega) (by rw [hs]; simp [cat])
theorem join_gives119 (l : List (List UInt8)) (hl : l.length < 2 ^ 40) (hc : (cat l).length < 2 ^ 40) : Gives G 119 [.sl 1 (l.map bEnc)] [] (rB (cat l)) := by
  refine gives_code (F := f119) rfl rfl (W_ok 300 _ _ _ _ ?_)
  repeat' (first | refine stpA ?_ | (refine condS ?_ ?_ <;> intro h))
  refine ev_keep [9, 10, 11, 3, 0] [] ?_
  exact len_loop119 l hc hl _ (by simp) l [] _ _ _ _ 0 rfl rfl rfl
theorem put_gives109 (b : List UInt8) (hb : b.length < 2 ^ 39) (n x : Nat) (hn : n ≤ 8) : Gives G 109 [.sl 1 (byteCells b), .int .i64 n, .int .u64 (x : Int)] [] (rB (b ++ be n x)) := by
  have hj := join_gives119 [b, be n x] (by simp) (by simp [cat, be_length]; omega)
  rw [show cat [b, be n x] = b ++ be n x from by simp [cat]] at hj
  refine gives_code (F := f109) rfl rfl (W_ok 300 _ _ _ _ ?_)
  repeat' (first | refine stpA ?_ | refine kN (number_gives120 n x hn) ?_ | refine kB [(76, _, _)] ⟨rfl, pz trivial⟩ ?_ | refine kX [] [(77, _, _)] trivial ⟨rfl, pz trivial⟩ (hj) ?_ | (refine condS ?_ ?_ <;> intro h))
  exact ev_retB 78 ⟨_, _, _, rfl, rfl, rfl, rfl⟩
end Go.AM.IR
set_option maxHeartbeats 4000000
set_option maxRecDepth 20000
namespace Go.AM.IR
def wd (wide : Bool) : Nat := if wide = true then 4 else 2
theorem width_gives96 (wide : Bool) : Gives G 96 [.bool wide] [] ⟨.int .i64 (wd wide : Nat), []⟩ := by
  cases wide
  · refine gives_code (F := f96) rfl rfl (W_ok 300 _ _ _ _ ?_)
    repeat' (first | refine stpA ?_ | (refine condS ?_ ?_ <;> intro h))
    all_goals try ((first | refine fin1 ?_ | refine fin0 ?_); first | rfl | (simp [Bool.cond_eq_ite, *]; done) | (simp [Bool.cond_eq_ite, *]; omega))
  · refine gives_code (F := f96) rfl rfl (W_ok 300 _ _ _ _ ?_)
    repeat' (first | refine stpA ?_ | (refine condS ?_ ?_ <;> intro h))
    all_goals try ((first | refine fin1 ?_ | refine fin0 ?_); first | rfl | (simp [Bool.cond_eq_ite, *]; done) | (simp [Bool.cond_eq_ite, *]; omega))
theorem width_gives92 (wide : Bool) : Gives G 92 [.bool wide] [] ⟨.int .i64 (wd wide : Nat), []⟩ := by
  cases wide
  · refine gives_code (F := f92) rfl rfl (W_ok 300 _ _ _ _ ?_)
    repeat' (first | refine stpA ?_ | (refine condS ?_ ?_ <;> intro h))
    all_goals try ((first | refine fin1 ?_ | refine fin0 ?_); first | rfl | (simp [Bool.cond_eq_ite, *]; done) | (simp [Bool.cond_eq_ite, *]; omega))
  · refine gives_code (F := f92) rfl rfl (W_ok 300 _ _ _ _ ?_)
    repeat' (first | refine stpA ?_ | (refine condS ?_ ?_ <;> intro h))
    all_goals try ((first | refine fin1 ?_ | refine fin0 ?_); first | rfl | (simp [Bool.cond_eq_ite, *]; done) | (simp [Bool.cond_eq_ite, *]; omega))
theorem put0_gives109 (n x : Nat) (hn : n ≤ 8) : Gives G 109 [.con (.slice none 0 0), .int .i64 n, .int .u64 (x : Int)] [] (rB (be n x)) :=
  gives_le rfl (put_gives109 [] (by simp) n x hn) ⟨LeP.nil 1, .refl _, .refl _, trivial⟩
theorem put0_gives91 (n x : Nat) (hn : n ≤ 8) : Gives G 91 [.con (.slice none 0 0), .int .i64 n, .int .u64 (x : Int)] [] (rB (be n x)) :=
  gives_le rfl (put_gives91 [] (by simp) n x hn) ⟨LeP.nil 1, .refl _, .refl _, trivial⟩
theorem number_gives85 (m : Nat) (hm : m < 2 ^ 63) : Gives G 85 [.int .i64 (m : Int)] [] (rB (be 4 m)) := by
  refine gives_code (F := f85) rfl rfl (W_ok 300 _ _ _ _ ?_)
  repeat' (first | refine stpA ?_ | refine kN (put0_gives109 4 m (by omega)) ?_ | (refine condS ?_ ?_ <;> intro h))
  exact ev_retB 69 ⟨_, _, _, rfl, rfl, rfl, rfl⟩
theorem number85 (n : Int) (h0 : 0 ≤ n) (h1 : n < 2 ^ 63) : Gives G 85 [.int .i64 n] [] (rB (be 4 n.toNat)) := by
  have h := number_gives85 n.toNat (by omega)
  rwa [show ((n.toNat : Nat) : Int) = n from by omega] at h
def badN (wide bad : Bool) (n : Int) : Bool := bad || (!wide && decide (n > 65535))
theorem as_gives86 (n : Nat) (h1 : n < 2 ^ 63) (wide bad : Bool) (b : List UInt8) : Gives G 86 [.ref 0 0 0, .int .i64 (n : Int)] [.cells [.vs 1 0 b.length, .bool wide, .bool bad], .vec 1 (byteCells b)]
    ⟨.vs 2 0 (be (wd wide) n).length, [(true, .cells [.vs 1 0 b.length, .bool wide, .bool (badN wide bad n)]), (true, .vec 1 (byteCells b)), (false, .vec 1 (byteCells (be (wd wide) n)))]⟩ := by
  have hw : wd wide ≤ 8 := by unfold wd; split <;> omega
  have hp := put0_gives109 (wd wide) n hw
  have hq := width_gives96 wide
  generalize wd wide = w at *
  refine gives_code (F := f86) rfl rfl (W_ok 300 _ _ _ _ ?_)
  repeat' (first | refine stpA ?_ | (refine condS ?_ ?_ <;> intro h))
  all_goals ((conv => whnf); first | refine finX1 [(0, _, _), (1, _, _)] [(94, _, _)] [true, true] ?_ | refine finX0 [(0, _, _), (1, _, _)] [(94, _, _)] [true, true] ?_)
  all_goals (simp [flB, Blk.renX, renXL, AV.renX, zidx, badN, *]; exact ⟨rfl, rfl⟩)
theorem fm_length : ∀ l : List Int, (l.flatMap fun x => be 4 x.toNat).length = 4 * l.length
  | [] => rfl
  | x :: r => by
    have := fm_length r
    simp [be_length] at this ⊢; omega
theorem words_loop87 (l : List Int) (h0 : ∀ x ∈ l, 0 ≤ x ∧ x ≤ 4294967295) (hl : l.length < 2 ^ 40) (ln : Int) (hln : ln = l.length) : ∀ (rest done : List Int) (g m : Nat) (es : List (List AV)) (T : List (Nat × AV)) (H : Heap) (c : Nat) (n : Int) (e : l = done ++ rest) (hn : n = done.length) (hm : m = 4 * done.length) (hes : es = byteCells (done.flatMap fun x => be 4 x.toNat)), Ev G ⟨f87x7LH, ⟨(6, .sl 1 (l.map encU)) :: (7, .int .i64 ln) :: (8, .int .i64 n) :: (3, .vs 69 g m) :: T, (69, some (g, .vec 1 es)) :: H, c⟩, [.t 2], 0⟩ (rB (l.flatMap fun x => be 4 x.toNat))
  | [], done, g, m, es, T, H, c, n, e, hn, hm, hes => by
    have hd : l.length = done.length := by simp [e]
    have hll : (l.map encU).length = l.length := by simp
    obtain rfl : l = done := by simpa using e
    refine ev_loop' (W_ok 300 _ _ _ _ ?_)
    repeat' (first | refine stpA ?_ | (refine condS ?_ ?_ <;> intro h))
    refine ev_retB 69 ⟨_, _, _, rfl, rfl, ?_, hes⟩
    rw [hm, fm_length]
  | x :: r, done, g, m, es, T, H, c, n, e, hn, hm, hes => by
    have hd : l.length = done.length + (r.length + 1) := by simp [e]
    have hll : (l.map encU).length = l.length := by simp
    have hx : (l.map encU)[n.toNat]? = some (encU x) := by simp [e, hn]
    have hx0 := h0 x (by simp [e])
    have hel : m = es.length := by
      rw [hm, hes]; simp only [byteCells_length, fm_length]
    have hbl : (byteCells (be 4 x.toNat)).length = 4 := by simp [be_length]
    refine ev_loop' (W_ok 300 _ _ _ _ ?_)
    repeat' (first | refine stpA ?_ | refine kN (number85 x (by omega) (by omega)) ?_ | (refine condS ?_ ?_ <;> intro h))
    refine ev_keep [6, 7, 8, 3] [69] ?_; exact words_loop87 l h0 hl ln hln r (done ++ [x]) _ _ _ _ _ _ (n + 1) (by simp [e]) (by simp [hn] <;> omega) (by simp [hm, be_length]; omega) (by rw [hes]; simp)
theorem words_gives87 (l : List Int) (hl : l.length < 2 ^ 40) (h0 : ∀ x ∈ l, 0 ≤ x ∧ x ≤ 4294967295) : Gives G 87 [.sl 1 (l.map encU)] [] (rB (l.flatMap fun x => be 4 x.toNat)) := by
  refine gives_code (F := f87) rfl rfl (W_ok 300 _ _ _ _ ?_)
  repeat' (first | refine stpA ?_ | (refine condS ?_ ?_ <;> intro h))
  refine ev_nil 69 1 [(3, .vs 69 _ 0)] [] ⟨LeP.nilV _ _ _, trivial⟩ trivial ?_
  refine ev_keep [6, 7, 8, 3] [69] ?_
  exact words_loop87 l h0 hl _ (by simp) l [] _ 0 _ _ _ _ 0 rfl rfl rfl rfl
def flagL : List UInt8 := [224, 64, 64, 64, 128, 64, 64, 192, 192, 128, 128]
def flagS (k : Int) : UInt8 := if k > 10 then 224 else flagL.getD k.toNat 0
theorem flag_gives94 (k : Int) (h0 : 0 ≤ k) : Gives G 94 [.int .i64 k] [] ⟨.int .u8 (flagS k).toNat, []⟩ := by
  by_cases h : k > 10
  · rw [show flagS k = 224 from by simp [flagS, h]]
    refine gives_code (F := f94) rfl rfl (W_ok 300 _ _ _ _ ?_)
    repeat' (first | refine stpA ?_ | (refine condS ?_ ?_ <;> intro h))
    all_goals try ((first | refine fin1 ?_ | refine fin0 ?_); first | rfl | (simp [Bool.cond_eq_ite, *]; done) | (simp [Bool.cond_eq_ite, *]; omega))
  · have h2 : k = 0 ∨ k = 1 ∨ k = 2 ∨ k = 3 ∨ k = 4 ∨ k = 5 ∨ k = 6 ∨ k = 7 ∨ k = 8 ∨ k = 9 ∨ k = 10 := by omega
    rcases h2 with rfl | rfl | rfl | rfl | rfl | rfl | rfl | rfl | rfl | rfl | rfl
    all_goals
      refine gives_code (F := f94) rfl rfl (W_ok 300 _ _ _ _ ?_)
      repeat' (first | refine stpA ?_ | (refine condS ?_ ?_ <;> intro h))
      all_goals try ((first | refine fin1 ?_ | refine fin0 ?_); first | rfl | (simp [Bool.cond_eq_ite, *]; done) | (simp [Bool.cond_eq_ite, *]; omega))
end Go.AM.IR
set_option maxHeartbeats 4000000
set_option maxRecDepth 20000
namespace Go.AM.IR
def flatS (l : List Seg) : List Int := l.flatMap (·.as)
theorem flat_loop57 (l : List Seg) (hs : (flatS l).length < 2 ^ 40) (hl : l.length < 2 ^ 62) (ln : Int) (hln : ln = l.length) : ∀ (rest done : List Seg) (g m : Nat) (es : List (List AV)) (T : List (Nat × AV)) (H : Heap) (c : Nat) (n : Int) (e : l = done ++ rest) (hn : n = done.length) (hm : m = es.length) (hes : es = (flatS done).map encI), Ev G ⟨f57x7LH, ⟨(6, .sl 2 (l.map Seg.enc)) :: (7, .int .i64 ln) :: (8, .int .i64 n) :: (3, .vs 79 g m) :: T, (79, some (g, .vec 1 es)) :: H, c⟩, [.t 2], 0⟩ ⟨.vs 0 0 (flatS l).length, [(false, .vec 1 ((flatS l).map encI))]⟩
  | [], done, g, m, es, T, H, c, n, e, hn, hm, hes => by
    have hd : l.length = done.length := by simp [e]
    have hll : (l.map Seg.enc).length = l.length := by simp
    obtain rfl : l = done := by simpa using e
    refine ev_loop' (W_ok 300 _ _ _ _ ?_)
    try refine stpA ?_
    refine ev_retV 79 g m _ rfl rfl (by simp [Blk.pure, hes]) ?_
    simp [hm, hes]
  | x :: r, done, g, m, es, T, H, c, n, e, hn, hm, hes => by
    have hd : l.length = done.length + (r.length + 1) := by simp [e]
    have hll : (l.map Seg.enc).length = l.length := by simp
    have hx : (l.map Seg.enc)[n.toNat]? = some (Seg.enc x) := by simp [e, hn]
    have hsz : es.length + (x.as.map encI).length < 2 ^ 40 := by
      rw [e] at hs; simp [flatS] at hs; simp [hes, flatS]; omega
    refine ev_loop' (W_ok 300 _ _ _ _ ?_)
    try refine stpA ?_
    refine ev_keep [6, 7, 8, 3] [79] ?_; exact flat_loop57 l hs hl ln hln r (done ++ [x]) _ _ _ _ _ _ (n + 1) (by simp [e]) (by simp [hn] <;> omega) (by simp [hm]) (by rw [hes]; simp [flatS])
theorem flat_gives57 (l : List Seg) (hl : l.length < 2 ^ 62) (hs : (flatS l).length < 2 ^ 40) : Gives G 57 [.sl 2 (l.map Seg.enc)] [] ⟨.vs 0 0 (flatS l).length, [(false, .vec 1 ((flatS l).map encI))]⟩ := by
  refine gives_code (F := f57) rfl rfl (W_ok 300 _ _ _ _ ?_)
  try refine stpA ?_
  refine ev_nil 79 1 [(3, .vs 79 _ 0)] [] ⟨LeP.nilV _ _ _, trivial⟩ trivial ?_
  refine ev_keep [6, 7, 8, 3] [79] ?_
  exact flat_loop57 l hs hl _ (by simp) l [] _ _ _ _ _ _ 0 rfl rfl rfl rfl
theorem size_gives54 (l : List Seg) (hl : l.length < 2 ^ 40) (hs : (flatS l).length < 2 ^ 40) : Gives G 54 [.sl 2 (l.map Seg.enc)] [] ⟨.int .i64 (l.length + (flatS l).length), []⟩ := by
  have hlm : (l.map Seg.enc).length = l.length := by simp
  refine gives_code (F := f54) rfl rfl (W_ok 300 _ _ _ _ ?_)
  try refine stpA ?_
  refine callN (flat_gives57 l (by omega) hs) (by simp [pureL, AV.pure]) rfl (by simp [pureBs, Blk.pure]) rfl ?_
  try refine stpA ?_
  (first | refine fin1 ?_ | refine fin0 ?_)
  simp
def unkS (l : List TLV) : Int := (l.map fun t => (t.value.length : Int) / 8).sum
def sizeS (a : Attrs) : Int := a.path.length + (flatS a.path).length + a.comms.length + a.clusters.length + a.unknown.length + unkS a.unknown
structure AB (a : Attrs) : Prop where
  path : a.path.length < 2 ^ 40
  flat : (flatS a.path).length < 2 ^ 40
  comms : a.comms.length < 2 ^ 40
  clusters : a.clusters.length < 2 ^ 40
  unknown : a.unknown.length < 2 ^ 40
  vals : ∀ t ∈ a.unknown, t.value.length < 2 ^ 40
  unk : unkS a.unknown < 2 ^ 40
theorem unk_nonneg : ∀ l : List TLV, 0 ≤ unkS l
  | [] => by simp [unkS]
  | t :: r => by
    have := unk_nonneg r
    simp only [unkS, List.map_cons, List.sum_cons] at this ⊢
    have h2 : 0 ≤ (t.value.length : Int) / 8 := by omega
    omega
theorem size_loop26 (l : List TLV) (s0 : Int) (hv : ∀ t ∈ l, t.value.length < 2 ^ 40) (hu : unkS l < 2 ^ 40) (hs0 : 0 ≤ s0) (hs1 : s0 < 2 ^ 50) (hl : l.length < 2 ^ 40) (ln : Int) (hln : ln = l.length) : ∀ (rest done : List TLV) (s : Int) (T : List (Nat × AV)) (H : Heap) (c : Nat) (n : Int) (e : l = done ++ rest) (hn : n = done.length) (hs : s = s0 + unkS done), Ev G ⟨f26x7LH, ⟨(22, .sl 2 (l.map TLV.enc)) :: (23, .int .i64 ln) :: (24, .int .i64 n) :: (3, .int .i64 s) :: T, H, c⟩, [.t 2], 0⟩ ⟨.int .i64 (s0 + unkS l), []⟩
  | [], done, s, T, H, c, n, e, hn, hs => by
    have hd : l.length = done.length := by simp [e]
    have hll : (l.map TLV.enc).length = l.length := by simp
    obtain rfl : l = done := by simpa using e
    refine ev_loop' (W_ok 300 _ _ _ _ ?_)
    try refine stpA ?_
    rw [hs]
    first | exact ev_ret rfl | exact ev_end rfl
  | x :: r, done, s, T, H, c, n, e, hn, hs => by
    have hd : l.length = done.length + (r.length + 1) := by simp [e]
    have hll : (l.map TLV.enc).length = l.length := by simp
    have hx : (l.map TLV.enc)[n.toNat]? = some (TLV.enc x) := by simp [e, hn]
    have hxv : x.value.length < 2 ^ 40 := hv x (by simp [e])
    have hbl : (byteCells x.value).length = x.value.length := by simp [byteCells]
    have hsum : unkS l = unkS done + ((x.value.length : Int) / 8 + unkS r) := by rw [e]; simp [unkS]
    have hr := unk_nonneg r
    have hdn := unk_nonneg done
    refine ev_loop' (W_ok 300 _ _ _ _ ?_)
    try refine stpA ?_
    refine ev_keep [22, 23, 24, 3] [] ?_; exact size_loop26 l s0 hv hu hs0 hs1 hl ln hln r (done ++ [x]) _ _ _ _ (n + 1) (by simp [e]) (by simp [hn] <;> omega) (by rw [hs, hbl]; simp [unkS]; omega)
theorem size_gives26 (a : Attrs) (h : AB a) : Gives G 26 [.agg a.enc] [] ⟨.int .i64 (sizeS a), []⟩ := by
  obtain ⟨h1, h2, h3, h4, h5, h6, h7⟩ := h
  have l3 : (a.comms.map encU).length = a.comms.length := by simp
  have l4 : (a.clusters.map encU).length = a.clusters.length := by simp
  have l5 : (a.unknown.map TLV.enc).length = a.unknown.length := by simp
  refine gives_code (F := f26) rfl rfl (W_ok 300 _ _ _ _ ?_)
  try refine stpA ?_
  refine callV (size_gives54 a.path h1 h2) (by first | rfl | (simp [pureL, pureLL, AV.pure]; done) | fail) (by first | rfl | (simp [AV.dry, dryL]; done) | fail) ?_
  try refine stpA ?_
  refine ev_keep [22, 23, 24, 3] [] ?_
  rw [l3, l4, l5]
  refine size_loop26 a.unknown (a.path.length + (flatS a.path).length + a.comms.length + a.clusters.length + a.unknown.length) h6 h7 (by omega) (by omega) h5 _ (by simp) a.unknown [] _ _ _ _ 0 rfl rfl ?_
  simp [unkS]
theorem large_gives21 (a : Attrs) (h : AB a) : Gives G 21 [.agg a.enc] [] ⟨.bool (decide (sizeS a > 3000)), []⟩ := by
  refine gives_code (F := f21) rfl rfl (W_ok 60 _ _ _ _ ?_)
  try refine stpA ?_
  refine callV (size_gives26 a h) (by first | rfl | (simp [pureL, pureLL, AV.pure]; done) | fail) (by first | rfl | (simp [AV.dry, dryL]; done) | fail) ?_
  try refine stpA ?_
  first | exact ev_ret rfl | exact ev_end rfl
end Go.AM.IR
set_option maxHeartbeats 4000000
set_option maxRecDepth 20000
namespace Go.AM.IR
@[irreducible] def setK (k : Int) : Bool := k == 1 || k == 4
@[irreducible] def confK (k : Int) : Bool := k == 3 || k == 4
theorem isSet_gives117 (k : Int) : Gives G 117 [.int .i64 k] [] ⟨.bool (setK k), []⟩ := by
  refine gives_code (F := f117) rfl rfl (W_ok 300 _ _ _ _ ?_)
  repeat' (first | refine stpA ?_ | (refine condS ?_ ?_ <;> intro h))
  all_goals try ((first | refine fin1 ?_ | refine fin0 ?_); first | rfl | (simp [setK, Bool.cond_eq_ite, *]; done) | (simp [setK, Bool.cond_eq_ite, *]; omega) | (unfold setK; repeat' split; all_goals first | rfl | (exfalso; omega) | (simp_all; done) | (simp_all; omega)))
theorem isConf_gives118 (k : Int) : Gives G 118 [.int .i64 k] [] ⟨.bool (confK k), []⟩ := by
  refine gives_code (F := f118) rfl rfl (W_ok 300 _ _ _ _ ?_)
  repeat' (first | refine stpA ?_ | (refine condS ?_ ?_ <;> intro h))
  all_goals try ((first | refine fin1 ?_ | refine fin0 ?_); first | rfl | (simp [confK, Bool.cond_eq_ite, *]; done) | (simp [confK, Bool.cond_eq_ite, *]; omega) | (unfold confK; repeat' split; all_goals first | rfl | (exfalso; omega) | (simp_all; done) | (simp_all; omega)))
theorem word_gives81 (k : Int) : Gives G 81 [.int .i64 k] [] ⟨.bool (decide (0 ≤ k) && decide (k ≤ 4294967295)), []⟩ := by
  refine gives_code (F := f81) rfl rfl (W_ok 300 _ _ _ _ ?_)
  repeat' (first | refine stpA ?_ | (refine condS ?_ ?_ <;> intro h))
  all_goals try ((first | refine fin1 ?_ | refine fin0 ?_); first | rfl | (simp [Bool.cond_eq_ite, *]; done) | (simp [Bool.cond_eq_ite, *]; omega))
theorem when_gives74 (b : Bool) (e : Int) : Gives G 74 [.bool b, .int .i64 e] [] ⟨.int .i64 (if b = true then e else 0), []⟩ := by
  refine gives_code (F := f74) rfl rfl (W_ok 300 _ _ _ _ ?_)
  repeat' (first | refine stpA ?_ | (refine condS ?_ ?_ <;> intro h))
  all_goals try ((first | refine fin1 ?_ | refine fin0 ?_); first | rfl | (simp [Bool.cond_eq_ite, *]; done) | (simp [Bool.cond_eq_ite, *]; omega))
def optE (has : Bool) (n low : Int) : Int := if has = true then (if n < low ∨ n > 4294967295 then 5 else 0) else (if n = 0 then 0 else 1)
theorem optional_gives76 (has : Bool) (n low : Int) : Gives G 76 [.bool has, .int .i64 n, .int .i64 low] [] ⟨.int .i64 (optE has n low), []⟩ := by
  refine gives_code (F := f76) rfl rfl (W_ok 300 _ _ _ _ ?_)
  repeat' (first | refine stpA ?_ | (refine condS ?_ ?_ <;> intro h))
  all_goals try ((first | refine fin1 ?_ | refine fin0 ?_); first | rfl | (simp [optE, Bool.cond_eq_ite, *]; done) | (simp [optE, Bool.cond_eq_ite, *]; omega) | (unfold optE; repeat' split; all_goals first | rfl | (exfalso; omega) | (simp_all; done) | (simp_all; omega)))
end Go.AM.IR
set_option maxHeartbeats 4000000
set_option maxRecDepth 20000
namespace Go.AM.IR
def firstS : List Int → Int
  | [] => 0
  | x :: r => if x = 0 then firstS r else x
theorem first_loop73 (l : List Int)  (hl : l.length < 2 ^ 40) (ln : Int) (hln : ln = l.length) : ∀ (rest done : List Int)  (T : List (Nat × AV)) (H : Heap) (c : Nat) (n : Int) (e : l = done ++ rest) (hn : n = done.length) , Ev G ⟨f73x7LH, ⟨(5, .sl 1 (l.map encI)) :: (6, .int .i64 ln) :: (7, .int .i64 n) :: T, H, c⟩, [.t 2], 0⟩ ⟨.int .i64 (firstS rest), []⟩
  | [], done,  T, H, c, n, e, hn => by
    have hd : l.length = done.length := by simp [e]
    have hll : (l.map encI).length = l.length := by simp
    refine ev_loop' (W_ok 300 _ _ _ _ ?_)
    repeat' (first | refine stpA ?_ | (refine condS ?_ ?_ <;> intro h))
    all_goals try ((first | refine fin1 ?_ | refine fin0 ?_); first | rfl | (simp [firstS, Bool.cond_eq_ite, *]; done) | (simp [firstS, Bool.cond_eq_ite, *]; omega) | (unfold firstS; repeat' split; all_goals first | rfl | (exfalso; omega) | (simp_all; done) | (simp_all; omega)))
  | x :: r, done,  T, H, c, n, e, hn => by
    have hd : l.length = done.length + (r.length + 1) := by simp [e]
    have hll : (l.map encI).length = l.length := by simp
    have hx : (l.map encI)[n.toNat]? = some (encI x) := by simp [e, hn]
    refine ev_loop' (W_ok 300 _ _ _ _ ?_)
    repeat' (first | refine stpA ?_ | (refine condS ?_ ?_ <;> intro h))
    all_goals try ((first | refine fin1 ?_ | refine fin0 ?_); first | rfl | (simp [firstS, Bool.cond_eq_ite, *]; done) | (simp [firstS, Bool.cond_eq_ite, *]; omega) | (unfold firstS; repeat' split; all_goals first | rfl | (exfalso; omega) | (simp_all; done) | (simp_all; omega)))
    rw [show firstS (x :: r) = firstS r from by simp [firstS, *]]
    refine ev_keep [5, 6, 7] [] ?_; exact first_loop73 l  hl ln hln r (done ++ [x])  _ _ _ (n + 1) (by simp [e]) (by simp [hn] <;> omega)
theorem first_gives73 (l : List Int) (hl : l.length < 2 ^ 40) : Gives G 73 [.sl 1 (l.map encI)] [] ⟨.int .i64 (firstS l), []⟩ := by
  refine gives_code (F := f73) rfl rfl (W_ok 300 _ _ _ _ ?_)
  repeat' (first | refine stpA ?_ | (refine condS ?_ ?_ <;> intro h))
  refine ev_keep [5, 6, 7] [] ?_
  exact first_loop73 l hl _ (by simp) l [] _ _ _ 0 rfl rfl
theorem among_loop107 (l : List Int) (k : Int) (hl : l.length < 2 ^ 40) (ln : Int) (hln : ln = l.length) : ∀ (rest done : List Int)  (T : List (Nat × AV)) (H : Heap) (c : Nat) (n : Int) (e : l = done ++ rest) (hn : n = done.length) , Ev G ⟨f107x7LH, ⟨(7, .sl 1 (l.map encI)) :: (8, .int .i64 ln) :: (9, .int .i64 n) :: (0, .int .i64 k) :: T, H, c⟩, [.t 4], 0⟩ ⟨.bool (rest.any (· == k)), []⟩
  | [], done,  T, H, c, n, e, hn => by
    have hd : l.length = done.length := by simp [e]
    have hll : (l.map encI).length = l.length := by simp
    refine ev_loop' (W_ok 300 _ _ _ _ ?_)
    repeat' (first | refine stpA ?_ | (refine condS ?_ ?_ <;> intro h))
    all_goals try ((first | refine fin1 ?_ | refine fin0 ?_); first | rfl | (simp [Bool.cond_eq_ite, *]; done) | (simp [Bool.cond_eq_ite, *]; omega))
  | x :: r, done,  T, H, c, n, e, hn => by
    have hd : l.length = done.length + (r.length + 1) := by simp [e]
    have hll : (l.map encI).length = l.length := by simp
    have hx : (l.map encI)[n.toNat]? = some (encI x) := by simp [e, hn]
    refine ev_loop' (W_ok 300 _ _ _ _ ?_)
    repeat' (first | refine stpA ?_ | (refine condS ?_ ?_ <;> intro h))
    all_goals try ((first | refine fin1 ?_ | refine fin0 ?_); first | rfl | (simp [Bool.cond_eq_ite, *]; done) | (simp [Bool.cond_eq_ite, *]; omega))
    rw [show (x :: r).any (· == k) = r.any (· == k) from by simp [*]]
    refine ev_keep [7, 8, 9, 0] [] ?_; exact among_loop107 l k hl ln hln r (done ++ [x])  _ _ _ (n + 1) (by simp [e]) (by simp [hn] <;> omega)
theorem among_gives107 (k : Int) (l : List Int) (hl : l.length < 2 ^ 40) : Gives G 107 [.int .i64 k, .sl 1 (l.map encI)] [] ⟨.bool (l.any (· == k)), []⟩ := by
  refine gives_code (F := f107) rfl rfl (W_ok 300 _ _ _ _ ?_)
  repeat' (first | refine stpA ?_ | (refine condS ?_ ?_ <;> intro h))
  refine ev_keep [7, 8, 9, 0] [] ?_
  exact among_loop107 l k hl _ (by simp) l [] _ _ _ 0 rfl rfl
def clS : List Int → Int
  | [] => 0
  | x :: r => if x = 0 then 1 else clS r
theorem clusters_loop78 (l : List Int)  (hl : l.length < 2 ^ 40) (ln : Int) (hln : ln = l.length) : ∀ (rest done : List Int)  (T : List (Nat × AV)) (H : Heap) (c : Nat) (n : Int) (e : l = done ++ rest) (hn : n = done.length) , Ev G ⟨f78x9LH, ⟨(8, .sl 1 (l.map encU)) :: (9, .int .i64 ln) :: (10, .int .i64 n) :: T, H, c⟩, [.t 2], 0⟩ ⟨.int .i64 (clS rest), []⟩
  | [], done,  T, H, c, n, e, hn => by
    have hd : l.length = done.length := by simp [e]
    have hll : (l.map encU).length = l.length := by simp
    refine ev_loop' (W_ok 300 _ _ _ _ ?_)
    repeat' (first | refine stpA ?_ | (refine condS ?_ ?_ <;> intro h))
    all_goals try ((first | refine fin1 ?_ | refine fin0 ?_); first | rfl | (simp [clS, Bool.cond_eq_ite, *]; done) | (simp [clS, Bool.cond_eq_ite, *]; omega) | (unfold clS; repeat' split; all_goals first | rfl | (exfalso; omega) | (simp_all; done) | (simp_all; omega)))
  | x :: r, done,  T, H, c, n, e, hn => by
    have hd : l.length = done.length + (r.length + 1) := by simp [e]
    have hll : (l.map encU).length = l.length := by simp
    have hx : (l.map encU)[n.toNat]? = some (encU x) := by simp [e, hn]
    refine ev_loop' (W_ok 300 _ _ _ _ ?_)
    repeat' (first | refine stpA ?_ | (refine condS ?_ ?_ <;> intro h))
    all_goals try ((first | refine fin1 ?_ | refine fin0 ?_); first | rfl | (simp [clS, Bool.cond_eq_ite, *]; done) | (simp [clS, Bool.cond_eq_ite, *]; omega) | (unfold clS; repeat' split; all_goals first | rfl | (exfalso; omega) | (simp_all; done) | (simp_all; omega)))
    rw [show clS (x :: r) = clS r from by simp [clS, *]]
    refine ev_keep [8, 9, 10] [] ?_; exact clusters_loop78 l  hl ln hln r (done ++ [x])  _ _ _ (n + 1) (by simp [e]) (by simp [hn] <;> omega)
def clustersE (l : List Int) : Int := if l.length > 64 then 4 else clS l
theorem clusters_gives78 (l : List Int) (hl : l.length < 2 ^ 40) : Gives G 78 [.sl 1 (l.map encU)] [] ⟨.int .i64 (clustersE l), []⟩ := by
  have ll : (l.map encU).length = l.length := by simp
  refine gives_code (F := f78) rfl rfl (W_ok 300 _ _ _ _ ?_)
  repeat' (first | refine stpA ?_ | (refine condS ?_ ?_ <;> intro h))
  all_goals try ((first | refine fin1 ?_ | refine fin0 ?_); first | rfl | (simp [clustersE, Bool.cond_eq_ite, *]; done) | (simp [clustersE, Bool.cond_eq_ite, *]; omega) | (unfold clustersE; repeat' split; all_goals first | rfl | (exfalso; omega) | (simp_all; done) | (simp_all; omega)))
  rw [show clustersE l = clS l from by simp [clustersE]; omega]
  refine ev_keep [8, 9, 10] [] ?_
  exact clusters_loop78 l hl _ (by simp) l [] _ _ _ 0 rfl rfl
end Go.AM.IR
set_option maxHeartbeats 4000000
set_option maxRecDepth 20000
namespace Go.AM.IR
theorem confed_gives106 (k : Int) : Gives G 106 [.int .i64 k] [] ⟨.bool (confK k), []⟩ := by
  have hr : ([3, 4] : List Int).any (· == k) = confK k := by
    unfold confK; simp only [List.any_cons, List.any_nil, Bool.or_false]
    rw [Bool.eq_iff_iff]; simp; omega
  have e1 := among_gives107 k [3, 4] (by simp)
  rw [hr] at e1
  refine gives_code (F := f106) rfl rfl (W_ok 300 _ _ _ _ ?_)
  repeat' (first | refine stpA ?_ | (refine condS ?_ ?_ <;> intro h))
  refine callF [(68, _, .vec 1 [encI 3, encI 4])] ⟨rfl, rfl, trivial⟩ rfl (by simp) rfl rfl e1 rfl ?_
  repeat' (first | refine stpA ?_ | (refine condS ?_ ?_ <;> intro h))
  all_goals try ((first | refine fin1 ?_ | refine fin0 ?_); first | rfl | (simp [Bool.cond_eq_ite, *]; done) | (simp [Bool.cond_eq_ite, *]; omega))
def ordS (p : Int) : List Int → Int
  | [] => 0
  | x :: r => if x ≤ p then 16 else ordS x r
def orderS : List Int → Int
  | [] => 0
  | x :: r => ordS x r
theorem order_loop77 (l : List Int) (hl : l.length < 2 ^ 40) (ln : Int) (hln : ln = l.length) : ∀ (rest done : List Int) (p : Int) (T : List (Nat × AV)) (H : Heap) (c : Nat) (n : Int) (e : l = done ++ p :: rest) (hn : n = done.length + 1),
   Ev G ⟨f77x9LH, ⟨(7, .sl 1 (l.map encU)) :: (8, .int .i64 ln) :: (9, .int .i64 n) :: (0, .sl 1 (l.map encU)) :: T, H, c⟩, [.t 2], 0⟩ ⟨.int .i64 (ordS p rest), []⟩
  | [], done, p, T, H, c, n, e, hn => by
    have hd : l.length = done.length + 1 := by simp [e]
    refine ev_loop' (W_ok 300 _ _ _ _ ?_)
    repeat' (first | refine stpA ?_ | (refine condS ?_ ?_ <;> intro h))
    all_goals try ((first | refine fin1 ?_ | refine fin0 ?_); first | rfl | (simp [ordS, Bool.cond_eq_ite, *]; done) | (simp [ordS, Bool.cond_eq_ite, *]; omega) | (unfold ordS; repeat' split; all_goals first | rfl | (exfalso; omega) | (simp_all; done) | (simp_all; omega)))
  | x :: r, done, p, T, H, c, n, e, hn => by
    have hd : l.length = done.length + (r.length + 2) := by simp [e]
    have ll : (l.map encU).length = l.length := by simp
    have hn1 : (n - 1).toNat = done.length := by omega
    have hn0 : n.toNat = done.length + 1 := by omega
    have hx : (l.map encU)[n.toNat]? = some (encU x) := by rw [hn0, e]; simp
    have hy : (l.map encU)[(n - 1).toNat]? = some (encU p) := by rw [hn1, e]; simp
    refine ev_loop' (W_ok 300 _ _ _ _ ?_)
    repeat' (first | refine stpA ?_ | (refine condS ?_ ?_ <;> intro h))
    all_goals try ((first | refine fin1 ?_ | refine fin0 ?_); first | rfl | (simp [ordS, Bool.cond_eq_ite, *]; done) | (simp [ordS, Bool.cond_eq_ite, *]; omega) | (unfold ordS; repeat' split; all_goals first | rfl | (exfalso; omega) | (simp_all; done) | (simp_all; omega)))
    rw [show ordS p (x :: r) = ordS x r from by simp [ordS, *]]
    refine ev_keep [7, 8, 9, 0] [] ?_
    exact order_loop77 l hl ln hln r (done ++ [p]) x _ _ _ (n + 1) (by simp [e]) (by simp [hn])
def commE (l : List Int) : Int := if l.length > 255 then 4 else orderS l
theorem comm_gives77 (l : List Int) (hl : l.length < 2 ^ 40) : Gives G 77 [.sl 1 (l.map encU)] [] ⟨.int .i64 (commE l), []⟩ := by
  have ll : (l.map encU).length = l.length := by simp
  cases l with
  | nil =>
    refine gives_code (F := f77) rfl rfl (W_ok 300 _ _ _ _ ?_)
    repeat' (first | refine stpA ?_ | (refine condS ?_ ?_ <;> intro h))
    refine ev_loop' (W_ok 300 _ _ _ _ ?_)
    repeat' (first | refine stpA ?_ | (refine condS ?_ ?_ <;> intro h))
    all_goals try ((first | refine fin1 ?_ | refine fin0 ?_); first | rfl | (simp [commE, orderS, Bool.cond_eq_ite, *]; done) | (simp [commE, orderS, Bool.cond_eq_ite, *]; omega) | (unfold commE orderS; repeat' split; all_goals first | rfl | (exfalso; omega) | (simp_all; done) | (simp_all; omega)))
  | cons x r =>
    have hx : ((x :: r).map encU)[(0 : Int).toNat]? = some (encU x) := rfl
    have h2 := ll
    simp only [List.length_cons] at hl
    rw [List.length_cons] at h2
    refine gives_code (F := f77) rfl rfl (W_ok 300 _ _ _ _ ?_)
    repeat' (first | refine stpA ?_ | (refine condS ?_ ?_ <;> intro h))
    all_goals try ((first | refine fin1 ?_ | refine fin0 ?_); first | rfl | (simp [commE, Bool.cond_eq_ite, *]; done) | (simp [commE, Bool.cond_eq_ite, *]; omega) | (unfold commE; repeat' split; all_goals first | rfl | (exfalso; omega) | (simp_all; done) | (simp_all; omega)))
    rw [show commE (x :: r) = ordS x r from by simp [commE, orderS]; omega]
    refine ev_loop' (W_ok 300 _ _ _ _ ?_)
    repeat' (first | refine stpA ?_ | (refine condS ?_ ?_ <;> intro h))
    refine ev_keep [7, 8, 9, 0] [] ?_
    exact order_loop77 (x :: r) hl _ (by simp) r [] x _ _ _ 1 rfl rfl
theorem order_loop82 (l : List Int) (hl : l.length < 2 ^ 40) : ∀ (rest done : List Int) (p : Int) (T : List (Nat × AV)) (H : Heap) (c : Nat) (n : Int) (e : l = done ++ p :: rest) (hn : n = done.length + 1),
   Ev G ⟨f82x8LH, ⟨(3, .int .i64 n) :: (0, .sl 1 (l.map encU)) :: T, H, c⟩, [.t 2], 0⟩ ⟨.int .i64 (ordS p rest), []⟩
  | [], done, p, T, H, c, n, e, hn => by
    have hd : l.length = done.length + 1 := by simp [e]
    have ll : (l.map encU).length = l.length := by simp
    refine ev_loop' (W_ok 300 _ _ _ _ ?_)
    repeat' (first | refine stpA ?_ | (refine condS ?_ ?_ <;> intro h))
    all_goals try ((first | refine fin1 ?_ | refine fin0 ?_); first | rfl | (simp [ordS, Bool.cond_eq_ite, *]; done) | (simp [ordS, Bool.cond_eq_ite, *]; omega) | (unfold ordS; repeat' split; all_goals first | rfl | (exfalso; omega) | (simp_all; done) | (simp_all; omega)))
  | x :: r, done, p, T, H, c, n, e, hn => by
    have hd : l.length = done.length + (r.length + 2) := by simp [e]
    have ll : (l.map encU).length = l.length := by simp
    have hn1 : (n - 1).toNat = done.length := by omega
    have hn0 : n.toNat = done.length + 1 := by omega
    have hx : (l.map encU)[n.toNat]? = some (encU x) := by rw [hn0, e]; simp
    have hy : (l.map encU)[(n - 1).toNat]? = some (encU p) := by rw [hn1, e]; simp
    refine ev_loop' (W_ok 300 _ _ _ _ ?_)
    repeat' (first | refine stpA ?_ | (refine condS ?_ ?_ <;> intro h))
    all_goals try ((first | refine fin1 ?_ | refine fin0 ?_); first | rfl | (simp [ordS, Bool.cond_eq_ite, *]; done) | (simp [ordS, Bool.cond_eq_ite, *]; omega) | (unfold ordS; repeat' split; all_goals first | rfl | (exfalso; omega) | (simp_all; done) | (simp_all; omega)))
    rw [show ordS p (x :: r) = ordS x r from by simp [ordS, *]]
    refine ev_keep [3, 0] [] ?_
    exact order_loop82 l hl r (done ++ [p]) x _ _ _ (n + 1) (by simp [e]) (by simp [hn])
theorem comm_gives82 (l : List Int) (hl : l.length < 2 ^ 40) : Gives G 82 [.sl 1 (l.map encU)] [] ⟨.int .i64 (commE l), []⟩ := by
  have ll : (l.map encU).length = l.length := by simp
  cases l with
  | nil =>
    refine gives_code (F := f82) rfl rfl (W_ok 300 _ _ _ _ ?_)
    repeat' (first | refine stpA ?_ | (refine condS ?_ ?_ <;> intro h))
    refine ev_loop' (W_ok 300 _ _ _ _ ?_)
    repeat' (first | refine stpA ?_ | (refine condS ?_ ?_ <;> intro h))
    all_goals try ((first | refine fin1 ?_ | refine fin0 ?_); first | rfl | (simp [commE, orderS, Bool.cond_eq_ite, *]; done) | (simp [commE, orderS, Bool.cond_eq_ite, *]; omega) | (unfold commE orderS; repeat' split; all_goals first | rfl | (exfalso; omega) | (simp_all; done) | (simp_all; omega)))
  | cons x r =>
    have h2 := ll
    simp only [List.length_cons] at hl
    rw [List.length_cons] at h2
    refine gives_code (F := f82) rfl rfl (W_ok 300 _ _ _ _ ?_)
    repeat' (first | refine stpA ?_ | (refine condS ?_ ?_ <;> intro h))
    all_goals try ((first | refine fin1 ?_ | refine fin0 ?_); first | rfl | (simp [commE, Bool.cond_eq_ite, *]; done) | (simp [commE, Bool.cond_eq_ite, *]; omega) | (unfold commE; repeat' split; all_goals first | rfl | (exfalso; omega) | (simp_all; done) | (simp_all; omega)))
    rw [show commE (x :: r) = ordS x r from by simp [commE, orderS]; omega]
    refine ev_keep [3, 0] [] ?_
    exact order_loop82 (x :: r) hl r [] x _ _ _ 1 rfl rfl
end Go.AM.IR
set_option maxHeartbeats 4000000
set_option maxRecDepth 20000
namespace Go.AM.IR
def rngS : List Int → Bool
  | [] => true
  | x :: r => decide (1 ≤ x ∧ x ≤ 4294967295) && rngS r
def ordC (k : Int) : Option Int → List Int → Bool
  | _, [] => true
  | none, x :: r => ordC k (some x) r
  | some p, x :: r => !(setK k && decide (x ≤ p)) && ordC k (some x) r
def segE (s : Seg) : Int := if s.kind < 1 ∨ s.kind > 4 then 15 else if s.as.length = 0 then 1 else if s.as.length > 255 then 4 else if rngS s.as = false then 5 else if ordC s.kind none s.as = false then 16 else 0
theorem among1 (k : Int) : Gives G 107 [.int .i64 k, .sl 1 [encI 1, encI 4]] [] ⟨.bool (setK k), []⟩ := by
  have hr : ([1, 4] : List Int).any (· == k) = setK k := by
    unfold setK; simp only [List.any_cons, List.any_nil, Bool.or_false]
    rw [Bool.eq_iff_iff]; simp; omega
  rw [← hr]; exact among_gives107 k [1, 4] (by simp)
theorem among2 (k : Int) : Gives G 107 [.int .i64 k, .sl 1 [encI 1, encI 2, encI 3, encI 4]] [] ⟨.bool (decide (1 ≤ k ∧ k ≤ 4)), []⟩ := by
  have hr : ([1, 2, 3, 4] : List Int).any (· == k) = decide (1 ≤ k ∧ k ≤ 4) := by
    simp only [List.any_cons, List.any_nil, Bool.or_false]
    rw [Bool.eq_iff_iff]; simp; omega
  rw [← hr]; exact among_gives107 k [1, 2, 3, 4] (by simp)
theorem among3 (k : Int) : Gives G 107 [.int .i64 k, .sl 1 [encI 2, encI 3]] [] ⟨.bool (decide (k = 2 ∨ k = 3)), []⟩ := by
  have hr : ([2, 3] : List Int).any (· == k) = decide (k = 2 ∨ k = 3) := by
    simp only [List.any_cons, List.any_nil, Bool.or_false]
    rw [Bool.eq_iff_iff]; simp; omega
  rw [← hr]; exact among_gives107 k [2, 3] (by simp)
theorem ord_loop105 (s : Seg) (hl : s.as.length < 2 ^ 40) : ∀ (rest done : List Int) (p : Option Int) (T : List (Nat × AV)) (H : Heap) (c : Nat) (n : Int) (e : s.as = done ++ rest) (hn : n = done.length) (hp : p = done.getLast?),
   Ev G ⟨f105x20LH, ⟨(39, .int .i64 n) :: (1, .ref 65 1 0) :: (38, .int .i64 s.as.length) :: T, (65, some (1, .cells s.enc)) :: H, c⟩, [.t 2], 0⟩ ⟨.int .i64 (if ordC s.kind p rest = false then 16 else 0), []⟩
  | [], done, p, T, H, c, n, e, hn, hp => by
    have hd : s.as.length = done.length := by simp [e]
    refine ev_loop' (W_ok 300 _ _ _ _ ?_)
    repeat' (first | refine stpA ?_ | (refine condS ?_ ?_ <;> intro h))
    all_goals try ((first | refine fin1 ?_ | refine fin0 ?_); first | rfl | (simp [ordC, setK, Bool.cond_eq_ite, *]; done) | (simp [ordC, setK, Bool.cond_eq_ite, *]; omega) | (unfold ordC setK; repeat' split; all_goals first | rfl | (exfalso; omega) | (simp_all; done) | (simp_all; omega)))
  | x :: r, done, p, T, H, c, n, e, hn, hp => by
    have hd : s.as.length = done.length + (r.length + 1) := by simp [e]
    have hx : (s.as.map encI)[n.toNat]? = some (encI x) := by simp [e, hn]
    rcases List.eq_nil_or_concat done with rfl | ⟨d, q, rfl⟩
    · obtain rfl : p = none := by simp [hp]
      simp only [List.length_nil] at hn hd
      refine ev_loop' (W_ok 300 _ _ _ _ ?_)
      repeat' (first | refine stpA ?_ | (refine condS ?_ ?_ <;> intro h))
      rw [show ordC s.kind none (x :: r) = ordC s.kind (some x) r from rfl]
      refine ev_keep [39, 1, 38] [65] ?_; exact ord_loop105 s hl r [x] _ _ _ _ (n + 1) (by simp [e]) (by simp [hn]) rfl
    · obtain rfl : p = some q := by simp [hp]
      simp only [List.concat_eq_append, List.length_append, List.length_singleton] at hn hd
      have hn1 : (n - 1).toNat = d.length := by omega
      have hy : (s.as.map encI)[(n - 1).toNat]? = some (encI q) := by rw [hn1, e]; simp
      refine ev_loop' (W_ok 300 _ _ _ _ ?_)
      repeat' (first | refine stpA ?_ | (refine condS ?_ ?_ <;> intro h))
      all_goals refine callF [(111, _, .vec 1 [encI 1, encI 4])] ⟨rfl, rfl, trivial⟩ rfl (by simp) rfl (by simp [renL, AV.ren, φF, encI, encU, kloc, Nat.beq_refl]) (among1 s.kind) rfl ?_
      repeat' (first | refine stpA ?_ | (refine condS ?_ ?_ <;> intro h))
      all_goals try ((first | refine fin1 ?_ | refine fin0 ?_); first | rfl | (simp [ordC, setK, Bool.cond_eq_ite, *]; done) | (simp [ordC, setK, Bool.cond_eq_ite, *]; omega) | (unfold ordC setK; repeat' split; all_goals first | rfl | (exfalso; omega) | (simp_all; done) | (simp_all; omega)))
      all_goals (rw [show ordC s.kind (some q) (x :: r) = ordC s.kind (some x) r from by simp [ordC, setK, *]]; refine ev_keep [39, 1, 38] [65] ?_; exact ord_loop105 s hl r (d ++ [q] ++ [x]) _ _ _ _ (n + 1) (by simp [e]) (by simp [hn] <;> omega) (by simp))
end Go.AM.IR
set_option maxHeartbeats 4000000
set_option maxRecDepth 20000
namespace Go.AM.IR
theorem rng_loop105 (l : List Int) (s : Seg) (hs : s.as = l) (hl : l.length < 2 ^ 40) (ln : Int) (hln : ln = l.length) : ∀ (rest done : List Int)  (T : List (Nat × AV)) (H : Heap) (c : Nat) (n : Int) (e : l = done ++ rest) (hn : n = done.length) , Ev G ⟨f105x13LH, ⟨(23, .sl 1 (l.map encI)) :: (24, .int .i64 ln) :: (25, .int .i64 n) :: (1, .ref 65 1 0) :: T, (65, some (1, .cells s.enc)) :: H, c⟩, [.t 2], 0⟩ ⟨.int .i64 (if rngS rest = false then 5 else if ordC s.kind none l = false then 16 else 0), []⟩
  | [], done,  T, H, c, n, e, hn => by
    have hd : l.length = done.length := by simp [e]
    have hll : (l.map encI).length = l.length := by simp
    subst hs
    refine ev_loop' (W_ok 300 _ _ _ _ ?_)
    repeat' (first | refine stpA ?_ | (refine condS ?_ ?_ <;> intro h))
    refine ev_keep [39, 1, 38] [65] ?_
    rw [show (if rngS [] = false then (5 : Int) else if ordC s.kind none s.as = false then 16 else 0) = if ordC s.kind none s.as = false then 16 else 0 from by simp [rngS]]
    simp only [List.length_map]
    exact ord_loop105 s hl s.as [] none _ _ _ 0 rfl rfl rfl
  | x :: r, done,  T, H, c, n, e, hn => by
    have hd : l.length = done.length + (r.length + 1) := by simp [e]
    have hll : (l.map encI).length = l.length := by simp
    have hx : (l.map encI)[n.toNat]? = some (encI x) := by simp [e, hn]
    refine ev_loop' (W_ok 300 _ _ _ _ ?_)
    repeat' (first | refine stpA ?_ | (refine condS ?_ ?_ <;> intro h))
    all_goals try ((first | refine fin1 ?_ | refine fin0 ?_); first | rfl | (simp [rngS, Bool.cond_eq_ite, *]; done) | (simp [rngS, Bool.cond_eq_ite, *]; omega) | (unfold rngS; repeat' split; all_goals first | rfl | (exfalso; omega) | (simp_all; done) | (simp_all; omega)))
    rw [show rngS (x :: r) = rngS r from by simp [rngS]; omega]
    refine ev_keep [23, 24, 25, 1] [65] ?_; exact rng_loop105 l s hs hl ln hln r (done ++ [x])  _ _ _ (n + 1) (by simp [e]) (by simp [hn] <;> omega)
theorem segment_gives105 (s : Seg) (hl : s.as.length < 2 ^ 40) : Gives G 105 [.agg s.enc] [] ⟨.int .i64 (segE s), []⟩ := by
  have ll : (s.as.map encI).length = s.as.length := by simp
  refine gives_code (F := f105) rfl rfl (W_ok 300 _ _ _ _ ?_)
  repeat' (first | refine stpA ?_ | refine callF [(73, _, .vec 1 [encI 1, encI 2, encI 3, encI 4])] ⟨rfl, rfl, trivial⟩ rfl (by simp) rfl (by simp [renL, AV.ren, φF, encI, encU, kloc, Nat.beq_refl]) (among2 s.kind) rfl ?_ | (refine condS ?_ ?_ <;> intro h))
  all_goals try ((first | refine fin1 ?_ | refine fin0 ?_); first | rfl | (simp [segE, Bool.cond_eq_ite, *]; done) | (simp [segE, Bool.cond_eq_ite, *]; omega) | (unfold segE; repeat' split; all_goals first | rfl | (exfalso; omega) | (simp_all; done) | (simp_all; omega)))
  rw [show segE s = (if rngS s.as = false then 5 else if ordC s.kind none s.as = false then 16 else 0) from by unfold segE; rw [if_neg (by omega), if_neg (by omega), if_neg (by omega)]]
  refine ev_keep [23, 24, 25, 1] [65] ?_
  exact rng_loop105 s.as s rfl hl _ (by simp) s.as [] _ _ _ 0 rfl rfl
def joinC : Option Seg → Seg → Bool
  | some q, s => (decide (s.kind = 2 ∨ s.kind = 3) && (q.kind == s.kind)) && decide (q.as.length < 255)
  | none, _ => false
def pathC (pl : Bool) (prev : Option Seg) : List Seg → Int
  | [] => 0
  | s :: r => if segE s ≠ 0 then segE s else if (confK s.kind && pl) = true then 1 else if joinC prev s = true then 1 else pathC (pl || !confK s.kind) (some s) r
def pathE (p : List Seg) : Int := if p.length > 64 then 4 else pathC false none p
theorem pathC_next {pl : Bool} {p : Option Seg} {x : Seg} {r : List Seg} (h1 : segE x = 0) (h2 : (confK x.kind && pl) = false) (h3 : joinC p x = false) : pathC pl p (x :: r) = pathC (pl || !confK x.kind) (some x) r := by
  rw [pathC, if_neg (by simp [h1]), if_neg (by simp [h2]), if_neg (by simp [h3])]
theorem check_loop75 (l : List Seg) (hs : ∀ s ∈ l, s.as.length < 2 ^ 40) (hl : l.length < 2 ^ 40) (ln : Int) (hln : ln = l.length) : ∀ (rest done : List Seg) (pl pS : Bool) (p : Option Seg) (T : List (Nat × AV)) (H : Heap) (c : Nat) (n : Int) (e : l = done ++ rest) (hn : n = done.length) (hpl : pl = pS) (hp : p = done.getLast?), Ev G ⟨f75x16LH, ⟨(10, .sl 2 (l.map Seg.enc)) :: (11, .int .i64 ln) :: (12, .int .i64 n) :: (3, .bool pl) :: (0, .sl 2 (l.map Seg.enc)) :: T, H, c⟩, [.t 2], 0⟩ ⟨.int .i64 (pathC pS p rest), []⟩
  | [], done, pl, pS, p, T, H, c, n, e, hn, hpl, hp => by
    have hd : l.length = done.length := by simp [e]
    have hll : (l.map Seg.enc).length = l.length := by simp
    refine ev_loop' (W_ok 300 _ _ _ _ ?_)
    repeat' (first | refine stpA ?_ | (refine condS ?_ ?_ <;> intro h))
    all_goals try ((first | refine fin1 ?_ | refine fin0 ?_); first | rfl | (simp [pathC, Bool.cond_eq_ite, *]; done) | (simp [pathC, Bool.cond_eq_ite, *]; omega) | (unfold pathC; repeat' split; all_goals first | rfl | (exfalso; omega) | (simp_all; done) | (simp_all; omega)))
  | x :: r, done, pl, pS, p, T, H, c, n, e, hn, hpl, hp => by
    have hd : l.length = done.length + (r.length + 1) := by simp [e]
    have hll : (l.map Seg.enc).length = l.length := by simp
    have hx : (l.map Seg.enc)[n.toNat]? = some (Seg.enc x) := by simp [e, hn]
    subst hpl
    have hsx := hs x (by simp [e])
    have hxl : (x.as.map encI).length = x.as.length := by simp
    rcases List.eq_nil_or_concat done with rfl | ⟨d, q, rfl⟩
    · obtain rfl : p = none := by simp [hp]
      simp only [List.length_nil] at hn hd
      refine ev_loop' (W_ok 300 _ _ _ _ ?_)
      repeat' (first | refine stpA ?_ | refine kV (segment_gives105 x hsx) ?_ | refine kV (confed_gives106 x.kind) ?_ | (refine condS ?_ ?_ <;> intro h))
      all_goals try ((first | refine fin1 ?_ | refine fin0 ?_); first | rfl | (simp [pathC, joinC, Bool.cond_eq_ite, *]; done) | (simp [pathC, joinC, Bool.cond_eq_ite, *]; omega) | (unfold pathC joinC; repeat' split; all_goals first | rfl | (exfalso; omega) | (simp_all; done) | (simp_all; omega)))
      all_goals (rw [pathC_next (by assumption) (by simp [*]) (by simp [joinC, *])]; refine ev_keep [10, 11, 12, 3, 0] [] ?_; exact check_loop75 l hs hl ln hln r [x] _ _ (some x) _ _ _ (n + 1) (by simp [e]) (by simp [hn] <;> omega) (by simp [*]) (by simp))
    · obtain rfl : p = some q := by simp [hp]
      simp only [List.concat_eq_append, List.length_append, List.length_singleton] at hn hd
      have hn1 : (n - 1).toNat = d.length := by omega
      have hy : (l.map Seg.enc)[(n - 1).toNat]? = some (Seg.enc q) := by rw [hn1, e]; simp
      have hql : (q.as.map encI).length = q.as.length := by simp
      refine ev_loop' (W_ok 300 _ _ _ _ ?_)
      repeat' (first | refine stpA ?_ | refine kV (segment_gives105 x hsx) ?_ | refine kV (confed_gives106 x.kind) ?_ | refine callF [(97, _, .vec 1 [encI 2, encI 3])] ⟨rfl, rfl, trivial⟩ rfl (by simp) rfl (by simp [renL, AV.ren, φF, encI, encU, kloc, Nat.beq_refl]) (among3 x.kind) rfl ?_ | (refine condS ?_ ?_ <;> intro h))
      all_goals try ((first | refine fin1 ?_ | refine fin0 ?_); first | rfl | (simp [pathC, joinC, Bool.cond_eq_ite, *]; done) | (simp [pathC, joinC, Bool.cond_eq_ite, *]; omega) | (unfold pathC joinC; repeat' split; all_goals first | rfl | (exfalso; omega) | (simp_all; done) | (simp_all; omega)))
      all_goals (rw [pathC_next (by assumption) (by simp [*]) (by simp [joinC, *] <;> omega)]; refine ev_keep [10, 11, 12, 3, 0] [] ?_; exact check_loop75 l hs hl ln hln r (d ++ [q] ++ [x]) _ _ (some x) _ _ _ (n + 1) (by simp [e]) (by simp [hn] <;> omega) (by simp [*]) (by simp))
theorem check_gives75 (l : List Seg) (hl : l.length < 2 ^ 40) (hs : ∀ s ∈ l, s.as.length < 2 ^ 40) : Gives G 75 [.sl 2 (l.map Seg.enc)] [] ⟨.int .i64 (pathE l), []⟩ := by
  have ll : (l.map Seg.enc).length = l.length := by simp
  refine gives_code (F := f75) rfl rfl (W_ok 300 _ _ _ _ ?_)
  repeat' (first | refine stpA ?_ | (refine condS ?_ ?_ <;> intro h))
  all_goals try ((first | refine fin1 ?_ | refine fin0 ?_); first | rfl | (simp [pathE, Bool.cond_eq_ite, *]; done) | (simp [pathE, Bool.cond_eq_ite, *]; omega) | (unfold pathE; repeat' split; all_goals first | rfl | (exfalso; omega) | (simp_all; done) | (simp_all; omega)))
  rw [show pathE l = pathC false none l from by simp [pathE]; omega]
  refine ev_keep [10, 11, 12, 3, 0] [] ?_
  exact check_loop75 l hs hl _ (by simp) l [] _ _ _ _ _ _ 0 rfl rfl rfl rfl
end Go.AM.IR
