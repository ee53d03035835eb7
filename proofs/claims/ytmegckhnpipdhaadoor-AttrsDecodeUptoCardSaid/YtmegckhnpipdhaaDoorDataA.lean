/- What the functions of this program give, on the abstract machine. -/
import Derived.Test.YtmegckhnpipdhaaDoorMachineC
import Derived.Test.YtmegckhnpipdhaaDoorMachineB
set_option linter.unusedVariables false
set_option linter.unusedSimpArgs false
set_option maxRecDepth 100000
namespace Go.AM.IR
open Go Go.AM
def f58x0 : List AOper := [
  Op 1 (.box (.t 0)),
  Mc 2 (.bool false)]
def f58x1 : List AOper := [
  Ls 3 16 1,
  Ct 4 21 [3]]
def f58x2 : List AOper := [
  Ct 5 64 [],
  Mv 2 5]
def f58x3 : List AOper := [
  Ls 6 16 1,
  Af [0] (Ct 7 65 [6]),
  Ls 8 16 1,
  Af [2, 1, 0] (Ct 9 66 [8]),
  Bi 10 .eql 7 9,
  Mv 11 10,
  Af [3, 2, 1, 0] (Gt 11 (Ct 12 64 [])),
  Pa 13 11 12,
  Mv 2 13]
def f58 : AFunc := ⟨14, 1, false, [.t 2], (.seq (.region f58x0 false) (.seq (.seq (.region f58x1 false) (.cond (.t 4) (.seq (.region f58x2 false) .ret) .skip)) (.seq (.region f58x3 true) .ret)))⟩
def f59x0 : List AOper := [
  Op 2 (.box (.t 0)),
  Mc 4 (.bool false)]
def f59x1 : List AOper := [
  Ls 9 16 2,
  Ct 10 21 [9]]
def f59x2 : List AOper := [
  Ct 11 64 [],
  Mv 4 11]
def f59x3 : List AOper := [
  Ls 13 16 2,
  Mv 14 1,
  Ct 15 67 [13, 14],
  Mv 12 15,
  Ex 16 12 0,
  Ex 17 12 1,
  Mv 5 16,
  Mv 6 17]
def f59x4 : List AOper := [
  Ls 19 16 2,
  Mv 20 1,
  Ct 21 68 [19, 20],
  Mv 18 21,
  Ex 22 18 0,
  Ex 23 18 1,
  Mv 7 22,
  Mv 8 23]
def f59x5 : List AOper := [
  Mv 24 6,
  Mv 25 8,
  Bi 26 .eql 24 25,
  Mv 27 26,
  Gt 27 (Mv 28 5),
  Gt 27 (Op 29 (.b2s (.t 28))),
  Gt 27 (Mv 30 7),
  Gt 27 (Op 31 (.b2s (.t 30))),
  Gt 27 (Bi 32 .eql 29 31),
  Pa 33 27 32,
  Mv 34 33,
  Gt 34 (Ct 35 64 []),
  Pa 36 34 35,
  Mv 4 36]
def f59 : AFunc := ⟨37, 2, false, [.t 4], (.seq (.region f59x0 false) (.seq (.seq (.region f59x1 false) (.cond (.t 10) (.seq (.region f59x2 false) .ret) .skip)) (.seq (.region f59x3 false) (.seq (.region f59x4 false) (.seq (.region f59x5 false) .ret)))))⟩
def f60x0 : List AOper := [
  Op 2 (.box (.t 0)),
  Mc 4 (.bool false)]
def f60x1 : List AOper := [
  Ls 11 16 2,
  Ct 12 21 [11]]
def f60x2 : List AOper := [
  Ct 13 64 [],
  Mv 4 13]
def f60x3 : List AOper := [
  Ls 15 16 2,
  Mv 16 1,
  Ct 17 67 [15, 16],
  Mv 14 17,
  Ex 18 14 0,
  Ex 19 14 1,
  Mv 5 18,
  Mv 6 19]
def f60x4 : List AOper := [
  Mv 20 6,
  Bc 21 .neq 20 0]
def f60x5 : List AOper := [
  Ct 22 64 [],
  Mv 4 22]
def f60x6 : List AOper := [
  Mv 24 5,
  Mv 25 1,
  Ct 26 69 [24, 25],
  Mv 23 26,
  Ex 27 23 0,
  Ex 28 23 1,
  Op 7 (.alloc (.agg [.int .i64 0, .con (.slice none 0 0), .int .u32 0, .bool false, .int .i64 0, .bool false, .int .i64 0, .bool false, .bool false, .int .i64 0, .int .u32 0, .con (.slice none 0 0), .bool false, .int .u32 0, .con (.slice none 0 0), .con (.slice none 0 0)])),
  St 16 7 27,
  Mv 8 28]
def f60x7 : List AOper := [
  Mv 29 8,
  Bc 30 .neq 29 0,
  Mv 31 30,
  Gf 31 (Ls 32 16 2),
  Gf 31 (Ls 33 16 7),
  Gf 31 (Ct 34 70 [32, 33]),
  Gf 31 (Un 35 .not 34),
  Po 36 31 35]
def f60x8 : List AOper := [
  Mc 4 (.bool false)]
def f60x9 : List AOper := [
  Mv 38 5,
  Mv 39 5,
  Ln 40 0 39,
  Bc 41 .sub 40 1,
  Op 42 (.slc 1 (.t 38) none (some (.t 41)) none),
  Mv 43 1,
  Ct 44 69 [42, 43],
  Mv 37 44,
  Ex 45 37 0,
  Ex 46 37 1,
  Op 9 (.alloc (.agg [.int .i64 0, .con (.slice none 0 0), .int .u32 0, .bool false, .int .i64 0, .bool false, .int .i64 0, .bool false, .bool false, .int .i64 0, .int .u32 0, .con (.slice none 0 0), .bool false, .int .u32 0, .con (.slice none 0 0), .con (.slice none 0 0)])),
  St 16 9 45,
  Mv 10 46]
def f60x10 : List AOper := [
  Mv 47 10,
  Bc 48 .eql 47 3,
  Mv 49 48,
  Gt 49 (Ct 50 64 []),
  Pa 51 49 50,
  Mv 4 51]
def f60 : AFunc := ⟨52, 2, false, [.t 4], (.seq (.region f60x0 false) (.seq (.seq (.region f60x1 false) (.cond (.t 12) (.seq (.region f60x2 false) .ret) .skip)) (.seq (.region f60x3 false) (.seq (.seq (.region f60x4 false) (.cond (.t 21) (.seq (.region f60x5 false) .ret) .skip)) (.seq (.region f60x6 false) (.seq (.seq (.region f60x7 false) (.cond (.t 36) (.seq (.region f60x8 false) .ret) .skip)) (.seq (.region f60x9 false) (.seq (.region f60x10 false) .ret))))))))⟩
def f61x0 : List AOper := [
  Mc 4 (.bool false)]
def f61x1 : List AOper := [
  Mv 11 0,
  Ln 12 0 11,
  Bc 13 .gtr 12 5000]
def f61x2 : List AOper := [
  Ct 14 64 [],
  Mv 4 14]
def f61x3 : List AOper := [
  Mv 16 0,
  Mv 17 1,
  Ct 18 69 [16, 17],
  Mv 15 18,
  Ex 19 15 0,
  Ex 20 15 1,
  Op 5 (.alloc (.agg [.int .i64 0, .con (.slice none 0 0), .int .u32 0, .bool false, .int .i64 0, .bool false, .int .i64 0, .bool false, .bool false, .int .i64 0, .int .u32 0, .con (.slice none 0 0), .bool false, .int .u32 0, .con (.slice none 0 0), .con (.slice none 0 0)])),
  St 16 5 19,
  Mv 6 20]
def f61x4 : List AOper := [
  Mv 22 0,
  Mv 23 1,
  Ct 24 71 [22, 23],
  Mv 21 24,
  Ex 25 21 0,
  Ex 26 21 1,
  Op 7 (.alloc (.agg [.int .i64 0, .con (.slice none 0 0), .int .u32 0, .bool false, .int .i64 0, .bool false, .int .i64 0, .bool false, .bool false, .int .i64 0, .int .u32 0, .con (.slice none 0 0), .bool false, .int .u32 0, .con (.slice none 0 0), .con (.slice none 0 0)])),
  St 16 7 25,
  Mv 8 26]
def f61x5 : List AOper := [
  Mv 27 6,
  Mv 28 8,
  Bi 29 .neq 27 28,
  Mv 30 29,
  Gf 30 (Ls 31 16 5),
  Gf 30 (Ls 32 16 7),
  Gf 30 (Ct 33 70 [31, 32]),
  Gf 30 (Un 34 .not 33),
  Po 35 30 34]
def f61x6 : List AOper := [
  Mc 4 (.bool false)]
def f61x7 : List AOper := [
  Mv 36 6,
  Bc 37 .neq 36 0]
def f61x8 : List AOper := [
  Ct 38 64 [],
  Mv 4 38]
def f61x9 : List AOper := [
  Ls 40 16 5,
  Mv 41 1,
  Ct 42 67 [40, 41],
  Mv 39 42,
  Ex 43 39 0,
  Ex 44 39 1,
  Mv 9 43,
  Mv 10 44]
def f61x10 : List AOper := [
  Mv 45 10,
  Bc 46 .eql 45 0,
  Mv 47 46,
  Gt 47 (Mv 48 9),
  Gt 47 (Op 49 (.b2s (.t 48))),
  Gt 47 (Mv 50 0),
  Gt 47 (Op 51 (.b2s (.t 50))),
  Gt 47 (Bi 52 .eql 49 51),
  Pa 53 47 52,
  Mv 54 53,
  Gt 54 (Ct 55 64 []),
  Pa 56 54 55,
  Mv 4 56]
def f61 : AFunc := ⟨57, 2, false, [.t 4], (.seq (.region f61x0 false) (.seq (.seq (.region f61x1 false) (.cond (.t 13) (.seq (.region f61x2 false) .ret) .skip)) (.seq (.region f61x3 false) (.seq (.region f61x4 false) (.seq (.seq (.region f61x5 false) (.cond (.t 35) (.seq (.region f61x6 false) .ret) .skip)) (.seq (.seq (.region f61x7 false) (.cond (.t 37) (.seq (.region f61x8 false) .ret) .skip)) (.seq (.region f61x9 false) (.seq (.region f61x10 false) .ret))))))))⟩
def f62x0 : List AOper := [
  Op 1 (.box (.t 0)),
  Mc 2 (.bool false)]
def f62x1 : List AOper := [
  Ls 14 16 1,
  Ct 15 21 [14]]
def f62x2 : List AOper := [
  Ct 16 64 [],
  Mv 2 16]
def f62x3 : List AOper := [
  Fa 17 1 1,
  Ld 18 17,
  Ln 19 0 18,
  Bc 20 .gtr 19 0,
  Mv 21 20,
  Gf 21 (Fa 22 8 1),
  Gf 21 (Ld 23 22),
  Po 24 21 23]
def f62x4 : List AOper := [
  Fa 25 1 1,
  Ld 26 25,
  Ct 27 57 [26],
  Ln 28 0 27,
  Mc 29 (.int .i64 0)]
def f62x5 : List AOper := [
  Bi 30 .lss 29 28]
def f62x6 : List AOper := [
  Ia 31 1 27 29,
  Ld 32 31,
  Mv 4 32]
def f62x7 : List AOper := [
  Mv 33 4,
  Bc 34 .gtr 33 65535]
def f62x8 : List AOper := [
  Ct 35 64 [],
  Mv 2 35]
def f62x9 : List AOper := [
  Bc 36 .add 29 1,
  Mv 29 36]
def f62x10L : ACode := (.seq (.region f62x5 false) (.seq (.cond (.t 30) .skip (.exit 0)) (.seq (.block 1 (.seq (.region f62x6 false) (.seq (.region f62x7 false) (.cond (.t 34) (.seq (.region f62x8 false) .ret) .skip)))) (.region f62x9 false))))
def f62x11 : List AOper := [
  Ls 38 16 1,
  Ca 39 67 [(.t 38), (.c (.bool true))],
  Mv 37 39,
  Ex 40 37 0,
  Ex 41 37 1,
  Mv 5 40,
  Mv 6 41]
def f62x12 : List AOper := [
  Ls 43 16 1,
  Ca 44 67 [(.t 43), (.c (.bool false))],
  Mv 42 44,
  Ex 45 42 0,
  Ex 46 42 1,
  Mv 7 45,
  Mv 8 46]
def f62x13 : List AOper := [
  Mv 47 6,
  Bc 48 .neq 47 0,
  Mv 49 48,
  Gf 49 (Mv 50 8),
  Gf 49 (Bc 51 .neq 50 0),
  Po 52 49 51]
def f62x14 : List AOper := [
  Mv 53 6,
  Mv 54 8,
  Bi 55 .eql 53 54,
  Mv 56 55,
  Gf 56 (Fa 57 9 1),
  Gf 56 (Ld 58 57),
  Gf 56 (Bc 59 .gtr 58 65535),
  Po 60 56 59,
  Mv 61 60,
  Gt 61 (Ct 62 64 []),
  Pa 63 61 62,
  Mv 2 63]
def f62x15 : List AOper := [
  Fa 64 1 1,
  Ld 65 64,
  Ct 66 57 [65],
  Ln 67 0 66,
  Op 68 (.bin .mul (.c (.int .i64 2)) (.t 67)),
  Mv 9 68]
def f62x16 : List AOper := [
  Fa 69 8 1,
  Ld 70 69]
def f62x17 : List AOper := [
  Mv 71 9,
  Bc 72 .add 71 2,
  Mv 9 72]
def f62x18 : List AOper := [
  Mv 73 5,
  Ln 74 0 73,
  Mv 75 7,
  Ln 76 0 75,
  Bi 77 .sub 74 76,
  Mv 78 9,
  Bi 79 .geq 77 78,
  Mv 80 79,
  Gt 80 (Mv 81 5),
  Gt 80 (Ln 82 0 81),
  Gt 80 (Mv 83 7),
  Gt 80 (Ln 84 0 83),
  Gt 80 (Bi 85 .sub 82 84),
  Gt 80 (Mv 86 9),
  Gt 80 (Bc 87 .add 86 1),
  Gt 80 (Bi 88 .leq 85 87),
  Pa 89 80 88,
  Mv 90 89,
  Gt 90 (Ct 91 64 []),
  Pa 92 90 91,
  Mv 2 92]
def f62x19 : List AOper := [
  Ls 94 16 1,
  Ca 95 67 [(.t 94), (.c (.bool true))],
  Mv 93 95,
  Ex 96 93 0,
  Ex 97 93 1,
  Mv 10 96,
  Mv 11 97]
def f62x20 : List AOper := [
  Ls 99 16 1,
  Ca 100 67 [(.t 99), (.c (.bool false))],
  Mv 98 100,
  Ex 101 98 0,
  Ex 102 98 1,
  Mv 12 101,
  Mv 13 102]
def f62x21 : List AOper := [
  Mv 103 11,
  Mv 104 13,
  Bi 105 .eql 103 104,
  Mv 106 105,
  Gt 106 (Mv 107 10),
  Gt 106 (Op 108 (.b2s (.t 107))),
  Gt 106 (Mv 109 12),
  Gt 106 (Op 110 (.b2s (.t 109))),
  Gt 106 (Bi 111 .eql 108 110),
  Pa 112 106 111,
  Mv 113 112,
  Gt 113 (Ct 114 64 []),
  Pa 115 113 114,
  Mv 2 115]
def f62 : AFunc := ⟨116, 1, false, [.t 2], (.seq (.region f62x0 false) (.seq (.seq (.region f62x1 false) (.cond (.t 15) (.seq (.region f62x2 false) .ret) .skip)) (.seq (.seq (.region f62x3 false) (.cond (.t 24) (.seq (.seq (.region f62x4 false) (.block 0 (.loop f62x10L))) (.seq (.region f62x11 false) (.seq (.region f62x12 false) (.seq (.seq (.region f62x13 false) (.cond (.t 52) (.seq (.region f62x14 false) .ret) .skip)) (.seq (.region f62x15 false) (.seq (.seq (.region f62x16 false) (.cond (.t 70) (.region f62x17 false) .skip)) (.seq (.region f62x18 false) .ret))))))) .skip)) (.seq (.region f62x19 false) (.seq (.region f62x20 false) (.seq (.region f62x21 false) .ret))))))⟩
def f63x0 : List AOper := [
  Op 2 (.box (.t 0)),
  Op 3 (.box (.t 1)),
  Mc 4 (.bool false)]
def f63x1 : List AOper := [
  Ls 5 16 2,
  Ct 6 21 [5],
  Mv 7 6,
  Gf 7 (Ls 8 16 3),
  Gf 7 (Ct 9 21 [8]),
  Po 10 7 9]
def f63x2 : List AOper := [
  Ct 11 64 [],
  Mv 4 11]
def f63x3 : List AOper := [
  Ls 12 16 2,
  Ls 13 16 3,
  Af [0, 1] (Ct 14 72 [12, 13]),
  Ls 15 16 2,
  Ls 16 16 3,
  Af [3, 4, 2, 0, 1] (Ct 17 70 [15, 16]),
  Op 18 (.eqb false (.t 14) (.t 17)),
  Mv 19 18,
  Af [5, 3, 4, 2, 0, 1] (Gt 19 (Ls 20 16 2)),
  Af [5, 3, 4, 2, 0, 1] (Gt 19 (Ls 21 16 2)),
  Af [8, 9, 5, 3, 4, 2, 0, 1] (Gt 19 (Ct 22 72 [20, 21])),
  Pa 23 19 22,
  Mv 24 23,
  Af [10, 8, 9, 5, 3, 4, 2, 0, 1] (Gt 24 (Ct 25 64 [])),
  Pa 26 24 25,
  Mv 4 26]
def f63 : AFunc := ⟨27, 2, false, [.t 4], (.seq (.region f63x0 false) (.seq (.seq (.region f63x1 false) (.cond (.t 10) (.seq (.region f63x2 false) .ret) .skip)) (.seq (.region f63x3 true) .ret)))⟩
def f21x0 : List AOper := [
  Op 1 (.box (.t 0)),
  Mc 2 (.bool false)]
def f21x1 : List AOper := [
  Ls 3 16 1,
  Ct 4 26 [3],
  Bc 5 .gtr 4 3000,
  Mv 2 5]
def f21 : AFunc := ⟨6, 1, false, [.t 2], (.seq (.region f21x0 false) (.seq (.region f21x1 false) .ret))⟩
def f64x0 : List AOper := [
  Mc 0 (.bool false)]
def f64x1 : List AOper := [
  Op 17 (.build [.int .i64 0, .con (.slice none 0 0), .int .u32 0, .bool false, .int .i64 0, .bool false, .int .i64 0, .bool false, .bool false, .int .i64 0, .int .u32 0, .con (.slice none 0 0), .bool false, .int .u32 0, .con (.slice none 0 0), .con (.slice none 0 0)] [(2, 1)] [(.c (.int .u32 167772161))]),
  Op 1 (.alloc (.agg [.int .i64 0, .con (.slice none 0 0), .int .u32 0, .bool false, .int .i64 0, .bool false, .int .i64 0, .bool false, .bool false, .int .i64 0, .int .u32 0, .con (.slice none 0 0), .bool false, .int .u32 0, .con (.slice none 0 0), .con (.slice none 0 0)])),
  St 16 1 17]
def f64x2 : List AOper := [
  Ls 19 16 1,
  Ca 20 67 [(.t 19), (.c (.bool true))],
  Mv 18 20,
  Ex 21 18 0,
  Ex 22 18 1,
  Mv 2 21,
  Mv 3 22]
def f64x3 : List AOper := [
  Op 24 (.bsl 1 [.int .u8 0] 14 [0, 1, 2, 3, 4, 5, 6, 7, 8, 9, 10, 11, 12, 13] [(.c (.int .u8 64)), (.c (.int .u8 1)), (.c (.int .u8 1)), (.c (.int .u8 0)), (.c (.int .u8 64)), (.c (.int .u8 2)), (.c (.int .u8 0)), (.c (.int .u8 64)), (.c (.int .u8 3)), (.c (.int .u8 4)), (.c (.int .u8 10)), (.c (.int .u8 0)), (.c (.int .u8 0)), (.c (.int .u8 1))]),
  Ca 25 69 [(.t 24), (.c (.bool true))],
  Mv 23 25,
  Ex 26 23 0,
  Ex 27 23 1,
  Op 4 (.alloc (.agg [.int .i64 0, .con (.slice none 0 0), .int .u32 0, .bool false, .int .i64 0, .bool false, .int .i64 0, .bool false, .bool false, .int .i64 0, .int .u32 0, .con (.slice none 0 0), .bool false, .int .u32 0, .con (.slice none 0 0), .con (.slice none 0 0)])),
  St 16 4 26,
  Mv 5 27]
def f64x4 : List AOper := [
  Op 29 (.bsl 1 [.int .u8 0] 11 [0, 1, 2, 3, 4, 5, 6, 7, 8, 9, 10] [(.c (.int .u8 64)), (.c (.int .u8 1)), (.c (.int .u8 1)), (.c (.int .u8 0)), (.c (.int .u8 64)), (.c (.int .u8 3)), (.c (.int .u8 4)), (.c (.int .u8 10)), (.c (.int .u8 0)), (.c (.int .u8 0)), (.c (.int .u8 1))]),
  Ca 30 69 [(.t 29), (.c (.bool true))],
  Mv 28 30,
  Ex 31 28 0,
  Ex 32 28 1,
  Op 6 (.alloc (.agg [.int .i64 0, .con (.slice none 0 0), .int .u32 0, .bool false, .int .i64 0, .bool false, .int .i64 0, .bool false, .bool false, .int .i64 0, .int .u32 0, .con (.slice none 0 0), .bool false, .int .u32 0, .con (.slice none 0 0), .con (.slice none 0 0)])),
  St 16 6 31,
  Mv 7 32]
def f64x5 : List AOper := [
  Op 34 (.bsl 1 [.int .u8 0] 3 [0, 1, 2] [(.c (.int .u8 64)), (.c (.int .u8 1)), (.c (.int .u8 1))]),
  Ca 35 69 [(.t 34), (.c (.bool true))],
  Mv 33 35,
  Ex 36 33 0,
  Ex 37 33 1,
  Op 8 (.alloc (.agg [.int .i64 0, .con (.slice none 0 0), .int .u32 0, .bool false, .int .i64 0, .bool false, .int .i64 0, .bool false, .bool false, .int .i64 0, .int .u32 0, .con (.slice none 0 0), .bool false, .int .u32 0, .con (.slice none 0 0), .con (.slice none 0 0)])),
  St 16 8 36,
  Mv 9 37]
def f64x6 : List AOper := [
  Op 39 (.bsl 1 [.int .u8 0] 8 [0, 1, 2, 3, 4, 5, 6, 7] [(.c (.int .u8 64)), (.c (.int .u8 1)), (.c (.int .u8 1)), (.c (.int .u8 0)), (.c (.int .u8 64)), (.c (.int .u8 1)), (.c (.int .u8 1)), (.c (.int .u8 0))]),
  Ca 40 69 [(.t 39), (.c (.bool true))],
  Mv 38 40,
  Ex 41 38 0,
  Ex 42 38 1,
  Op 10 (.alloc (.agg [.int .i64 0, .con (.slice none 0 0), .int .u32 0, .bool false, .int .i64 0, .bool false, .int .i64 0, .bool false, .bool false, .int .i64 0, .int .u32 0, .con (.slice none 0 0), .bool false, .int .u32 0, .con (.slice none 0 0), .con (.slice none 0 0)])),
  St 16 10 41,
  Mv 11 42]
def f64x7 : List AOper := [
  Op 44 (.bsl 1 [.int .u8 0] 4 [0, 1, 2, 3] [(.c (.int .u8 0)), (.c (.int .u8 1)), (.c (.int .u8 1)), (.c (.int .u8 0))]),
  Ca 45 69 [(.t 44), (.c (.bool true))],
  Mv 43 45,
  Ex 46 43 0,
  Ex 47 43 1,
  Op 12 (.alloc (.agg [.int .i64 0, .con (.slice none 0 0), .int .u32 0, .bool false, .int .i64 0, .bool false, .int .i64 0, .bool false, .bool false, .int .i64 0, .int .u32 0, .con (.slice none 0 0), .bool false, .int .u32 0, .con (.slice none 0 0), .con (.slice none 0 0)])),
  St 16 12 46,
  Mv 13 47]
def f64x8 : List AOper := [
  Mv 48 3,
  Bc 49 .neq 48 0,
  Mv 50 49,
  Gf 50 (Mv 51 5),
  Gf 50 (Bc 52 .neq 51 0),
  Po 53 50 52,
  Mv 54 53,
  Gf 54 (Mv 55 7),
  Gf 54 (Bc 56 .neq 55 6),
  Po 57 54 56,
  Mv 58 57,
  Gf 58 (Mv 59 9),
  Gf 58 (Bc 60 .neq 59 3),
  Po 61 58 60,
  Mv 62 61,
  Gf 62 (Mv 63 11),
  Gf 62 (Bc 64 .neq 63 16),
  Po 65 62 64,
  Mv 66 65,
  Gf 66 (Mv 67 13),
  Gf 66 (Bc 68 .neq 67 2),
  Po 69 66 68,
  Mv 70 69,
  Gf 70 (Mv 71 2),
  Gf 70 (Ln 72 0 71),
  Gf 70 (Bc 73 .neq 72 14),
  Po 74 70 73,
  Mv 75 74,
  Gf 75 (Mv 76 2),
  Gf 75 (Op 77 (.iadr 1 (.t 76) (.c (.int .i64 13)))),
  Gf 75 (Ld 78 77),
  Gf 75 (Op 79 (.bin .neq (.t 78) (.c (.int .u8 1)))),
  Po 80 75 79,
  Mv 81 80,
  Gf 81 (Ls 82 16 1),
  Gf 81 (Ls 83 16 4),
  Gf 81 (Ct 84 70 [82, 83]),
  Gf 81 (Un 85 .not 84),
  Po 86 81 85,
  Mv 87 86,
  Gf 87 (Ls 88 16 1),
  Gf 87 (Ls 89 16 4),
  Gf 87 (Ct 90 72 [88, 89]),
  Gf 87 (Un 91 .not 90),
  Po 92 87 91]
def f64x9 : List AOper := [
  Mc 0 (.bool false)]
def f64x10 : List AOper := [
  Op 93 (.bsl 1 [.int .i64 0] 1 [0] [(.c (.int .i64 65001))]),
  Op 94 (.build [.int .i64 0, .con (.slice none 0 0)] [(0, 1), (1, 1)] [(.c (.int .i64 2)), (.t 93)]),
  Op 95 (.bsl 2 [.int .i64 0, .con (.slice none 0 0)] 1 [0] [(.t 94)]),
  Op 96 (.build [.int .i64 0, .con (.slice none 0 0), .int .u32 0, .bool false, .int .i64 0, .bool false, .int .i64 0, .bool false, .bool false, .int .i64 0, .int .u32 0, .con (.slice none 0 0), .bool false, .int .u32 0, .con (.slice none 0 0), .con (.slice none 0 0)] [(2, 1), (1, 1)] [(.c (.int .u32 1)), (.t 95)]),
  Op 14 (.alloc (.agg [.int .i64 0, .con (.slice none 0 0), .int .u32 0, .bool false, .int .i64 0, .bool false, .int .i64 0, .bool false, .bool false, .int .i64 0, .int .u32 0, .con (.slice none 0 0), .bool false, .int .u32 0, .con (.slice none 0 0), .con (.slice none 0 0)])),
  St 16 14 96]
def f64x11 : List AOper := [
  Ls 98 16 14,
  Ca 99 67 [(.t 98), (.c (.bool true))],
  Mv 97 99,
  Ex 100 97 0,
  Ex 101 97 1,
  Mv 15 100,
  Mv 16 101]
def f64x12 : List AOper := [
  Mv 102 16,
  Bc 103 .eql 102 0,
  Mv 104 103,
  Gt 104 (Mv 105 15),
  Gt 104 (Ln 106 0 105),
  Gt 104 (Bc 107 .eql 106 20),
  Pa 108 104 107,
  Mv 109 108,
  Gt 109 (Mv 110 15),
  Gt 109 (Op 111 (.iadr 1 (.t 110) (.c (.int .i64 6)))),
  Gt 109 (Ld 112 111),
  Gt 109 (Op 113 (.bin .eql (.t 112) (.c (.int .u8 6)))),
  Pa 114 109 113,
  Mv 115 114,
  Gt 115 (Mv 116 15),
  Gt 115 (Op 117 (.iadr 1 (.t 116) (.c (.int .i64 12)))),
  Gt 115 (Ld 118 117),
  Gt 115 (Op 119 (.bin .eql (.t 118) (.c (.int .u8 233)))),
  Pa 120 115 119,
  Mv 121 120,
  Gt 121 (Ls 122 16 1),
  Gt 121 (Ct 123 65 [122]),
  Gt 121 (Bc 124 .eql 123 0),
  Pa 125 121 124,
  Mv 126 125,
  Gt 126 (Op 127 (.build [.int .i64 0, .con (.slice none 0 0), .int .u32 0, .bool false, .int .i64 0, .bool false, .int .i64 0, .bool false, .bool false, .int .i64 0, .int .u32 0, .con (.slice none 0 0), .bool false, .int .u32 0, .con (.slice none 0 0), .con (.slice none 0 0)] [] [])),
  Gt 126 (Ct 128 65 [127]),
  Gt 126 (Bc 129 .eql 128 1),
  Pa 130 126 129,
  Mv 131 130,
  Gt 131 (Op 132 (.build [.int .i64 0, .con (.slice none 0 0), .int .u32 0, .bool false, .int .i64 0, .bool false, .int .i64 0, .bool false, .bool false, .int .i64 0, .int .u32 0, .con (.slice none 0 0), .bool false, .int .u32 0, .con (.slice none 0 0), .con (.slice none 0 0)] [(0, 1)] [(.c (.int .i64 3))])),
  Gt 131 (Ct 133 65 [132]),
  Gt 131 (Bc 134 .eql 133 5),
  Pa 135 131 134,
  Mv 136 135,
  Gt 136 (Ls 137 16 1),
  Gt 136 (Ls 138 16 14),
  Gt 136 (Ct 139 72 [137, 138]),
  Gt 136 (Un 140 .not 139),
  Pa 141 136 140,
  Mv 0 141]
def f64 : AFunc := ⟨142, 0, false, [.t 0], (.seq (.region f64x0 false) (.seq (.region f64x1 false) (.seq (.region f64x2 false) (.seq (.region f64x3 false) (.seq (.region f64x4 false) (.seq (.region f64x5 false) (.seq (.region f64x6 false) (.seq (.region f64x7 false) (.seq (.seq (.region f64x8 false) (.cond (.t 92) (.seq (.region f64x9 false) .ret) .skip)) (.seq (.region f64x10 false) (.seq (.region f64x11 false) (.seq (.region f64x12 false) .ret))))))))))))⟩
def f65x0 : List AOper := [
  Op 1 (.box (.t 0)),
  Mc 2 (.int .i64 0)]
def f65x1 : List AOper := [
  Fa 3 0 1,
  Ld 4 3,
  Bc 5 .lss 4 0,
  Mv 6 5,
  Gf 6 (Fa 7 0 1),
  Af [1] (Gf 6 (Ld 8 7)),
  Gf 6 (Bc 9 .gtr 8 2),
  Po 10 6 9,
  Af [5, 1] (Ca 11 74 [(.t 10), (.c (.int .i64 5))]),
  Fa 12 1 1,
  Ld 13 12,
  Af [10, 8, 5, 1] (Ct 14 75 [13]),
  Fa 15 2 1,
  Ld 16 15,
  Op 17 (.bin .eql (.t 16) (.c (.int .u32 0))),
  Af [11, 13, 10, 8, 5, 1] (Ca 18 74 [(.t 17), (.c (.int .i64 1))]),
  Fa 19 3 1,
  Ld 20 19,
  Fa 21 4 1,
  Ld 22 21,
  Af [17, 19, 15, 11, 13, 10, 8, 5, 1] (Ca 23 76 [(.t 20), (.t 22), (.c (.int .i64 0))]),
  Fa 24 5 1,
  Ld 25 24,
  Fa 26 6 1,
  Ld 27 26,
  Af [22, 24, 20, 17, 19, 15, 11, 13, 10, 8, 5, 1] (Ca 28 76 [(.t 25), (.t 27), (.c (.int .i64 0))]),
  Fa 29 8 1,
  Ld 30 29,
  Fa 31 9 1,
  Ld 32 31,
  Af [27, 29, 25, 22, 24, 20, 17, 19, 15, 11, 13, 10, 8, 5, 1] (Ca 33 76 [(.t 30), (.t 32), (.c (.int .i64 1))]),
  Fa 34 8 1,
  Ld 35 34,
  Un 36 .not 35,
  Mv 37 36,
  Gt 37 (Fa 38 10 1),
  Af [30, 32, 27, 29, 25, 22, 24, 20, 17, 19, 15, 11, 13, 10, 8, 5, 1] (Gt 37 (Ld 39 38)),
  Gt 37 (Op 40 (.bin .neq (.t 39) (.c (.int .u32 0)))),
  Pa 41 37 40,
  Af [36, 30, 32, 27, 29, 25, 22, 24, 20, 17, 19, 15, 11, 13, 10, 8, 5, 1] (Ca 42 74 [(.t 41), (.c (.int .i64 1))]),
  Fa 43 11 1,
  Ld 44 43,
  Af [41, 39, 36, 30, 32, 27, 29, 25, 22, 24, 20, 17, 19, 15, 11, 13, 10, 8, 5, 1] (Ct 45 77 [44]),
  Fa 46 12 1,
  Ld 47 46,
  Fa 48 13 1,
  Ld 49 48,
  Op 50 (.bin .eql (.t 49) (.c (.int .u32 0))),
  Op 51 (.eqb false (.t 47) (.t 50)),
  Af [42, 44, 46, 41, 39, 36, 30, 32, 27, 29, 25, 22, 24, 20, 17, 19, 15, 11, 13, 10, 8, 5, 1] (Ca 52 74 [(.t 51), (.c (.int .i64 1))]),
  Fa 53 14 1,
  Ld 54 53,
  Af [51, 49, 42, 44, 46, 41, 39, 36, 30, 32, 27, 29, 25, 22, 24, 20, 17, 19, 15, 11, 13, 10, 8, 5, 1] (Ct 55 78 [54]),
  Fa 56 15 1,
  Ld 57 56,
  Af [54, 52, 51, 49, 42, 44, 46, 41, 39, 36, 30, 32, 27, 29, 25, 22, 24, 20, 17, 19, 15, 11, 13, 10, 8, 5, 1] (Ct 58 79 [57]),
  Af [55, 54, 52, 51, 49, 42, 44, 46, 41, 39, 36, 30, 32, 27, 29, 25, 22, 24, 20, 17, 19, 15, 11, 13, 10, 8, 5, 1] (Op 59 (.bsl 1 [.int .i64 0] 11 [0, 1, 2, 3, 4, 5, 6, 7, 8, 9, 10] [(.t 11), (.t 14), (.t 18), (.t 23), (.t 28), (.t 33), (.t 42), (.t 45), (.t 52), (.t 55), (.t 58)])),
  Af [56, 55, 54, 52, 51, 49, 42, 44, 46, 41, 39, 36, 30, 32, 27, 29, 25, 22, 24, 20, 17, 19, 15, 11, 13, 10, 8, 5, 1] (Ct 60 73 [59]),
  Mv 2 60]
def f65 : AFunc := ⟨61, 1, false, [.t 2], (.seq (.region f65x0 false) (.seq (.region f65x1 true) .ret))⟩
def f66x0 : List AOper := [
  Op 1 (.box (.t 0)),
  Mc 2 (.int .i64 0)]
def f66x1 : List AOper := [
  Fa 9 0 1,
  Ld 10 9,
  Bc 11 .lss 10 0,
  Mv 12 11,
  Gf 12 (Fa 13 0 1),
  Gf 12 (Ld 14 13),
  Gf 12 (Bc 15 .gtr 14 2),
  Po 16 12 15]
def f66x2 : List AOper := [
  Mc 2 (.int .i64 5)]
def f66x3 : List AOper := [
  Fa 17 1 1,
  Ld 18 17,
  Ct 19 80 [18],
  Mv 3 19]
def f66x4 : List AOper := [
  Mv 20 3,
  Bc 21 .neq 20 0]
def f66x5 : List AOper := [
  Mv 22 3,
  Mv 2 22]
def f66x6 : List AOper := [
  Fa 24 2 1,
  Ld 25 24,
  Op 26 (.bin .eql (.t 25) (.c (.int .u32 0))),
  Mv 23 26]
def f66x7 : List AOper := [
  Mc 2 (.int .i64 1)]
def f66x8 : List AOper := [
  Fa 28 3 1,
  Ld 29 28,
  Mv 30 29,
  Gt 30 (Fa 31 4 1),
  Gt 30 (Ld 32 31),
  Gt 30 (Ct 33 81 [32]),
  Gt 30 (Un 34 .not 33),
  Pa 35 30 34,
  Mv 27 35]
def f66x9 : List AOper := [
  Mc 2 (.int .i64 5)]
def f66x10 : List AOper := [
  Fa 37 3 1,
  Ld 38 37,
  Un 39 .not 38,
  Mv 40 39,
  Gt 40 (Fa 41 4 1),
  Gt 40 (Ld 42 41),
  Gt 40 (Bc 43 .neq 42 0),
  Pa 44 40 43,
  Mv 36 44]
def f66x11 : List AOper := [
  Mc 2 (.int .i64 1)]
def f66x12 : List AOper := [
  Fa 46 5 1,
  Ld 47 46,
  Mv 48 47,
  Gt 48 (Fa 49 6 1),
  Gt 48 (Ld 50 49),
  Gt 48 (Ct 51 81 [50]),
  Gt 48 (Un 52 .not 51),
  Pa 53 48 52,
  Mv 45 53]
def f66x13 : List AOper := [
  Mc 2 (.int .i64 5)]
def f66x14 : List AOper := [
  Fa 55 5 1,
  Ld 56 55,
  Un 57 .not 56,
  Mv 58 57,
  Gt 58 (Fa 59 6 1),
  Gt 58 (Ld 60 59),
  Gt 58 (Bc 61 .neq 60 0),
  Pa 62 58 61,
  Mv 54 62]
def f66x15 : List AOper := [
  Mc 2 (.int .i64 1)]
def f66x16 : List AOper := [
  Fa 64 8 1,
  Ld 65 64,
  Mv 66 65,
  Gt 66 (Fa 67 9 1),
  Gt 66 (Ld 68 67),
  Gt 66 (Bc 69 .lss 68 1),
  Gt 66 (Mv 70 69),
  Gf 70 (Fa 71 9 1),
  Gf 70 (Ld 72 71),
  Gf 70 (Bc 73 .gtr 72 4294967295),
  Gt 66 (Po 74 70 73),
  Pa 75 66 74,
  Mv 63 75]
def f66x17 : List AOper := [
  Mc 2 (.int .i64 5)]
def f66x18 : List AOper := [
  Fa 77 8 1,
  Ld 78 77,
  Un 79 .not 78,
  Mv 80 79,
  Gt 80 (Fa 81 9 1),
  Gt 80 (Ld 82 81),
  Gt 80 (Bc 83 .neq 82 0),
  Gt 80 (Mv 84 83),
  Gf 84 (Fa 85 10 1),
  Gf 84 (Ld 86 85),
  Gf 84 (Op 87 (.bin .neq (.t 86) (.c (.int .u32 0)))),
  Gt 80 (Po 88 84 87),
  Pa 89 80 88,
  Mv 76 89]
def f66x19 : List AOper := [
  Mc 2 (.int .i64 1)]
def f66x20 : List AOper := [
  Fa 90 11 1,
  Ld 91 90,
  Ct 92 82 [91],
  Mv 4 92]
def f66x21 : List AOper := [
  Mv 93 4,
  Bc 94 .neq 93 0]
def f66x22 : List AOper := [
  Mv 95 4,
  Mv 2 95]
def f66x23 : List AOper := [
  Fa 96 12 1,
  Ld 97 96,
  Fa 98 13 1,
  Ld 99 98,
  Op 100 (.bin .neq (.t 99) (.c (.int .u32 0))),
  Op 101 (.eqb true (.t 97) (.t 100))]
def f66x24 : List AOper := [
  Mc 2 (.int .i64 1)]
def f66x25 : List AOper := [
  Fa 102 14 1,
  Ld 103 102,
  Ln 104 0 103,
  Bc 105 .gtr 104 64]
def f66x26 : List AOper := [
  Mc 2 (.int .i64 4)]
def f66x27 : List AOper := [
  Fa 106 14 1,
  Ld 107 106,
  Ln 108 0 107,
  Mc 109 (.int .i64 0)]
def f66x28 : List AOper := [
  Bi 110 .lss 109 108]
def f66x29 : List AOper := [
  Ia 111 1 107 109,
  Ld 112 111,
  Mv 6 112]
def f66x30 : List AOper := [
  Mv 113 6,
  Op 114 (.bin .eql (.t 113) (.c (.int .u32 0)))]
def f66x31 : List AOper := [
  Mc 2 (.int .i64 1)]
def f66x32 : List AOper := [
  Bc 115 .add 109 1,
  Mv 109 115]
def f66x33L : ACode := (.seq (.region f66x28 false) (.seq (.cond (.t 110) .skip (.exit 1)) (.seq (.block 2 (.seq (.region f66x29 false) (.seq (.region f66x30 false) (.cond (.t 114) (.seq (.region f66x31 false) .ret) .skip)))) (.region f66x32 false))))
def f66x34 : List AOper := [
  Fa 116 15 1,
  Ld 117 116,
  Ln 118 0 117,
  Bc 119 .gtr 118 64]
def f66x35 : List AOper := [
  Mc 2 (.int .i64 4)]
def f66x36 : List AOper := [
  Fa 120 15 1,
  Ld 121 120,
  Ln 122 0 121,
  Mc 123 (.int .i64 0)]
def f66x37 : List AOper := [
  Bi 124 .lss 123 122]
def f66x38 : List AOper := [
  Mv 125 123,
  Ia 126 2 121 123,
  Ls 127 2 126,
  Op 8 (.alloc (.agg [.int .i64 0, .con (.slice none 0 0)])),
  Mv 7 125,
  St 2 8 127]
def f66x39 : List AOper := [
  Fa 129 0 8,
  Ld 130 129,
  Bc 131 .lss 130 11,
  Mv 132 131,
  Gf 132 (Fa 133 0 8),
  Gf 132 (Ld 134 133),
  Gf 132 (Bc 135 .gtr 134 255),
  Po 136 132 135,
  Mv 128 136]
def f66x40 : List AOper := [
  Mc 2 (.int .i64 15)]
def f66x41 : List AOper := [
  Mv 138 7,
  Bc 139 .gtr 138 0,
  Mv 140 139,
  Gt 140 (Fa 141 0 8),
  Gt 140 (Ld 142 141),
  Gt 140 (Fa 143 15 1),
  Gt 140 (Ld 144 143),
  Gt 140 (Mv 145 7),
  Gt 140 (Bc 146 .sub 145 1),
  Af [6] (Gt 140 (Ia 147 2 144 146)),
  Gt 140 (Fa 148 0 147),
  Af [9, 6] (Gt 140 (Ld 149 148)),
  Gt 140 (Bi 150 .leq 142 149),
  Pa 151 140 150,
  Mv 137 151]
def f66x42 : List AOper := [
  Mc 2 (.int .i64 16)]
def f66x43 : List AOper := [
  Fa 153 1 8,
  Ld 154 153,
  Ln 155 0 154,
  Bc 156 .gtr 155 255,
  Mv 152 156]
def f66x44 : List AOper := [
  Mc 2 (.int .i64 4)]
def f66x45 : List AOper := [
  Bc 157 .add 123 1,
  Mv 123 157]
def f66x46L : ACode := (.seq (.region f66x37 false) (.seq (.cond (.t 124) .skip (.exit 3)) (.seq (.block 4 (.seq (.region f66x38 false) (.block 5 (.seq (.region f66x39 false) (.cond (.t 128) (.seq (.region f66x40 false) .ret) (.seq (.region f66x41 true) (.cond (.t 137) (.seq (.region f66x42 false) .ret) (.seq (.region f66x43 false) (.cond (.t 152) (.seq (.region f66x44 false) .ret) .skip))))))))) (.region f66x45 false))))
def f66x47 : List AOper := [
  Mc 2 (.int .i64 0)]
def f66 : AFunc := ⟨158, 1, false, [.t 2], (.seq (.region f66x0 false) (.seq (.seq (.region f66x1 false) (.cond (.t 16) (.seq (.region f66x2 false) .ret) .skip)) (.seq (.seq (.region f66x3 false) (.seq (.region f66x4 false) (.cond (.t 21) (.seq (.region f66x5 false) .ret) .skip))) (.seq (.block 0 (.seq (.region f66x6 false) (.cond (.t 23) (.seq (.region f66x7 false) .ret) (.seq (.region f66x8 false) (.cond (.t 27) (.seq (.region f66x9 false) .ret) (.seq (.region f66x10 false) (.cond (.t 36) (.seq (.region f66x11 false) .ret) (.seq (.region f66x12 false) (.cond (.t 45) (.seq (.region f66x13 false) .ret) (.seq (.region f66x14 false) (.cond (.t 54) (.seq (.region f66x15 false) .ret) (.seq (.region f66x16 false) (.cond (.t 63) (.seq (.region f66x17 false) .ret) (.seq (.region f66x18 false) (.cond (.t 76) (.seq (.region f66x19 false) .ret) .skip))))))))))))))) (.seq (.seq (.region f66x20 false) (.seq (.region f66x21 false) (.cond (.t 94) (.seq (.region f66x22 false) .ret) .skip))) (.seq (.seq (.region f66x23 false) (.cond (.t 101) (.seq (.region f66x24 false) .ret) .skip)) (.seq (.seq (.region f66x25 false) (.cond (.t 105) (.seq (.region f66x26 false) .ret) .skip)) (.seq (.seq (.region f66x27 false) (.block 1 (.loop f66x33L))) (.seq (.seq (.region f66x34 false) (.cond (.t 119) (.seq (.region f66x35 false) .ret) .skip)) (.seq (.seq (.region f66x36 false) (.block 3 (.loop f66x46L))) (.seq (.region f66x47 false) .ret)))))))))))⟩
def f66x33LH : List AItem := [.inLoop f66x33L, .inBlock 1, .code (.seq (.seq (.region f66x34 false) (.cond (.t 119) (.seq (.region f66x35 false) .ret) .skip)) (.seq (.seq (.region f66x36 false) (.block 3 (.loop f66x46L))) (.seq (.region f66x47 false) .ret)))]
def f66x46LH : List AItem := [.inLoop f66x46L, .inBlock 3, .code (.seq (.region f66x47 false) .ret)]
def f67x0 : List AOper := [
  Op 2 (.box (.t 0)),
  Mc 4 (.con (.slice none 0 0)),
  Mc 5 (.int .i64 0)]
def f67x1 : List AOper := [
  Ls 10 16 2,
  Ct 11 65 [10],
  Mv 6 11]
def f67x2 : List AOper := [
  Mv 12 6,
  Bc 13 .neq 12 0]
def f67x3 : List AOper := [
  Mv 14 6,
  Mc 4 (.con (.slice none 0 0)),
  Mv 5 14]
def f67x4 : List AOper := [
  Mv 15 1,
  Op 16 (.build [.con (.slice none 0 0), .bool false, .bool false] [(1, 1)] [(.t 15)]),
  Op 17 (.box (.t 16)),
  Mv 7 17]
def f67x5 : List AOper := [
  Mv 18 7,
  Fa 19 0 2,
  Ld 20 19,
  Cv 21 .u8 20,
  Op 22 (.bsl 1 [.int .u8 0] 1 [0] [(.t 21)]),
  Op 23 (.bsl 1 [.con (.slice none 0 0)] 1 [0] [(.t 22)]),
  Ca 24 83 [(.t 18), (.c (.int .i64 1)), (.t 23)]]
def f67x6 : List AOper := [
  Mv 25 7,
  Mv 26 7,
  Fa 27 1 2,
  Ld 28 27,
  Ct 29 84 [26, 28],
  Op 30 (.bsl 1 [.con (.slice none 0 0)] 1 [0] [(.t 29)]),
  Ca 31 83 [(.t 25), (.c (.int .i64 2)), (.t 30)]]
def f67x7 : List AOper := [
  Mv 32 7,
  Fa 33 2 2,
  Ld 34 33,
  Cv 35 .i64 34,
  Ct 36 85 [35],
  Op 37 (.bsl 1 [.con (.slice none 0 0)] 1 [0] [(.t 36)]),
  Ca 38 83 [(.t 32), (.c (.int .i64 3)), (.t 37)]]
def f67x8 : List AOper := [
  Fa 39 3 2,
  Ld 40 39]
def f67x9 : List AOper := [
  Mv 41 7,
  Fa 42 4 2,
  Ld 43 42,
  Ct 44 85 [43],
  Op 45 (.bsl 1 [.con (.slice none 0 0)] 1 [0] [(.t 44)]),
  Ca 46 83 [(.t 41), (.c (.int .i64 4)), (.t 45)]]
def f67x10 : List AOper := [
  Fa 47 5 2,
  Ld 48 47]
def f67x11 : List AOper := [
  Mv 49 7,
  Fa 50 6 2,
  Ld 51 50,
  Ct 52 85 [51],
  Op 53 (.bsl 1 [.con (.slice none 0 0)] 1 [0] [(.t 52)]),
  Ca 54 83 [(.t 49), (.c (.int .i64 5)), (.t 53)]]
def f67x12 : List AOper := [
  Fa 55 7 2,
  Ld 56 55]
def f67x13 : List AOper := [
  Mv 57 7,
  Ca 58 83 [(.t 57), (.c (.int .i64 6)), (.c (.con (.slice none 0 0)))]]
def f67x14 : List AOper := [
  Fa 59 8 2,
  Ld 60 59]
def f67x15 : List AOper := [
  Mv 61 7,
  Mv 62 7,
  Fa 63 9 2,
  Ld 64 63,
  Af [3] (Ct 65 86 [62, 64]),
  Fa 66 10 2,
  Ld 67 66,
  Cv 68 .i64 67,
  Af [4, 6, 3] (Ct 69 85 [68]),
  Af [8, 4, 6, 3] (Op 70 (.bsl 1 [.con (.slice none 0 0)] 2 [0, 1] [(.t 65), (.t 69)])),
  Af [9, 8, 4, 6, 3] (Ca 71 83 [(.t 61), (.c (.int .i64 7)), (.t 70)])]
def f67x16 : List AOper := [
  Fa 72 11 2,
  Ld 73 72,
  Ln 74 0 73,
  Bc 75 .gtr 74 0]
def f67x17 : List AOper := [
  Mv 76 7,
  Fa 77 11 2,
  Ld 78 77,
  Ct 79 87 [78],
  Op 80 (.bsl 1 [.con (.slice none 0 0)] 1 [0] [(.t 79)]),
  Ca 81 83 [(.t 76), (.c (.int .i64 8)), (.t 80)]]
def f67x18 : List AOper := [
  Fa 82 12 2,
  Ld 83 82]
def f67x19 : List AOper := [
  Mv 84 7,
  Fa 85 13 2,
  Ld 86 85,
  Cv 87 .i64 86,
  Ct 88 85 [87],
  Op 89 (.bsl 1 [.con (.slice none 0 0)] 1 [0] [(.t 88)]),
  Ca 90 83 [(.t 84), (.c (.int .i64 9)), (.t 89)]]
def f67x20 : List AOper := [
  Fa 91 14 2,
  Ld 92 91,
  Ln 93 0 92,
  Bc 94 .gtr 93 0]
def f67x21 : List AOper := [
  Mv 95 7,
  Fa 96 14 2,
  Ld 97 96,
  Ct 98 87 [97],
  Op 99 (.bsl 1 [.con (.slice none 0 0)] 1 [0] [(.t 98)]),
  Ca 100 83 [(.t 95), (.c (.int .i64 10)), (.t 99)]]
def f67x22 : List AOper := [
  Fa 101 15 2,
  Ld 102 101,
  Ln 103 0 102,
  Mc 104 (.int .i64 0)]
def f67x23 : List AOper := [
  Bi 105 .lss 104 103]
def f67x24 : List AOper := [
  Ia 106 2 102 104,
  Ls 107 2 106,
  Op 9 (.alloc (.agg [.int .i64 0, .con (.slice none 0 0)])),
  St 2 9 107]
def f67x25 : List AOper := [
  Mv 108 7,
  Fa 109 0 9,
  Ld 110 109,
  Fa 111 1 9,
  Ld 112 111,
  Op 113 (.bsl 1 [.con (.slice none 0 0)] 1 [0] [(.t 112)]),
  Ct 114 83 [108, 110, 113]]
def f67x26 : List AOper := [
  Bc 115 .add 104 1,
  Mv 104 115]
def f67x27L : ACode := (.seq (.region f67x23 false) (.seq (.cond (.t 105) .skip (.exit 0)) (.seq (.block 1 (.seq (.region f67x24 false) (.region f67x25 false))) (.region f67x26 false))))
def f67x28 : List AOper := [
  Mv 116 7,
  Nc 117 116,
  Fa 118 2 117,
  Ld 119 118]
def f67x29 : List AOper := [
  Mc 4 (.con (.slice none 0 0)),
  Mc 5 (.int .i64 5)]
def f67x30 : List AOper := [
  Mv 120 7,
  Nc 121 120,
  Fa 122 0 121,
  Ld 123 122,
  Mv 4 123,
  Mc 5 (.int .i64 0)]
def f67 : AFunc := ⟨124, 2, false, [.t 4, .t 5], (.seq (.region f67x0 false) (.seq (.seq (.region f67x1 false) (.seq (.region f67x2 false) (.cond (.t 13) (.seq (.region f67x3 false) .ret) .skip))) (.seq (.region f67x4 false) (.seq (.region f67x5 false) (.seq (.region f67x6 false) (.seq (.region f67x7 false) (.seq (.seq (.region f67x8 false) (.cond (.t 40) (.region f67x9 false) .skip)) (.seq (.seq (.region f67x10 false) (.cond (.t 48) (.region f67x11 false) .skip)) (.seq (.seq (.region f67x12 false) (.cond (.t 56) (.region f67x13 false) .skip)) (.seq (.seq (.region f67x14 false) (.cond (.t 60) (.region f67x15 true) .skip)) (.seq (.seq (.region f67x16 false) (.cond (.t 75) (.region f67x17 false) .skip)) (.seq (.seq (.region f67x18 false) (.cond (.t 83) (.region f67x19 false) .skip)) (.seq (.seq (.region f67x20 false) (.cond (.t 94) (.region f67x21 false) .skip)) (.seq (.seq (.region f67x22 false) (.block 0 (.loop f67x27L))) (.seq (.seq (.region f67x28 false) (.cond (.t 119) (.seq (.region f67x29 false) .ret) .skip)) (.seq (.region f67x30 false) .ret))))))))))))))))⟩
def f67x27LH : List AItem := [.inLoop f67x27L, .inBlock 0, .code (.seq (.seq (.region f67x28 false) (.cond (.t 119) (.seq (.region f67x29 false) .ret) .skip)) (.seq (.region f67x30 false) .ret))]
def f68x0 : List AOper := [
  Op 2 (.box (.t 0)),
  Mc 4 (.con (.slice none 0 0)),
  Mc 5 (.int .i64 0)]
def f68x1 : List AOper := [
  Ls 14 16 2,
  Ct 15 66 [14],
  Mv 6 15]
def f68x2 : List AOper := [
  Mv 16 6,
  Bc 17 .neq 16 0]
def f68x3 : List AOper := [
  Mv 18 6,
  Mc 4 (.con (.slice none 0 0)),
  Mv 5 18]
def f68x4 : List AOper := [
  Fa 19 1 2,
  Ld 20 19,
  Ct 21 57 [20],
  Mv 7 21]
def f68x5 : List AOper := [
  Mv 22 7,
  Fa 23 9 2,
  Ld 24 23,
  Op 25 (.bsl 1 [.int .i64 0] 1 [0] [(.t 24)]),
  Ap 26 1 8 22 25,
  Mv 7 26]
def f68x6 : List AOper := [
  Mv 27 7,
  Ln 28 0 27,
  Mc 29 (.int .i64 0)]
def f68x7 : List AOper := [
  Bi 30 .lss 29 28]
def f68x8 : List AOper := [
  Ia 31 1 27 29,
  Ld 32 31,
  Mv 9 32]
def f68x9 : List AOper := [
  Mv 33 1,
  Un 34 .not 33,
  Mv 35 34,
  Gt 35 (Mv 36 9),
  Gt 35 (Bc 37 .gtr 36 65535),
  Pa 38 35 37]
def f68x10 : List AOper := [
  Mc 4 (.con (.slice none 0 0)),
  Mc 5 (.int .i64 5)]
def f68x11 : List AOper := [
  Bc 39 .add 29 1,
  Mv 29 39]
def f68x12L : ACode := (.seq (.region f68x7 false) (.seq (.cond (.t 30) .skip (.exit 0)) (.seq (.block 1 (.seq (.region f68x8 false) (.seq (.region f68x9 false) (.cond (.t 38) (.seq (.region f68x10 false) .ret) .skip)))) (.region f68x11 false))))
def f68x13 : List AOper := [
  Fa 40 0 2,
  Ld 41 40,
  Cv 42 .u8 41,
  Op 43 (.bsl 1 [.int .u8 0] 1 [0] [(.t 42)]),
  Ca 44 88 [(.c (.con (.slice none 0 0))), (.c (.int .i64 1)), (.t 43)],
  Mv 10 44]
def f68x14 : List AOper := [
  Mv 45 10,
  Fa 46 1 2,
  Ld 47 46,
  Mv 48 1,
  Ct 49 89 [47, 48],
  Ca 50 88 [(.t 45), (.c (.int .i64 2)), (.t 49)],
  Mv 10 50]
def f68x15 : List AOper := [
  Mv 51 10,
  Fa 52 2 2,
  Ld 53 52,
  Op 54 (.bsl 1 [.int .u32 0] 1 [0] [(.t 53)]),
  Ct 55 90 [54],
  Ca 56 88 [(.t 51), (.c (.int .i64 3)), (.t 55)],
  Mv 10 56]
def f68x16 : List AOper := [
  Fa 57 3 2,
  Ld 58 57]
def f68x17 : List AOper := [
  Mv 59 10,
  Fa 60 4 2,
  Ld 61 60,
  Cv 62 .u32 61,
  Op 63 (.bsl 1 [.int .u32 0] 1 [0] [(.t 62)]),
  Ct 64 90 [63],
  Ca 65 88 [(.t 59), (.c (.int .i64 4)), (.t 64)],
  Mv 10 65]
def f68x18 : List AOper := [
  Fa 66 5 2,
  Ld 67 66]
def f68x19 : List AOper := [
  Mv 68 10,
  Fa 69 6 2,
  Ld 70 69,
  Cv 71 .u32 70,
  Op 72 (.bsl 1 [.int .u32 0] 1 [0] [(.t 71)]),
  Ct 73 90 [72],
  Ca 74 88 [(.t 68), (.c (.int .i64 5)), (.t 73)],
  Mv 10 74]
def f68x20 : List AOper := [
  Fa 75 7 2,
  Ld 76 75]
def f68x21 : List AOper := [
  Mv 77 10,
  Ca 78 88 [(.t 77), (.c (.int .i64 6)), (.c (.con (.slice none 0 0)))],
  Mv 10 78]
def f68x22 : List AOper := [
  Fa 79 8 2,
  Ld 80 79]
def f68x23 : List AOper := [
  Mv 81 1,
  Ct 82 92 [81],
  Fa 83 9 2,
  Ld 84 83,
  Cv 85 .u64 84,
  Af [1, 3] (Ca 86 91 [(.c (.con (.slice none 0 0))), (.t 82), (.t 85)]),
  Mv 11 86]
def f68x24 : List AOper := [
  Mv 87 10,
  Mv 88 11,
  Fa 89 10 2,
  Ld 90 89,
  Cv 91 .u64 90,
  Ca 92 91 [(.t 88), (.c (.int .i64 4)), (.t 91)],
  Ca 93 88 [(.t 87), (.c (.int .i64 7)), (.t 92)],
  Mv 10 93]
def f68x25 : List AOper := [
  Fa 94 11 2,
  Ld 95 94,
  Ln 96 0 95,
  Bc 97 .gtr 96 0]
def f68x26 : List AOper := [
  Mv 98 10,
  Fa 99 11 2,
  Ld 100 99,
  Ct 101 90 [100],
  Ca 102 88 [(.t 98), (.c (.int .i64 8)), (.t 101)],
  Mv 10 102]
def f68x27 : List AOper := [
  Fa 103 12 2,
  Ld 104 103]
def f68x28 : List AOper := [
  Mv 105 10,
  Fa 106 13 2,
  Ld 107 106,
  Op 108 (.bsl 1 [.int .u32 0] 1 [0] [(.t 107)]),
  Ct 109 90 [108],
  Ca 110 88 [(.t 105), (.c (.int .i64 9)), (.t 109)],
  Mv 10 110]
def f68x29 : List AOper := [
  Fa 111 14 2,
  Ld 112 111,
  Ln 113 0 112,
  Bc 114 .gtr 113 0]
def f68x30 : List AOper := [
  Mv 115 10,
  Fa 116 14 2,
  Ld 117 116,
  Ct 118 90 [117],
  Ca 119 88 [(.t 115), (.c (.int .i64 10)), (.t 118)],
  Mv 10 119]
def f68x31 : List AOper := [
  Fa 120 15 2,
  Ld 121 120,
  Ln 122 0 121,
  Mc 123 (.int .i64 0)]
def f68x32 : List AOper := [
  Bi 124 .lss 123 122]
def f68x33 : List AOper := [
  Ia 125 2 121 123,
  Ls 126 2 125,
  Op 13 (.alloc (.agg [.int .i64 0, .con (.slice none 0 0)])),
  St 2 13 126]
def f68x34 : List AOper := [
  Mv 127 10,
  Fa 128 0 13,
  Ld 129 128,
  Fa 130 1 13,
  Ld 131 130,
  Ct 132 88 [127, 129, 131],
  Mv 10 132]
def f68x35 : List AOper := [
  Bc 133 .add 123 1,
  Mv 123 133]
def f68x36L : ACode := (.seq (.region f68x32 false) (.seq (.cond (.t 124) .skip (.exit 2)) (.seq (.block 3 (.seq (.region f68x33 false) (.region f68x34 false))) (.region f68x35 false))))
def f68x37 : List AOper := [
  Mv 134 10,
  Mv 4 134,
  Mc 5 (.int .i64 0)]
def f68 : AFunc := ⟨135, 2, false, [.t 4, .t 5], (.seq (.region f68x0 false) (.seq (.seq (.region f68x1 false) (.seq (.region f68x2 false) (.cond (.t 17) (.seq (.region f68x3 false) .ret) .skip))) (.seq (.region f68x4 false) (.seq (.region f68x5 false) (.seq (.seq (.region f68x6 false) (.block 0 (.loop f68x12L))) (.seq (.region f68x13 false) (.seq (.region f68x14 false) (.seq (.region f68x15 false) (.seq (.seq (.region f68x16 false) (.cond (.t 58) (.region f68x17 false) .skip)) (.seq (.seq (.region f68x18 false) (.cond (.t 67) (.region f68x19 false) .skip)) (.seq (.seq (.region f68x20 false) (.cond (.t 76) (.region f68x21 false) .skip)) (.seq (.seq (.region f68x22 false) (.cond (.t 80) (.seq (.region f68x23 true) (.region f68x24 false)) .skip)) (.seq (.seq (.region f68x25 false) (.cond (.t 97) (.region f68x26 false) .skip)) (.seq (.seq (.region f68x27 false) (.cond (.t 104) (.region f68x28 false) .skip)) (.seq (.seq (.region f68x29 false) (.cond (.t 114) (.region f68x30 false) .skip)) (.seq (.seq (.region f68x31 false) (.block 2 (.loop f68x36L))) (.seq (.region f68x37 false) .ret)))))))))))))))))⟩
def f69x0 : List AOper := [
  Op 4 (.alloc (.agg [.int .i64 0, .con (.slice none 0 0), .int .u32 0, .bool false, .int .i64 0, .bool false, .int .i64 0, .bool false, .bool false, .int .i64 0, .int .u32 0, .con (.slice none 0 0), .bool false, .int .u32 0, .con (.slice none 0 0), .con (.slice none 0 0)])),
  Mc 5 (.int .i64 0)]
def f69x1 : List AOper := [
  Op 13 (.build [.int .i64 0, .con (.slice none 0 0), .int .u32 0, .bool false, .int .i64 0, .bool false, .int .i64 0, .bool false, .bool false, .int .i64 0, .int .u32 0, .con (.slice none 0 0), .bool false, .int .u32 0, .con (.slice none 0 0), .con (.slice none 0 0)] [] []),
  Op 6 (.alloc (.agg [.int .i64 0, .con (.slice none 0 0), .int .u32 0, .bool false, .int .i64 0, .bool false, .int .i64 0, .bool false, .bool false, .int .i64 0, .int .u32 0, .con (.slice none 0 0), .bool false, .int .u32 0, .con (.slice none 0 0), .con (.slice none 0 0)])),
  St 16 6 13]
def f69x2 : List AOper := [
  Mc 7 (.int .i64 (-1)),
  Mc 8 (.int .i64 0)]
def f69x3 : List AOper := [
  Mv 14 0,
  Ln 15 0 14,
  Bc 16 .gtr 15 0]
def f69x4 : List AOper := [
  Mc 9 (.int .i64 3)]
def f69x5 : List AOper := [
  Mv 17 0,
  Op 18 (.iadr 1 (.t 17) (.c (.int .i64 0))),
  Ld 19 18,
  Op 20 (.bin .and (.t 19) (.c (.int .u8 16))),
  Op 21 (.bin .neq (.t 20) (.c (.int .u8 0)))]
def f69x6 : List AOper := [
  Mc 9 (.int .i64 4)]
def f69x7 : List AOper := [
  Mv 22 0,
  Ln 23 0 22,
  Mv 24 9,
  Bi 25 .lss 23 24]
def f69x8 : List AOper := [
  Op 26 (.build [.int .i64 0, .con (.slice none 0 0), .int .u32 0, .bool false, .int .i64 0, .bool false, .int .i64 0, .bool false, .bool false, .int .i64 0, .int .u32 0, .con (.slice none 0 0), .bool false, .int .u32 0, .con (.slice none 0 0), .con (.slice none 0 0)] [] []),
  St 16 4 26,
  Mc 5 (.int .i64 3)]
def f69x9 : List AOper := [
  Mv 27 0,
  Mv 28 9,
  Bc 29 .sub 28 2,
  Ca 30 93 [(.t 27), (.c (.int .i64 2)), (.t 29)],
  Mv 10 30]
def f69x10 : List AOper := [
  Mv 31 0,
  Ln 32 0 31,
  Mv 33 9,
  Mv 34 10,
  Bi 35 .add 33 34,
  Bi 36 .lss 32 35]
def f69x11 : List AOper := [
  Op 37 (.build [.int .i64 0, .con (.slice none 0 0), .int .u32 0, .bool false, .int .i64 0, .bool false, .int .i64 0, .bool false, .bool false, .int .i64 0, .int .u32 0, .con (.slice none 0 0), .bool false, .int .u32 0, .con (.slice none 0 0), .con (.slice none 0 0)] [] []),
  St 16 4 37,
  Mc 5 (.int .i64 3)]
def f69x12 : List AOper := [
  Mv 38 0,
  Op 39 (.iadr 1 (.t 38) (.c (.int .i64 1))),
  Ld 40 39,
  Cv 41 .i64 40,
  Mv 11 41]
def f69x13 : List AOper := [
  Mv 42 11,
  Mv 43 7,
  Bi 44 .leq 42 43]
def f69x14 : List AOper := [
  Op 45 (.build [.int .i64 0, .con (.slice none 0 0), .int .u32 0, .bool false, .int .i64 0, .bool false, .int .i64 0, .bool false, .bool false, .int .i64 0, .int .u32 0, .con (.slice none 0 0), .bool false, .int .u32 0, .con (.slice none 0 0), .con (.slice none 0 0)] [] []),
  St 16 4 45,
  Mc 5 (.int .i64 16)]
def f69x15 : List AOper := [
  Mv 46 0,
  Op 47 (.iadr 1 (.t 46) (.c (.int .i64 0))),
  Af [1] (Ld 48 47),
  Op 49 (.bin .andNot (.t 48) (.c (.int .u8 16))),
  Mv 50 11,
  Ct 51 94 [50],
  Bi 52 .neq 49 51,
  Mv 53 52,
  Gf 53 (Mv 54 9),
  Gf 53 (Bc 55 .eql 54 4),
  Gf 53 (Mv 56 55),
  Gt 56 (Mv 57 10),
  Gt 56 (Bc 58 .leq 57 255),
  Gf 53 (Pa 59 56 58),
  Po 60 53 59,
  Mv 61 60,
  Gf 61 (Mv 62 11),
  Gf 61 (Mv 63 0),
  Gf 61 (Mv 64 9),
  Gf 61 (Mv 65 9),
  Gf 61 (Mv 66 10),
  Gf 61 (Bi 67 .add 65 66),
  Af [5, 2, 1] (Gf 61 (Op 68 (.slc 1 (.t 63) (some (.t 64)) (some (.t 67)) none))),
  Gf 61 (Mv 69 1),
  Af [5, 2, 1] (Gf 61 (Ct 70 96 [69])),
  Af [22, 24, 5, 2, 1] (Gf 61 (Ct 71 95 [6, 62, 68, 70])),
  Gf 61 (Un 72 .not 71),
  Po 73 61 72]
def f69x16 : List AOper := [
  Op 74 (.build [.int .i64 0, .con (.slice none 0 0), .int .u32 0, .bool false, .int .i64 0, .bool false, .int .i64 0, .bool false, .bool false, .int .i64 0, .int .u32 0, .con (.slice none 0 0), .bool false, .int .u32 0, .con (.slice none 0 0), .con (.slice none 0 0)] [] []),
  St 16 4 74,
  Mc 5 (.int .i64 2)]
def f69x17 : List AOper := [
  Mv 75 11,
  Bc 76 .geq 75 1,
  Mv 77 76,
  Gt 77 (Mv 78 11),
  Gt 77 (Bc 79 .leq 78 3),
  Pa 80 77 79]
def f69x18 : List AOper := [
  Mv 81 8,
  Bc 82 .add 81 1,
  Mv 8 82]
def f69x19 : List AOper := [
  Mv 83 11,
  Mv 7 83]
def f69x20 : List AOper := [
  Mv 84 0,
  Mv 85 9,
  Mv 86 10,
  Bi 87 .add 85 86,
  Op 88 (.slc 1 (.t 84) (some (.t 87)) none none),
  Mv 0 88]
def f69x21L : ACode := (.seq (.seq (.region f69x3 false) (.cond (.t 16) .skip (.exit 0))) (.block 1 (.seq (.region f69x4 false) (.seq (.seq (.region f69x5 false) (.cond (.t 21) (.region f69x6 false) .skip)) (.seq (.seq (.region f69x7 false) (.cond (.t 25) (.seq (.region f69x8 false) .ret) .skip)) (.seq (.region f69x9 false) (.seq (.seq (.region f69x10 false) (.cond (.t 36) (.seq (.region f69x11 false) .ret) .skip)) (.seq (.region f69x12 false) (.seq (.seq (.region f69x13 false) (.cond (.t 44) (.seq (.region f69x14 false) .ret) .skip)) (.seq (.seq (.region f69x15 true) (.cond (.t 73) (.seq (.region f69x16 false) .ret) .skip)) (.seq (.seq (.region f69x17 false) (.cond (.t 80) (.region f69x18 false) .skip)) (.seq (.region f69x19 false) (.region f69x20 false)))))))))))))
def f69x22 : List AOper := [
  Mv 89 8,
  Bc 90 .lss 89 3]
def f69x23 : List AOper := [
  Op 91 (.build [.int .i64 0, .con (.slice none 0 0), .int .u32 0, .bool false, .int .i64 0, .bool false, .int .i64 0, .bool false, .bool false, .int .i64 0, .int .u32 0, .con (.slice none 0 0), .bool false, .int .u32 0, .con (.slice none 0 0), .con (.slice none 0 0)] [] []),
  St 16 4 91,
  Mc 5 (.int .i64 6)]
def f69x24 : List AOper := [
  Ls 92 16 6,
  Ct 93 65 [92],
  Mv 12 93]
def f69x25 : List AOper := [
  Mv 94 12,
  Bc 95 .neq 94 0]
def f69x26 : List AOper := [
  Op 96 (.build [.int .i64 0, .con (.slice none 0 0), .int .u32 0, .bool false, .int .i64 0, .bool false, .int .i64 0, .bool false, .bool false, .int .i64 0, .int .u32 0, .con (.slice none 0 0), .bool false, .int .u32 0, .con (.slice none 0 0), .con (.slice none 0 0)] [] []),
  Mv 97 12,
  St 16 4 96,
  Mv 5 97]
def f69x27 : List AOper := [
  Ls 98 16 6,
  St 16 4 98,
  Mc 5 (.int .i64 0)]
def f69 : AFunc := ⟨99, 2, false, [.cell 4 (some 16), .t 5], (.seq (.region f69x0 false) (.seq (.region f69x1 false) (.seq (.region f69x2 false) (.seq (.block 0 (.loop f69x21L)) (.seq (.seq (.region f69x22 false) (.cond (.t 90) (.seq (.region f69x23 false) .ret) .skip)) (.seq (.seq (.region f69x24 false) (.seq (.region f69x25 false) (.cond (.t 95) (.seq (.region f69x26 false) .ret) .skip))) (.seq (.region f69x27 false) .ret)))))))⟩
def f69x21LH : List AItem := [.inLoop f69x21L, .inBlock 0, .code (.seq (.seq (.region f69x22 false) (.cond (.t 90) (.seq (.region f69x23 false) .ret) .skip)) (.seq (.seq (.region f69x24 false) (.seq (.region f69x25 false) (.cond (.t 95) (.seq (.region f69x26 false) .ret) .skip))) (.seq (.region f69x27 false) .ret)))]
def f70x0 : List AOper := [
  Op 2 (.box (.t 0)),
  Op 3 (.box (.t 1)),
  Mc 4 (.bool false)]
def f70x1 : List AOper := [
  Fa 6 0 2,
  Ld 7 6,
  Fa 8 0 3,
  Ld 9 8,
  Bi 10 .neq 7 9,
  Mv 11 10,
  Gf 11 (Fa 12 1 2),
  Gf 11 (Ld 13 12),
  Gf 11 (Fa 14 1 3),
  Gf 11 (Ld 15 14),
  Gf 11 (Ct 16 97 [13, 15]),
  Gf 11 (Un 17 .not 16),
  Po 18 11 17,
  Mv 19 18,
  Gf 19 (Fa 20 2 2),
  Gf 19 (Ld 21 20),
  Gf 19 (Fa 22 2 3),
  Gf 19 (Ld 23 22),
  Gf 19 (Bi 24 .neq 21 23),
  Po 25 19 24,
  Mv 26 25,
  Gf 26 (Fa 27 3 2),
  Gf 26 (Ld 28 27),
  Gf 26 (Fa 29 3 3),
  Gf 26 (Ld 30 29),
  Gf 26 (Op 31 (.eqb true (.t 28) (.t 30))),
  Po 32 26 31,
  Mv 33 32,
  Gf 33 (Fa 34 4 2),
  Gf 33 (Ld 35 34),
  Gf 33 (Fa 36 4 3),
  Gf 33 (Ld 37 36),
  Gf 33 (Bi 38 .neq 35 37),
  Po 39 33 38,
  Mv 40 39,
  Gf 40 (Fa 41 5 2),
  Gf 40 (Ld 42 41),
  Gf 40 (Fa 43 5 3),
  Gf 40 (Ld 44 43),
  Gf 40 (Op 45 (.eqb true (.t 42) (.t 44))),
  Po 46 40 45,
  Mv 47 46,
  Gf 47 (Fa 48 6 2),
  Gf 47 (Ld 49 48),
  Gf 47 (Fa 50 6 3),
  Gf 47 (Ld 51 50),
  Gf 47 (Bi 52 .neq 49 51),
  Po 53 47 52,
  Mv 54 53,
  Gf 54 (Fa 55 7 2),
  Gf 54 (Ld 56 55),
  Gf 54 (Fa 57 7 3),
  Gf 54 (Ld 58 57),
  Gf 54 (Op 59 (.eqb true (.t 56) (.t 58))),
  Po 60 54 59]
def f70x2 : List AOper := [
  Mc 4 (.bool false)]
def f70x3 : List AOper := [
  Fa 61 8 2,
  Ld 62 61,
  Fa 63 8 3,
  Ld 64 63,
  Op 65 (.eqb true (.t 62) (.t 64)),
  Mv 66 65,
  Gf 66 (Fa 67 9 2),
  Gf 66 (Ld 68 67),
  Gf 66 (Fa 69 9 3),
  Gf 66 (Ld 70 69),
  Gf 66 (Bi 71 .neq 68 70),
  Po 72 66 71,
  Mv 73 72,
  Gf 73 (Fa 74 10 2),
  Gf 73 (Ld 75 74),
  Gf 73 (Fa 76 10 3),
  Gf 73 (Ld 77 76),
  Gf 73 (Bi 78 .neq 75 77),
  Po 79 73 78,
  Mv 80 79,
  Gf 80 (Fa 81 12 2),
  Gf 80 (Ld 82 81),
  Gf 80 (Fa 83 12 3),
  Gf 80 (Ld 84 83),
  Gf 80 (Op 85 (.eqb true (.t 82) (.t 84))),
  Po 86 80 85,
  Mv 87 86,
  Gf 87 (Fa 88 13 2),
  Gf 87 (Ld 89 88),
  Gf 87 (Fa 90 13 3),
  Gf 87 (Ld 91 90),
  Gf 87 (Bi 92 .neq 89 91),
  Po 93 87 92,
  Mv 94 93,
  Gf 94 (Fa 95 15 2),
  Gf 94 (Ld 96 95),
  Gf 94 (Ln 97 0 96),
  Gf 94 (Fa 98 15 3),
  Gf 94 (Ld 99 98),
  Gf 94 (Ln 100 0 99),
  Gf 94 (Bi 101 .neq 97 100),
  Po 102 94 101]
def f70x4 : List AOper := [
  Mc 4 (.bool false)]
def f70x5 : List AOper := [
  Fa 103 15 2,
  Ld 104 103,
  Ln 105 0 104,
  Mc 106 (.int .i64 0)]
def f70x6 : List AOper := [
  Bi 107 .lss 106 105]
def f70x7 : List AOper := [
  Mv 108 106,
  Mv 5 108]
def f70x8 : List AOper := [
  Fa 109 15 2,
  Ld 110 109,
  Mv 111 5,
  Af [1] (Ia 112 2 110 111),
  Fa 113 0 112,
  Af [3, 1] (Ld 114 113),
  Fa 115 15 3,
  Ld 116 115,
  Mv 117 5,
  Af [7] (Ia 118 2 116 117),
  Fa 119 0 118,
  Af [9, 7] (Ld 120 119),
  Bi 121 .neq 114 120,
  Mv 122 121,
  Gf 122 (Fa 123 15 2),
  Af [5, 11, 3, 1, 9, 7] (Gf 122 (Ld 124 123)),
  Gf 122 (Mv 125 5),
  Af [15, 5, 11, 3, 1, 9, 7] (Gf 122 (Ia 126 2 124 125)),
  Gf 122 (Fa 127 1 126),
  Af [17, 15, 5, 11, 3, 1, 9, 7] (Gf 122 (Ld 128 127)),
  Gf 122 (Fa 129 15 3),
  Af [5, 11, 3, 1, 9, 7] (Gf 122 (Ld 130 129)),
  Gf 122 (Mv 131 5),
  Af [21, 5, 11, 3, 1, 9, 7] (Gf 122 (Ia 132 2 130 131)),
  Gf 122 (Fa 133 1 132),
  Af [23, 21, 5, 11, 3, 1, 9, 7] (Gf 122 (Ld 134 133)),
  Af [19, 25, 17, 15, 23, 21, 5, 11, 3, 1, 9, 7] (Gf 122 (Ct 135 98 [128, 134])),
  Gf 122 (Un 136 .not 135),
  Po 137 122 136]
def f70x9 : List AOper := [
  Mc 4 (.bool false)]
def f70x10 : List AOper := [
  Bc 138 .add 106 1,
  Mv 106 138]
def f70x11L : ACode := (.seq (.region f70x6 false) (.seq (.cond (.t 107) .skip (.exit 0)) (.seq (.block 1 (.seq (.region f70x7 false) (.seq (.region f70x8 true) (.cond (.t 137) (.seq (.region f70x9 false) .ret) .skip)))) (.region f70x10 false))))
def f70x12 : List AOper := [
  Fa 139 11 2,
  Ld 140 139,
  Fa 141 11 3,
  Ld 142 141,
  Ct 143 99 [140, 142],
  Mv 144 143,
  Gt 144 (Fa 145 14 2),
  Gt 144 (Ld 146 145),
  Gt 144 (Fa 147 14 3),
  Gt 144 (Ld 148 147),
  Gt 144 (Ct 149 99 [146, 148]),
  Pa 150 144 149,
  Mv 4 150]
def f70 : AFunc := ⟨151, 2, false, [.t 4], (.seq (.region f70x0 false) (.seq (.seq (.region f70x1 false) (.cond (.t 60) (.seq (.region f70x2 false) .ret) .skip)) (.seq (.seq (.region f70x3 false) (.cond (.t 102) (.seq (.region f70x4 false) .ret) .skip)) (.seq (.seq (.region f70x5 false) (.block 0 (.loop f70x11L))) (.seq (.region f70x12 false) .ret)))))⟩
def f70x11LH : List AItem := [.inLoop f70x11L, .inBlock 0, .code (.seq (.region f70x12 false) .ret)]
def f71x0 : List AOper := [
  Op 4 (.alloc (.agg [.int .i64 0, .con (.slice none 0 0), .int .u32 0, .bool false, .int .i64 0, .bool false, .int .i64 0, .bool false, .bool false, .int .i64 0, .int .u32 0, .con (.slice none 0 0), .bool false, .int .u32 0, .con (.slice none 0 0), .con (.slice none 0 0)])),
  Mc 5 (.int .i64 0)]
def f71x1 : List AOper := [
  Op 18 (.build [.int .i64 0, .con (.slice none 0 0), .int .u32 0, .bool false, .int .i64 0, .bool false, .int .i64 0, .bool false, .bool false, .int .i64 0, .int .u32 0, .con (.slice none 0 0), .bool false, .int .u32 0, .con (.slice none 0 0), .con (.slice none 0 0)] [] []),
  Op 6 (.alloc (.agg [.int .i64 0, .con (.slice none 0 0), .int .u32 0, .bool false, .int .i64 0, .bool false, .int .i64 0, .bool false, .bool false, .int .i64 0, .int .u32 0, .con (.slice none 0 0), .bool false, .int .u32 0, .con (.slice none 0 0), .con (.slice none 0 0)])),
  St 16 6 18]
def f71x2 : List AOper := [
  Mc 7 (.int .i64 (-1))]
def f71x3 : List AOper := [
  Op 8 (.alloc (.agg [.bool false, .bool false, .bool false, .bool false, .bool false, .bool false, .bool false, .bool false, .bool false, .bool false, .bool false, .bool false, .bool false, .bool false, .bool false, .bool false, .bool false, .bool false, .bool false, .bool false, .bool false, .bool false, .bool false, .bool false, .bool false, .bool false, .bool false, .bool false, .bool false, .bool false, .bool false, .bool false, .bool false, .bool false, .bool false, .bool false, .bool false, .bool false, .bool false, .bool false, .bool false, .bool false, .bool false, .bool false, .bool false, .bool false, .bool false, .bool false, .bool false, .bool false, .bool false, .bool false, .bool false, .bool false, .bool false, .bool false, .bool false, .bool false, .bool false, .bool false, .bool false, .bool false, .bool false, .bool false, .bool false, .bool false, .bool false, .bool false, .bool false, .bool false, .bool false, .bool false, .bool false, .bool false, .bool false, .bool false, .bool false, .bool false, .bool false, .bool false, .bool false, .bool false, .bool false, .bool false, .bool false, .bool false, .bool false, .bool false, .bool false, .bool false, .bool false, .bool false, .bool false, .bool false, .bool false, .bool false, .bool false, .bool false, .bool false, .bool false, .bool false, .bool false, .bool false, .bool false, .bool false, .bool false, .bool false, .bool false, .bool false, .bool false, .bool false, .bool false, .bool false, .bool false, .bool false, .bool false, .bool false, .bool false, .bool false, .bool false, .bool false, .bool false, .bool false, .bool false, .bool false, .bool false, .bool false, .bool false, .bool false, .bool false, .bool false, .bool false, .bool false, .bool false, .bool false, .bool false, .bool false, .bool false, .bool false, .bool false, .bool false, .bool false, .bool false, .bool false, .bool false, .bool false, .bool false, .bool false, .bool false, .bool false, .bool false, .bool false, .bool false, .bool false, .bool false, .bool false, .bool false, .bool false, .bool false, .bool false, .bool false, .bool false, .bool false, .bool false, .bool false, .bool false, .bool false, .bool false, .bool false, .bool false, .bool false, .bool false, .bool false, .bool false, .bool false, .bool false, .bool false, .bool false, .bool false, .bool false, .bool false, .bool false, .bool false, .bool false, .bool false, .bool false, .bool false, .bool false, .bool false, .bool false, .bool false, .bool false, .bool false, .bool false, .bool false, .bool false, .bool false, .bool false, .bool false, .bool false, .bool false, .bool false, .bool false, .bool false, .bool false, .bool false, .bool false, .bool false, .bool false, .bool false, .bool false, .bool false, .bool false, .bool false, .bool false, .bool false, .bool false, .bool false, .bool false, .bool false, .bool false, .bool false, .bool false, .bool false, .bool false, .bool false, .bool false, .bool false, .bool false, .bool false, .bool false, .bool false, .bool false, .bool false, .bool false, .bool false, .bool false, .bool false, .bool false, .bool false, .bool false, .bool false, .bool false, .bool false, .bool false, .bool false, .bool false, .bool false, .bool false, .bool false, .bool false, .bool false, .bool false, .bool false, .bool false, .bool false]))]
def f71x4 : List AOper := [
  Mc 9 (.int .i64 0)]
def f71x5 : List AOper := [
  Mv 19 9,
  Mv 20 0,
  Ln 21 0 20,
  Bi 22 .lss 19 21]
def f71x6 : List AOper := [
  Mv 23 9,
  Bc 24 .add 23 3,
  Mv 25 0,
  Ln 26 0 25,
  Bi 27 .gtr 24 26]
def f71x7 : List AOper := [
  Op 28 (.build [.int .i64 0, .con (.slice none 0 0), .int .u32 0, .bool false, .int .i64 0, .bool false, .int .i64 0, .bool false, .bool false, .int .i64 0, .int .u32 0, .con (.slice none 0 0), .bool false, .int .u32 0, .con (.slice none 0 0), .con (.slice none 0 0)] [] []),
  St 16 4 28,
  Mc 5 (.int .i64 3)]
def f71x8 : List AOper := [
  Mv 29 0,
  Mv 30 9,
  Ia 31 1 29 30,
  Af [2] (Ld 32 31),
  Cv 33 .i64 32,
  Mv 34 0,
  Mv 35 9,
  Bc 36 .add 35 1,
  Ia 37 1 34 36,
  Af [8] (Ld 38 37),
  Cv 39 .i64 38,
  Mv 10 33,
  Mv 11 39,
  Mc 12 (.int .i64 1)]
def f71x9 : List AOper := [
  Mv 40 10,
  Bc 41 .and 40 16,
  Bc 42 .neq 41 0,
  Mv 13 42]
def f71x10 : List AOper := [
  Mv 43 13]
def f71x11 : List AOper := [
  Mc 12 (.int .i64 2)]
def f71x12 : List AOper := [
  Mv 44 9,
  Bc 45 .add 44 2,
  Mv 46 12,
  Bi 47 .add 45 46,
  Mv 48 0,
  Ln 49 0 48,
  Bi 50 .gtr 47 49]
def f71x13 : List AOper := [
  Op 51 (.build [.int .i64 0, .con (.slice none 0 0), .int .u32 0, .bool false, .int .i64 0, .bool false, .int .i64 0, .bool false, .bool false, .int .i64 0, .int .u32 0, .con (.slice none 0 0), .bool false, .int .u32 0, .con (.slice none 0 0), .con (.slice none 0 0)] [] []),
  St 16 4 51,
  Mc 5 (.int .i64 3)]
def f71x14 : List AOper := [
  Mv 52 0,
  Mv 53 9,
  Bc 54 .add 53 2,
  Mv 55 12,
  Ct 56 100 [52, 54, 55],
  Mv 14 56]
def f71x15 : List AOper := [
  Mv 57 9,
  Mv 58 12,
  Op 59 (.bin .add (.c (.int .i64 2)) (.t 58)),
  Bi 60 .add 57 59,
  Mv 9 60]
def f71x16 : List AOper := [
  Mv 61 9,
  Mv 62 14,
  Bi 63 .add 61 62,
  Mv 64 0,
  Ln 65 0 64,
  Bi 66 .gtr 63 65]
def f71x17 : List AOper := [
  Op 67 (.build [.int .i64 0, .con (.slice none 0 0), .int .u32 0, .bool false, .int .i64 0, .bool false, .int .i64 0, .bool false, .bool false, .int .i64 0, .int .u32 0, .con (.slice none 0 0), .bool false, .int .u32 0, .con (.slice none 0 0), .con (.slice none 0 0)] [] []),
  St 16 4 67,
  Mc 5 (.int .i64 3)]
def f71x18 : List AOper := [
  Mv 68 11,
  Mv 69 7,
  Bi 70 .leq 68 69]
def f71x19 : List AOper := [
  Op 71 (.build [.int .i64 0, .con (.slice none 0 0), .int .u32 0, .bool false, .int .i64 0, .bool false, .int .i64 0, .bool false, .bool false, .int .i64 0, .int .u32 0, .con (.slice none 0 0), .bool false, .int .u32 0, .con (.slice none 0 0), .con (.slice none 0 0)] [] []),
  St 16 4 71,
  Mc 5 (.int .i64 16)]
def f71x20 : List AOper := [
  Mv 72 11,
  Mv 7 72]
def f71x21 : List AOper := [
  Ls 74 16 6,
  Mv 75 11,
  Mv 76 0,
  Mv 77 9,
  Mv 78 9,
  Mv 79 14,
  Bi 80 .add 78 79,
  Op 81 (.slc 1 (.t 76) (some (.t 77)) (some (.t 80)) none),
  Mv 82 1,
  Af [0, 7] (Ct 83 101 [74, 75, 81, 82]),
  Mv 73 83,
  Ex 84 73 0,
  Ex 85 73 1,
  Op 15 (.alloc (.agg [.int .i64 0, .con (.slice none 0 0), .int .u32 0, .bool false, .int .i64 0, .bool false, .int .i64 0, .bool false, .bool false, .int .i64 0, .int .u32 0, .con (.slice none 0 0), .bool false, .int .u32 0, .con (.slice none 0 0), .con (.slice none 0 0)])),
  Af [13, 9, 0, 7] (St 16 15 84),
  Mv 16 85]
def f71x22 : List AOper := [
  Mv 86 10,
  Bc 87 .andNot 86 16,
  Mv 88 11,
  Ct 89 102 [88],
  Bi 90 .neq 87 89,
  Mv 91 90,
  Gf 91 (Mv 92 13),
  Gf 91 (Mv 93 92),
  Gt 93 (Mv 94 14),
  Gt 93 (Bc 95 .leq 94 255),
  Gf 91 (Pa 96 93 95),
  Po 97 91 96,
  Mv 98 97,
  Gf 98 (Mv 99 16),
  Gf 98 (Un 100 .not 99),
  Po 101 98 100]
def f71x23 : List AOper := [
  Op 102 (.build [.int .i64 0, .con (.slice none 0 0), .int .u32 0, .bool false, .int .i64 0, .bool false, .int .i64 0, .bool false, .bool false, .int .i64 0, .int .u32 0, .con (.slice none 0 0), .bool false, .int .u32 0, .con (.slice none 0 0), .con (.slice none 0 0)] [] []),
  St 16 4 102,
  Mc 5 (.int .i64 2)]
def f71x24 : List AOper := [
  Ls 103 16 15,
  St 16 6 103]
def f71x25 : List AOper := [
  Mv 104 11,
  Op 105 (.iarr 256 1 (.t 8) (.t 104)),
  ⟨none, .store 1 (.t 105) (.c (.bool true)), none, []⟩]
def f71x26 : List AOper := [
  Mv 106 9,
  Mv 107 14,
  Bi 108 .add 106 107,
  Mv 9 108]
def f71x27L : ACode := (.seq (.seq (.region f71x5 false) (.cond (.t 22) .skip (.exit 0))) (.block 1 (.seq (.seq (.region f71x6 false) (.cond (.t 27) (.seq (.region f71x7 false) .ret) .skip)) (.seq (.region f71x8 true) (.seq (.region f71x9 false) (.seq (.seq (.region f71x10 false) (.cond (.t 43) (.region f71x11 false) .skip)) (.seq (.seq (.region f71x12 false) (.cond (.t 50) (.seq (.region f71x13 false) .ret) .skip)) (.seq (.region f71x14 false) (.seq (.region f71x15 false) (.seq (.seq (.region f71x16 false) (.cond (.t 66) (.seq (.region f71x17 false) .ret) .skip)) (.seq (.seq (.region f71x18 false) (.cond (.t 70) (.seq (.region f71x19 false) .ret) .skip)) (.seq (.region f71x20 false) (.seq (.region f71x21 true) (.seq (.seq (.region f71x22 false) (.cond (.t 101) (.seq (.region f71x23 false) .ret) .skip)) (.seq (.region f71x24 false) (.seq (.region f71x25 false) (.region f71x26 false)))))))))))))))))
def f71x28 : List AOper := [
  Op 109 (.iarr 256 1 (.t 8) (.c (.int .i64 1))),
  Ld 110 109,
  Un 111 .not 110,
  Mv 112 111,
  Gf 112 (Op 113 (.iarr 256 1 (.t 8) (.c (.int .i64 2)))),
  Gf 112 (Ld 114 113),
  Gf 112 (Un 115 .not 114),
  Po 116 112 115,
  Mv 117 116,
  Gf 117 (Op 118 (.iarr 256 1 (.t 8) (.c (.int .i64 3)))),
  Gf 117 (Ld 119 118),
  Gf 117 (Un 120 .not 119),
  Po 121 117 120]
def f71x29 : List AOper := [
  Op 122 (.build [.int .i64 0, .con (.slice none 0 0), .int .u32 0, .bool false, .int .i64 0, .bool false, .int .i64 0, .bool false, .bool false, .int .i64 0, .int .u32 0, .con (.slice none 0 0), .bool false, .int .u32 0, .con (.slice none 0 0), .con (.slice none 0 0)] [] []),
  St 16 4 122,
  Mc 5 (.int .i64 6)]
def f71x30 : List AOper := [
  Ls 123 16 6,
  Ct 124 66 [123],
  Mv 17 124]
def f71x31 : List AOper := [
  Mv 125 17,
  Bc 126 .neq 125 0]
def f71x32 : List AOper := [
  Op 127 (.build [.int .i64 0, .con (.slice none 0 0), .int .u32 0, .bool false, .int .i64 0, .bool false, .int .i64 0, .bool false, .bool false, .int .i64 0, .int .u32 0, .con (.slice none 0 0), .bool false, .int .u32 0, .con (.slice none 0 0), .con (.slice none 0 0)] [] []),
  Mv 128 17,
  St 16 4 127,
  Mv 5 128]
def f71x33 : List AOper := [
  Ls 129 16 6,
  St 16 4 129,
  Mc 5 (.int .i64 0)]
def f71 : AFunc := ⟨130, 2, false, [.cell 4 (some 16), .t 5], (.seq (.region f71x0 false) (.seq (.region f71x1 false) (.seq (.region f71x2 false) (.seq (.region f71x3 false) (.seq (.seq (.region f71x4 false) (.block 0 (.loop f71x27L))) (.seq (.seq (.region f71x28 false) (.cond (.t 121) (.seq (.region f71x29 false) .ret) .skip)) (.seq (.seq (.region f71x30 false) (.seq (.region f71x31 false) (.cond (.t 126) (.seq (.region f71x32 false) .ret) .skip))) (.seq (.region f71x33 false) .ret))))))))⟩
def f71x27LH : List AItem := [.inLoop f71x27L, .inBlock 0, .code (.seq (.seq (.region f71x28 false) (.cond (.t 121) (.seq (.region f71x29 false) .ret) .skip)) (.seq (.seq (.region f71x30 false) (.seq (.region f71x31 false) (.cond (.t 126) (.seq (.region f71x32 false) .ret) .skip))) (.seq (.region f71x33 false) .ret)))]
def f57x0 : List AOper := [
  Mc 2 (.con (.slice none 0 0))]
def f57x1 : List AOper := [
  Mc 3 (.con (.slice none 0 0))]
def f57x2 : List AOper := [
  Mv 6 0,
  Ln 7 0 6,
  Mc 8 (.int .i64 0)]
def f57x3 : List AOper := [
  Bi 9 .lss 8 7]
def f57x4 : List AOper := [
  Ia 10 2 6 8,
  Ls 11 2 10,
  Op 5 (.alloc (.agg [.int .i64 0, .con (.slice none 0 0)])),
  St 2 5 11]
def f57x5 : List AOper := [
  Mv 12 3,
  Fa 13 1 5,
  Ld 14 13,
  Ap 15 1 8 12 14,
  Mv 3 15]
def f57x6 : List AOper := [
  Bc 16 .add 8 1,
  Mv 8 16]
def f57x7L : ACode := (.seq (.region f57x3 false) (.seq (.cond (.t 9) .skip (.exit 0)) (.seq (.block 1 (.seq (.region f57x4 false) (.region f57x5 false))) (.region f57x6 false))))
def f57x8 : List AOper := [
  Mv 17 3,
  Mv 2 17]
def f57 : AFunc := ⟨18, 1, false, [.t 2], (.seq (.region f57x0 false) (.seq (.region f57x1 false) (.seq (.seq (.region f57x2 false) (.block 0 (.loop f57x7L))) (.seq (.region f57x8 false) .ret))))⟩
def f72x0 : List AOper := [
  Op 2 (.box (.t 0)),
  Op 3 (.box (.t 1)),
  Mc 4 (.bool false)]
def f72x1 : List AOper := [
  Fa 6 0 2,
  Ld 7 6,
  Fa 8 0 3,
  Ld 9 8,
  Bi 10 .neq 7 9,
  Mv 11 10,
  Gf 11 (Fa 12 1 2),
  Gf 11 (Ld 13 12),
  Gf 11 (Fa 14 1 3),
  Gf 11 (Ld 15 14),
  Gf 11 (Ct 16 103 [13, 15]),
  Gf 11 (Un 17 .not 16),
  Po 18 11 17,
  Mv 19 18,
  Gf 19 (Fa 20 2 2),
  Gf 19 (Ld 21 20),
  Gf 19 (Fa 22 2 3),
  Gf 19 (Ld 23 22),
  Gf 19 (Bi 24 .neq 21 23),
  Po 25 19 24,
  Mv 26 25,
  Gf 26 (Fa 27 3 2),
  Gf 26 (Ld 28 27),
  Gf 26 (Fa 29 3 3),
  Gf 26 (Ld 30 29),
  Gf 26 (Op 31 (.eqb true (.t 28) (.t 30))),
  Po 32 26 31,
  Mv 33 32,
  Gf 33 (Fa 34 4 2),
  Gf 33 (Ld 35 34),
  Gf 33 (Fa 36 4 3),
  Gf 33 (Ld 37 36),
  Gf 33 (Bi 38 .neq 35 37),
  Po 39 33 38,
  Mv 40 39,
  Gf 40 (Fa 41 5 2),
  Gf 40 (Ld 42 41),
  Gf 40 (Fa 43 5 3),
  Gf 40 (Ld 44 43),
  Gf 40 (Op 45 (.eqb true (.t 42) (.t 44))),
  Po 46 40 45,
  Mv 47 46,
  Gf 47 (Fa 48 6 2),
  Gf 47 (Ld 49 48),
  Gf 47 (Fa 50 6 3),
  Gf 47 (Ld 51 50),
  Gf 47 (Bi 52 .neq 49 51),
  Po 53 47 52,
  Mv 54 53,
  Gf 54 (Fa 55 7 2),
  Gf 54 (Ld 56 55),
  Gf 54 (Fa 57 7 3),
  Gf 54 (Ld 58 57),
  Gf 54 (Op 59 (.eqb true (.t 56) (.t 58))),
  Po 60 54 59]
def f72x2 : List AOper := [
  Mc 4 (.bool false)]
def f72x3 : List AOper := [
  Fa 61 8 2,
  Ld 62 61,
  Fa 63 8 3,
  Ld 64 63,
  Op 65 (.eqb true (.t 62) (.t 64)),
  Mv 66 65,
  Gf 66 (Fa 67 9 2),
  Gf 66 (Ld 68 67),
  Gf 66 (Fa 69 9 3),
  Gf 66 (Ld 70 69),
  Gf 66 (Bi 71 .neq 68 70),
  Po 72 66 71,
  Mv 73 72,
  Gf 73 (Fa 74 10 2),
  Gf 73 (Ld 75 74),
  Gf 73 (Fa 76 10 3),
  Gf 73 (Ld 77 76),
  Gf 73 (Bi 78 .neq 75 77),
  Po 79 73 78,
  Mv 80 79,
  Gf 80 (Fa 81 11 2),
  Gf 80 (Ld 82 81),
  Gf 80 (Fa 83 11 3),
  Gf 80 (Ld 84 83),
  Gf 80 (Ct 85 104 [82, 84]),
  Gf 80 (Un 86 .not 85),
  Po 87 80 86,
  Mv 88 87,
  Gf 88 (Fa 89 12 2),
  Gf 88 (Ld 90 89),
  Gf 88 (Fa 91 12 3),
  Gf 88 (Ld 92 91),
  Gf 88 (Op 93 (.eqb true (.t 90) (.t 92))),
  Po 94 88 93,
  Mv 95 94,
  Gf 95 (Fa 96 13 2),
  Gf 95 (Ld 97 96),
  Gf 95 (Fa 98 13 3),
  Gf 95 (Ld 99 98),
  Gf 95 (Bi 100 .neq 97 99),
  Po 101 95 100,
  Mv 102 101,
  Gf 102 (Fa 103 14 2),
  Gf 102 (Ld 104 103),
  Gf 102 (Fa 105 14 3),
  Gf 102 (Ld 106 105),
  Gf 102 (Ct 107 104 [104, 106]),
  Gf 102 (Un 108 .not 107),
  Po 109 102 108,
  Mv 110 109,
  Gf 110 (Fa 111 15 2),
  Gf 110 (Ld 112 111),
  Gf 110 (Ln 113 0 112),
  Gf 110 (Fa 114 15 3),
  Gf 110 (Ld 115 114),
  Gf 110 (Ln 116 0 115),
  Gf 110 (Bi 117 .neq 113 116),
  Po 118 110 117]
def f72x4 : List AOper := [
  Mc 4 (.bool false)]
def f72x5 : List AOper := [
  Fa 119 15 2,
  Ld 120 119,
  Ln 121 0 120,
  Mc 122 (.int .i64 0)]
def f72x6 : List AOper := [
  Bi 123 .lss 122 121]
def f72x7 : List AOper := [
  Mv 124 122,
  Mv 5 124]
def f72x8 : List AOper := [
  Fa 125 15 2,
  Ld 126 125,
  Mv 127 5,
  Af [1] (Ia 128 2 126 127),
  Fa 129 0 128,
  Af [3, 1] (Ld 130 129),
  Fa 131 15 3,
  Ld 132 131,
  Mv 133 5,
  Af [7] (Ia 134 2 132 133),
  Fa 135 0 134,
  Af [9, 7] (Ld 136 135),
  Bi 137 .neq 130 136,
  Mv 138 137,
  Gf 138 (Fa 139 15 2),
  Af [5, 11, 3, 1, 9, 7] (Gf 138 (Ld 140 139)),
  Gf 138 (Mv 141 5),
  Af [15, 5, 11, 3, 1, 9, 7] (Gf 138 (Ia 142 2 140 141)),
  Gf 138 (Fa 143 1 142),
  Af [17, 15, 5, 11, 3, 1, 9, 7] (Gf 138 (Ld 144 143)),
  Af [19, 17, 15, 5, 11, 3, 1, 9, 7] (Gf 138 (Op 145 (.b2s (.t 144)))),
  Gf 138 (Fa 146 15 3),
  Af [5, 11, 3, 1, 9, 7] (Gf 138 (Ld 147 146)),
  Gf 138 (Mv 148 5),
  Af [22, 5, 11, 3, 1, 9, 7] (Gf 138 (Ia 149 2 147 148)),
  Gf 138 (Fa 150 1 149),
  Af [24, 22, 5, 11, 3, 1, 9, 7] (Gf 138 (Ld 151 150)),
  Af [26, 24, 22, 5, 11, 3, 1, 9, 7] (Gf 138 (Op 152 (.b2s (.t 151)))),
  Gf 138 (Bi 153 .neq 145 152),
  Po 154 138 153]
def f72x9 : List AOper := [
  Mc 4 (.bool false)]
def f72x10 : List AOper := [
  Bc 155 .add 122 1,
  Mv 122 155]
def f72x11L : ACode := (.seq (.region f72x6 false) (.seq (.cond (.t 123) .skip (.exit 0)) (.seq (.block 1 (.seq (.region f72x7 false) (.seq (.region f72x8 true) (.cond (.t 154) (.seq (.region f72x9 false) .ret) .skip)))) (.region f72x10 false))))
def f72x12 : List AOper := [
  Mc 4 (.bool true)]
def f72 : AFunc := ⟨156, 2, false, [.t 4], (.seq (.region f72x0 false) (.seq (.seq (.region f72x1 false) (.cond (.t 60) (.seq (.region f72x2 false) .ret) .skip)) (.seq (.seq (.region f72x3 false) (.cond (.t 118) (.seq (.region f72x4 false) .ret) .skip)) (.seq (.seq (.region f72x5 false) (.block 0 (.loop f72x11L))) (.seq (.region f72x12 false) .ret)))))⟩
def f26x0 : List AOper := [
  Op 1 (.box (.t 0)),
  Mc 2 (.int .i64 0)]
def f26x1 : List AOper := [
  Fa 6 1 1,
  Ld 7 6,
  Af [1] (Ct 8 54 [7]),
  Fa 9 11 1,
  Ld 10 9,
  Af [4] (Ln 11 0 10),
  Bi 12 .add 8 11,
  Fa 13 14 1,
  Ld 14 13,
  Af [8] (Ln 15 0 14),
  Bi 16 .add 12 15,
  Fa 17 15 1,
  Ld 18 17,
  Af [12] (Ln 19 0 18),
  Bi 20 .add 16 19,
  Mv 3 20]
def f26x2 : List AOper := [
  Fa 21 15 1,
  Ld 22 21,
  Ln 23 0 22,
  Mc 24 (.int .i64 0)]
def f26x3 : List AOper := [
  Bi 25 .lss 24 23]
def f26x4 : List AOper := [
  Ia 26 2 22 24,
  Ls 27 2 26,
  Op 5 (.alloc (.agg [.int .i64 0, .con (.slice none 0 0)])),
  St 2 5 27]
def f26x5 : List AOper := [
  Mv 28 3,
  Fa 29 1 5,
  Ld 30 29,
  Ln 31 0 30,
  Bc 32 .quo 31 8,
  Bi 33 .add 28 32,
  Mv 3 33]
def f26x6 : List AOper := [
  Bc 34 .add 24 1,
  Mv 24 34]
def f26x7L : ACode := (.seq (.region f26x3 false) (.seq (.cond (.t 25) .skip (.exit 0)) (.seq (.block 1 (.seq (.region f26x4 false) (.region f26x5 false))) (.region f26x6 false))))
def f26x8 : List AOper := [
  Mv 35 3,
  Mv 2 35]
def f26 : AFunc := ⟨36, 1, false, [.t 2], (.seq (.region f26x0 false) (.seq (.region f26x1 true) (.seq (.seq (.region f26x2 false) (.block 0 (.loop f26x7L))) (.seq (.region f26x8 false) .ret))))⟩
def f73x0 : List AOper := [
  Mc 2 (.int .i64 0)]
def f73x1 : List AOper := [
  Mv 5 0,
  Ln 6 0 5,
  Mc 7 (.int .i64 0)]
def f73x2 : List AOper := [
  Bi 8 .lss 7 6]
def f73x3 : List AOper := [
  Ia 9 1 5 7,
  Ld 10 9,
  Mv 4 10]
def f73x4 : List AOper := [
  Mv 11 4,
  Bc 12 .neq 11 0]
def f73x5 : List AOper := [
  Mv 13 4,
  Mv 2 13]
def f73x6 : List AOper := [
  Bc 14 .add 7 1,
  Mv 7 14]
def f73x7L : ACode := (.seq (.region f73x2 false) (.seq (.cond (.t 8) .skip (.exit 0)) (.seq (.block 1 (.seq (.region f73x3 false) (.seq (.region f73x4 false) (.cond (.t 12) (.seq (.region f73x5 false) .ret) .skip)))) (.region f73x6 false))))
def f73x8 : List AOper := [
  Mc 2 (.int .i64 0)]
def f73 : AFunc := ⟨15, 1, false, [.t 2], (.seq (.region f73x0 false) (.seq (.seq (.region f73x1 false) (.block 0 (.loop f73x7L))) (.seq (.region f73x8 false) .ret)))⟩
def f73x7LH : List AItem := [.inLoop f73x7L, .inBlock 0, .code (.seq (.region f73x8 false) .ret)]
def f74x0 : List AOper := [
  Mc 4 (.int .i64 0)]
def f74x1 : List AOper := [
  Mv 5 0]
def f74x2 : List AOper := [
  Mv 6 1,
  Mv 4 6]
def f74x3 : List AOper := [
  Mc 4 (.int .i64 0)]
def f74 : AFunc := ⟨7, 2, false, [.t 4], (.seq (.region f74x0 false) (.seq (.seq (.region f74x1 false) (.cond (.t 5) (.seq (.region f74x2 false) .ret) .skip)) (.seq (.region f74x3 false) .ret)))⟩
def f75x0 : List AOper := [
  Mc 2 (.int .i64 0)]
def f75x1 : List AOper := [
  Mv 7 0,
  Ln 8 0 7,
  Bc 9 .gtr 8 64]
def f75x2 : List AOper := [
  Mc 2 (.int .i64 4)]
def f75x3 : List AOper := [
  Mc 3 (.bool false)]
def f75x4 : List AOper := [
  Mv 10 0,
  Ln 11 0 10,
  Mc 12 (.int .i64 0)]
def f75x5 : List AOper := [
  Bi 13 .lss 12 11]
def f75x6 : List AOper := [
  Mv 14 12,
  Ia 15 2 10 12,
  Ls 16 2 15,
  Op 5 (.alloc (.agg [.int .i64 0, .con (.slice none 0 0)])),
  Mv 4 14,
  St 2 5 16]
def f75x7 : List AOper := [
  Ls 17 2 5,
  Ct 18 105 [17],
  Mv 6 18]
def f75x8 : List AOper := [
  Mv 19 6,
  Bc 20 .neq 19 0]
def f75x9 : List AOper := [
  Mv 21 6,
  Mv 2 21]
def f75x10 : List AOper := [
  Fa 22 0 5,
  Ld 23 22,
  Ct 24 106 [23],
  Mv 25 24,
  Gt 25 (Mv 26 3),
  Pa 27 25 26]
def f75x11 : List AOper := [
  Mc 2 (.int .i64 1)]
def f75x12 : List AOper := [
  Mv 28 4,
  Bc 29 .gtr 28 0,
  Mv 30 29,
  Gt 30 (Fa 31 0 5),
  Gt 30 (Ld 32 31),
  Gt 30 (Op 33 (.bsl 1 [.int .i64 0] 2 [0, 1] [(.c (.int .i64 2)), (.c (.int .i64 3))])),
  Af [4, 5] (Gt 30 (Ct 34 107 [32, 33])),
  Pa 35 30 34,
  Mv 36 35,
  Gt 36 (Mv 37 0),
  Gt 36 (Mv 38 4),
  Gt 36 (Bc 39 .sub 38 1),
  Af [6, 4, 5] (Gt 36 (Ia 40 2 37 39)),
  Gt 36 (Fa 41 0 40),
  Af [12, 6, 4, 5] (Gt 36 (Ld 42 41)),
  Gt 36 (Fa 43 0 5),
  Af [6, 4, 5] (Gt 36 (Ld 44 43)),
  Gt 36 (Bi 45 .eql 42 44),
  Pa 46 36 45,
  Mv 47 46,
  Gt 47 (Mv 48 0),
  Gt 47 (Mv 49 4),
  Gt 47 (Bc 50 .sub 49 1),
  Af [14, 16, 12, 6, 4, 5] (Gt 47 (Ia 51 2 48 50)),
  Gt 47 (Fa 52 1 51),
  Af [23, 14, 16, 12, 6, 4, 5] (Gt 47 (Ld 53 52)),
  Af [25, 23, 14, 16, 12, 6, 4, 5] (Gt 47 (Ln 54 0 53)),
  Gt 47 (Bc 55 .lss 54 255),
  Pa 56 47 55]
def f75x13 : List AOper := [
  Mc 2 (.int .i64 1)]
def f75x14 : List AOper := [
  Mv 57 3,
  Mv 58 57,
  Gf 58 (Fa 59 0 5),
  Gf 58 (Ld 60 59),
  Gf 58 (Ct 61 106 [60]),
  Gf 58 (Un 62 .not 61),
  Po 63 58 62,
  Mv 3 63]
def f75x15 : List AOper := [
  Bc 64 .add 12 1,
  Mv 12 64]
def f75x16L : ACode := (.seq (.region f75x5 false) (.seq (.cond (.t 13) .skip (.exit 0)) (.seq (.block 1 (.seq (.region f75x6 false) (.seq (.seq (.region f75x7 false) (.seq (.region f75x8 false) (.cond (.t 20) (.seq (.region f75x9 false) .ret) .skip))) (.seq (.seq (.region f75x10 false) (.cond (.t 27) (.seq (.region f75x11 false) .ret) .skip)) (.seq (.seq (.region f75x12 true) (.cond (.t 56) (.seq (.region f75x13 false) .ret) .skip)) (.region f75x14 false)))))) (.region f75x15 false))))
def f75x17 : List AOper := [
  Mc 2 (.int .i64 0)]
def f75 : AFunc := ⟨65, 1, false, [.t 2], (.seq (.region f75x0 false) (.seq (.seq (.region f75x1 false) (.cond (.t 9) (.seq (.region f75x2 false) .ret) .skip)) (.seq (.region f75x3 false) (.seq (.seq (.region f75x4 false) (.block 0 (.loop f75x16L))) (.seq (.region f75x17 false) .ret)))))⟩
def f75x16LH : List AItem := [.inLoop f75x16L, .inBlock 0, .code (.seq (.region f75x17 false) .ret)]
def f76x0 : List AOper := [
  Mc 6 (.int .i64 0)]
def f76x1 : List AOper := [
  Mv 8 0,
  Mv 9 8,
  Gt 9 (Mv 10 1),
  Gt 9 (Mv 11 2),
  Gt 9 (Bi 12 .lss 10 11),
  Gt 9 (Mv 13 12),
  Gf 13 (Mv 14 1),
  Gf 13 (Bc 15 .gtr 14 4294967295),
  Gt 9 (Po 16 13 15),
  Pa 17 9 16,
  Mv 7 17]
def f76x2 : List AOper := [
  Mc 6 (.int .i64 5)]
def f76x3 : List AOper := [
  Mv 19 0,
  Un 20 .not 19,
  Mv 21 20,
  Gt 21 (Mv 22 1),
  Gt 21 (Bc 23 .neq 22 0),
  Pa 24 21 23,
  Mv 18 24]
def f76x4 : List AOper := [
  Mc 6 (.int .i64 1)]
def f76x5 : List AOper := [
  Mc 6 (.int .i64 0)]
def f76 : AFunc := ⟨25, 3, false, [.t 6], (.seq (.region f76x0 false) (.seq (.block 0 (.seq (.region f76x1 false) (.cond (.t 7) (.seq (.region f76x2 false) .ret) (.seq (.region f76x3 false) (.cond (.t 18) (.seq (.region f76x4 false) .ret) .skip))))) (.seq (.region f76x5 false) .ret)))⟩
def f77x0 : List AOper := [
  Mc 2 (.int .i64 0)]
def f77x1 : List AOper := [
  Mv 4 0,
  Ln 5 0 4,
  Bc 6 .gtr 5 255]
def f77x2 : List AOper := [
  Mc 2 (.int .i64 4)]
def f77x3 : List AOper := [
  Mv 7 0,
  Ln 8 0 7,
  Mc 9 (.int .i64 0)]
def f77x4 : List AOper := [
  Bi 10 .lss 9 8]
def f77x5 : List AOper := [
  Mv 11 9,
  Mv 3 11]
def f77x6 : List AOper := [
  Mv 12 3,
  Bc 13 .gtr 12 0,
  Mv 14 13,
  Gt 14 (Mv 15 0),
  Gt 14 (Mv 16 3),
  Gt 14 (Ia 17 1 15 16),
  Af [5] (Gt 14 (Ld 18 17)),
  Gt 14 (Mv 19 0),
  Gt 14 (Mv 20 3),
  Gt 14 (Bc 21 .sub 20 1),
  Gt 14 (Ia 22 1 19 21),
  Af [10] (Gt 14 (Ld 23 22)),
  Gt 14 (Bi 24 .leq 18 23),
  Pa 25 14 24]
def f77x7 : List AOper := [
  Mc 2 (.int .i64 16)]
def f77x8 : List AOper := [
  Bc 26 .add 9 1,
  Mv 9 26]
def f77x9L : ACode := (.seq (.region f77x4 false) (.seq (.cond (.t 10) .skip (.exit 0)) (.seq (.block 1 (.seq (.region f77x5 false) (.seq (.region f77x6 true) (.cond (.t 25) (.seq (.region f77x7 false) .ret) .skip)))) (.region f77x8 false))))
def f77x10 : List AOper := [
  Mc 2 (.int .i64 0)]
def f77 : AFunc := ⟨27, 1, false, [.t 2], (.seq (.region f77x0 false) (.seq (.seq (.region f77x1 false) (.cond (.t 6) (.seq (.region f77x2 false) .ret) .skip)) (.seq (.seq (.region f77x3 false) (.block 0 (.loop f77x9L))) (.seq (.region f77x10 false) .ret))))⟩
def f77x9LH : List AItem := [.inLoop f77x9L, .inBlock 0, .code (.seq (.region f77x10 false) .ret)]
def f78x0 : List AOper := [
  Mc 2 (.int .i64 0)]
def f78x1 : List AOper := [
  Mv 5 0,
  Ln 6 0 5,
  Bc 7 .gtr 6 64]
def f78x2 : List AOper := [
  Mc 2 (.int .i64 4)]
def f78x3 : List AOper := [
  Mv 8 0,
  Ln 9 0 8,
  Mc 10 (.int .i64 0)]
def f78x4 : List AOper := [
  Bi 11 .lss 10 9]
def f78x5 : List AOper := [
  Ia 12 1 8 10,
  Ld 13 12,
  Mv 4 13]
def f78x6 : List AOper := [
  Mv 14 4,
  Op 15 (.bin .eql (.t 14) (.c (.int .u32 0)))]
def f78x7 : List AOper := [
  Mc 2 (.int .i64 1)]
def f78x8 : List AOper := [
  Bc 16 .add 10 1,
  Mv 10 16]
def f78x9L : ACode := (.seq (.region f78x4 false) (.seq (.cond (.t 11) .skip (.exit 0)) (.seq (.block 1 (.seq (.region f78x5 false) (.seq (.region f78x6 false) (.cond (.t 15) (.seq (.region f78x7 false) .ret) .skip)))) (.region f78x8 false))))
def f78x10 : List AOper := [
  Mc 2 (.int .i64 0)]
def f78 : AFunc := ⟨17, 1, false, [.t 2], (.seq (.region f78x0 false) (.seq (.seq (.region f78x1 false) (.cond (.t 7) (.seq (.region f78x2 false) .ret) .skip)) (.seq (.seq (.region f78x3 false) (.block 0 (.loop f78x9L))) (.seq (.region f78x10 false) .ret))))⟩
def f78x9LH : List AItem := [.inLoop f78x9L, .inBlock 0, .code (.seq (.region f78x10 false) .ret)]
def f79x0 : List AOper := [
  Mc 2 (.int .i64 0)]
def f79x1 : List AOper := [
  Mv 5 0,
  Ln 6 0 5,
  Bc 7 .gtr 6 64]
def f79x2 : List AOper := [
  Mc 2 (.int .i64 4)]
def f79x3 : List AOper := [
  Mv 8 0,
  Ln 9 0 8,
  Mc 10 (.int .i64 0)]
def f79x4 : List AOper := [
  Bi 11 .lss 10 9]
def f79x5 : List AOper := [
  Mv 12 10,
  Ia 13 2 8 10,
  Ls 14 2 13,
  Op 4 (.alloc (.agg [.int .i64 0, .con (.slice none 0 0)])),
  Mv 3 12,
  St 2 4 14]
def f79x6 : List AOper := [
  Fa 16 0 4,
  Ld 17 16,
  Bc 18 .leq 17 10,
  Mv 19 18,
  Gf 19 (Fa 20 0 4),
  Gf 19 (Ld 21 20),
  Gf 19 (Bc 22 .gtr 21 255),
  Po 23 19 22,
  Mv 15 23]
def f79x7 : List AOper := [
  Mc 2 (.int .i64 15)]
def f79x8 : List AOper := [
  Mv 25 3,
  Bc 26 .gtr 25 0,
  Mv 27 26,
  Gt 27 (Fa 28 0 4),
  Gt 27 (Ld 29 28),
  Gt 27 (Mv 30 0),
  Gt 27 (Mv 31 3),
  Gt 27 (Bc 32 .sub 31 1),
  Gt 27 (Ia 33 2 30 32),
  Gt 27 (Fa 34 0 33),
  Af [8] (Gt 27 (Ld 35 34)),
  Gt 27 (Bi 36 .leq 29 35),
  Pa 37 27 36,
  Mv 24 37]
def f79x9 : List AOper := [
  Mc 2 (.int .i64 16)]
def f79x10 : List AOper := [
  Fa 39 1 4,
  Ld 40 39,
  Ln 41 0 40,
  Bc 42 .gtr 41 255,
  Mv 38 42]
def f79x11 : List AOper := [
  Mc 2 (.int .i64 4)]
def f79x12 : List AOper := [
  Bc 43 .add 10 1,
  Mv 10 43]
def f79x13L : ACode := (.seq (.region f79x4 false) (.seq (.cond (.t 11) .skip (.exit 0)) (.seq (.block 1 (.seq (.region f79x5 false) (.block 2 (.seq (.region f79x6 false) (.cond (.t 15) (.seq (.region f79x7 false) .ret) (.seq (.region f79x8 true) (.cond (.t 24) (.seq (.region f79x9 false) .ret) (.seq (.region f79x10 false) (.cond (.t 38) (.seq (.region f79x11 false) .ret) .skip))))))))) (.region f79x12 false))))
def f79x14 : List AOper := [
  Mc 2 (.int .i64 0)]
def f79 : AFunc := ⟨44, 1, false, [.t 2], (.seq (.region f79x0 false) (.seq (.seq (.region f79x1 false) (.cond (.t 7) (.seq (.region f79x2 false) .ret) .skip)) (.seq (.seq (.region f79x3 false) (.block 0 (.loop f79x13L))) (.seq (.region f79x14 false) .ret))))⟩
def f79x13LH : List AItem := [.inLoop f79x13L, .inBlock 0, .code (.seq (.region f79x14 false) .ret)]
def f80x0 : List AOper := [
  Mc 2 (.int .i64 0)]
def f80x1 : List AOper := [
  Mv 5 0,
  Ln 6 0 5,
  Bc 7 .gtr 6 64]
def f80x2 : List AOper := [
  Mc 2 (.int .i64 4)]
def f80x3 : List AOper := [
  Mv 8 0,
  Ln 9 0 8,
  Mc 10 (.int .i64 0)]
def f80x4 : List AOper := [
  Bi 11 .lss 10 9]
def f80x5 : List AOper := [
  Mv 12 10,
  Mv 3 12]
def f80x6 : List AOper := [
  Mv 13 0,
  Mv 14 3,
  Ct 15 108 [13, 14],
  Mv 4 15]
def f80x7 : List AOper := [
  Mv 16 4,
  Bc 17 .neq 16 0]
def f80x8 : List AOper := [
  Mv 18 4,
  Mv 2 18]
def f80x9 : List AOper := [
  Bc 19 .add 10 1,
  Mv 10 19]
def f80x10L : ACode := (.seq (.region f80x4 false) (.seq (.cond (.t 11) .skip (.exit 0)) (.seq (.block 1 (.seq (.region f80x5 false) (.seq (.region f80x6 false) (.seq (.region f80x7 false) (.cond (.t 17) (.seq (.region f80x8 false) .ret) .skip))))) (.region f80x9 false))))
def f80x11 : List AOper := [
  Mc 2 (.int .i64 0)]
def f80 : AFunc := ⟨20, 1, false, [.t 2], (.seq (.region f80x0 false) (.seq (.seq (.region f80x1 false) (.cond (.t 7) (.seq (.region f80x2 false) .ret) .skip)) (.seq (.seq (.region f80x3 false) (.block 0 (.loop f80x10L))) (.seq (.region f80x11 false) .ret))))⟩
def f80x10LH : List AItem := [.inLoop f80x10L, .inBlock 0, .code (.seq (.region f80x11 false) .ret)]
def f81x0 : List AOper := [
  Mc 2 (.bool false)]
def f81x1 : List AOper := [
  Mv 3 0,
  Bc 4 .geq 3 0,
  Mv 5 4,
  Gt 5 (Mv 6 0),
  Gt 5 (Bc 7 .leq 6 4294967295),
  Pa 8 5 7,
  Mv 2 8]
def f81 : AFunc := ⟨9, 1, false, [.t 2], (.seq (.region f81x0 false) (.seq (.region f81x1 false) .ret))⟩
def f82x0 : List AOper := [
  Mc 2 (.int .i64 0)]
def f82x1 : List AOper := [
  Mv 4 0,
  Ln 5 0 4,
  Bc 6 .gtr 5 255]
def f82x2 : List AOper := [
  Mc 2 (.int .i64 4)]
def f82x3 : List AOper := [
  Mc 3 (.int .i64 1)]
def f82x4 : List AOper := [
  Mv 7 3,
  Mv 8 0,
  Ln 9 0 8,
  Bi 10 .lss 7 9]
def f82x5 : List AOper := [
  Mv 13 0,
  Mv 14 3,
  Ia 15 1 13 14,
  Af [2] (Ld 16 15),
  Mv 17 0,
  Mv 18 3,
  Bc 19 .sub 18 1,
  Ia 20 1 17 19,
  Af [7] (Ld 21 20),
  Bi 22 .leq 16 21]
def f82x6 : List AOper := [
  Mc 2 (.int .i64 16)]
def f82x7 : List AOper := [
  Mv 11 3,
  Bc 12 .add 11 1,
  Mv 3 12]
def f82x8L : ACode := (.seq (.seq (.region f82x4 false) (.cond (.t 10) .skip (.exit 0))) (.seq (.block 1 (.seq (.region f82x5 true) (.cond (.t 22) (.seq (.region f82x6 false) .ret) .skip))) (.region f82x7 false)))
def f82x9 : List AOper := [
  Mc 2 (.int .i64 0)]
def f82 : AFunc := ⟨23, 1, false, [.t 2], (.seq (.region f82x0 false) (.seq (.seq (.region f82x1 false) (.cond (.t 6) (.seq (.region f82x2 false) .ret) .skip)) (.seq (.seq (.region f82x3 false) (.block 0 (.loop f82x8L))) (.seq (.region f82x9 false) .ret))))⟩
def f82x8LH : List AItem := [.inLoop f82x8L, .inBlock 0, .code (.seq (.region f82x9 false) .ret)]
def f83x0 : List AOper := [
  Mc 6 (.con (.slice none 0 0))]
def f83x1 : List AOper := [
  Mv 9 2,
  Ln 10 0 9,
  Mc 11 (.int .i64 0)]
def f83x2 : List AOper := [
  Bi 12 .lss 11 10]
def f83x3 : List AOper := [
  Ia 13 1 9 11,
  Ld 14 13,
  Mv 8 14]
def f83x4 : List AOper := [
  Mv 15 6,
  Mv 16 8,
  Ap 17 1 1 15 16,
  Mv 6 17]
def f83x5 : List AOper := [
  Bc 18 .add 11 1,
  Mv 11 18]
def f83x6L : ACode := (.seq (.region f83x2 false) (.seq (.cond (.t 12) .skip (.exit 0)) (.seq (.block 1 (.seq (.region f83x3 false) (.region f83x4 false))) (.region f83x5 false))))
def f83x7 : List AOper := [
  Mv 19 6,
  Ln 20 0 19,
  Bc 21 .gtr 20 255]
def f83x8 : List AOper := [
  Mv 22 0,
  Mv 23 0,
  Nc 24 23,
  Fa 25 0 24,
  Ld 26 25,
  Mv 27 1,
  Ct 28 94 [27],
  Op 29 (.bin .or (.t 28) (.c (.int .u8 16))),
  Mv 30 1,
  Cv 31 .u8 30,
  Af [6] (Op 32 (.bsl 1 [.int .u8 0] 2 [0, 1] [(.t 29), (.t 31)])),
  Af [4, 10, 6] (Ap 33 1 1 26 32),
  Nc 34 22,
  Fa 35 0 34,
  Af [11, 4, 10, 6] (St 1 35 33)]
def f83x9 : List AOper := [
  Mv 36 0,
  Mv 37 0,
  Nc 38 37,
  Fa 39 0 38,
  Ld 40 39,
  Mv 41 6,
  Ln 42 0 41,
  Cv 43 .u64 42,
  Ca 44 109 [(.t 40), (.c (.int .i64 2)), (.t 43)],
  Nc 45 36,
  Fa 46 0 45,
  St 1 46 44]
def f83x10 : List AOper := [
  Mv 47 0,
  Mv 48 0,
  Nc 49 48,
  Fa 50 0 49,
  Ld 51 50,
  Mv 52 1,
  Ct 53 94 [52],
  Mv 54 1,
  Cv 55 .u8 54,
  Mv 56 6,
  Ln 57 0 56,
  Cv 58 .u8 57,
  Af [6, 10] (Op 59 (.bsl 1 [.int .u8 0] 3 [0, 1, 2] [(.t 53), (.t 55), (.t 58)])),
  Af [4, 12, 6, 10] (Ap 60 1 1 51 59),
  Nc 61 47,
  Fa 62 0 61,
  Af [13, 4, 12, 6, 10] (St 1 62 60)]
def f83x11 : List AOper := [
  Mv 63 0,
  Mv 64 0,
  Nc 65 64,
  Fa 66 0 65,
  Ld 67 66,
  Mv 68 6,
  Ap 69 1 1 67 68,
  Nc 70 63,
  Fa 71 0 70,
  St 1 71 69]
def f83 : AFunc := ⟨72, 3, false, [], (.seq (.region f83x0 false) (.seq (.seq (.region f83x1 false) (.block 0 (.loop f83x6L))) (.seq (.seq (.region f83x7 false) (.cond (.t 21) (.seq (.region f83x8 true) (.region f83x9 false)) (.region f83x10 true))) (.region f83x11 false))))⟩
def f83x6LH : List AItem := [.inLoop f83x6L, .inBlock 0, .code (.seq (.seq (.region f83x7 false) (.cond (.t 21) (.seq (.region f83x8 true) (.region f83x9 false)) (.region f83x10 true))) (.region f83x11 false))]
def f84x0 : List AOper := [
  Mc 4 (.con (.slice none 0 0))]
def f84x1 : List AOper := [
  Mc 5 (.con (.slice none 0 0))]
def f84x2 : List AOper := [
  Mv 10 1,
  Ln 11 0 10,
  Mc 12 (.int .i64 0)]
def f84x3 : List AOper := [
  Bi 13 .lss 12 11]
def f84x4 : List AOper := [
  Ia 14 2 10 12,
  Ls 15 2 14,
  Op 7 (.alloc (.agg [.int .i64 0, .con (.slice none 0 0)])),
  St 2 7 15]
def f84x5 : List AOper := [
  Mv 16 5,
  Fa 17 0 7,
  Ld 18 17,
  Cv 19 .u8 18,
  Fa 20 1 7,
  Ld 21 20,
  Ln 22 0 21,
  Cv 23 .u8 22,
  Op 24 (.bsl 1 [.int .u8 0] 2 [0, 1] [(.t 19), (.t 23)]),
  Ap 25 1 1 16 24,
  Mv 5 25]
def f84x6 : List AOper := [
  Fa 26 1 7,
  Ld 27 26,
  Ln 28 0 27,
  Mc 29 (.int .i64 0)]
def f84x7 : List AOper := [
  Bi 30 .lss 29 28]
def f84x8 : List AOper := [
  Ia 31 1 27 29,
  Ld 32 31,
  Mv 9 32]
def f84x9 : List AOper := [
  Mv 33 5,
  Mv 34 0,
  Mv 35 9,
  Ct 36 86 [34, 35],
  Ap 37 1 1 33 36,
  Mv 5 37]
def f84x10 : List AOper := [
  Bc 38 .add 29 1,
  Mv 29 38]
def f84x11L : ACode := (.seq (.region f84x7 false) (.seq (.cond (.t 30) .skip (.exit 2)) (.seq (.block 3 (.seq (.region f84x8 false) (.region f84x9 false))) (.region f84x10 false))))
def f84x12 : List AOper := [
  Bc 39 .add 12 1,
  Mv 12 39]
def f84x13L : ACode := (.seq (.region f84x3 false) (.seq (.cond (.t 13) .skip (.exit 0)) (.seq (.block 1 (.seq (.region f84x4 false) (.seq (.region f84x5 false) (.seq (.region f84x6 false) (.block 2 (.loop f84x11L)))))) (.region f84x12 false))))
def f84x14 : List AOper := [
  Mv 40 5,
  Mv 4 40]
def f84 : AFunc := ⟨41, 2, false, [.t 4], (.seq (.region f84x0 false) (.seq (.region f84x1 false) (.seq (.seq (.region f84x2 false) (.block 0 (.loop f84x13L))) (.seq (.region f84x14 false) .ret))))⟩
def f84x13LH : List AItem := [.inLoop f84x13L, .inBlock 0, .code (.seq (.region f84x14 false) .ret)]
def f84x11LH : List AItem := [.inLoop f84x11L, .inBlock 2, .inBlock 1, .code (.region f84x12 false), .inLoop f84x13L, .inBlock 0, .code (.seq (.region f84x14 false) .ret)]
def f85x0 : List AOper := [
  Mc 2 (.con (.slice none 0 0))]
def f85x1 : List AOper := [
  Mv 3 0,
  Cv 4 .u64 3,
  Ca 5 109 [(.c (.con (.slice none 0 0))), (.c (.int .i64 4)), (.t 4)],
  Mv 2 5]
def f85 : AFunc := ⟨6, 1, false, [.t 2], (.seq (.region f85x0 false) (.seq (.region f85x1 false) .ret))⟩
def f86x0 : List AOper := [
  Mc 4 (.con (.slice none 0 0))]
def f86x1 : List AOper := [
  Mv 5 0,
  Mv 6 0,
  Nc 7 6,
  Fa 8 2 7,
  Ld 9 8,
  Mv 10 9,
  Gf 10 (Mv 11 0),
  Gf 10 (Nc 12 11),
  Gf 10 (Fa 13 1 12),
  Gf 10 (Ld 14 13),
  Gf 10 (Un 15 .not 14),
  Gf 10 (Mv 16 15),
  Gt 16 (Mv 17 1),
  Gt 16 (Bc 18 .gtr 17 65535),
  Gf 10 (Pa 19 16 18),
  Po 20 10 19,
  Nc 21 5,
  Fa 22 2 21,
  St 1 22 20]
def f86x2 : List AOper := [
  Mv 23 0,
  Nc 24 23,
  Fa 25 1 24,
  Ld 26 25,
  Ct 27 96 [26],
  Mv 28 1,
  Cv 29 .u64 28,
  Ca 30 109 [(.c (.con (.slice none 0 0))), (.t 27), (.t 29)],
  Mv 4 30]
def f86 : AFunc := ⟨31, 2, false, [.t 4], (.seq (.region f86x0 false) (.seq (.region f86x1 false) (.seq (.region f86x2 false) .ret)))⟩
def f87x0 : List AOper := [
  Mc 2 (.con (.slice none 0 0))]
def f87x1 : List AOper := [
  Mc 3 (.con (.slice none 0 0))]
def f87x2 : List AOper := [
  Mv 6 0,
  Ln 7 0 6,
  Mc 8 (.int .i64 0)]
def f87x3 : List AOper := [
  Bi 9 .lss 8 7]
def f87x4 : List AOper := [
  Ia 10 1 6 8,
  Ld 11 10,
  Mv 5 11]
def f87x5 : List AOper := [
  Mv 12 3,
  Mv 13 5,
  Cv 14 .i64 13,
  Ct 15 85 [14],
  Ap 16 1 1 12 15,
  Mv 3 16]
def f87x6 : List AOper := [
  Bc 17 .add 8 1,
  Mv 8 17]
def f87x7L : ACode := (.seq (.region f87x3 false) (.seq (.cond (.t 9) .skip (.exit 0)) (.seq (.block 1 (.seq (.region f87x4 false) (.region f87x5 false))) (.region f87x6 false))))
def f87x8 : List AOper := [
  Mv 18 3,
  Mv 2 18]
def f87 : AFunc := ⟨19, 1, false, [.t 2], (.seq (.region f87x0 false) (.seq (.region f87x1 false) (.seq (.seq (.region f87x2 false) (.block 0 (.loop f87x7L))) (.seq (.region f87x8 false) .ret))))⟩
def f87x7LH : List AItem := [.inLoop f87x7L, .inBlock 0, .code (.seq (.region f87x8 false) .ret)]
def f88x0 : List AOper := [
  Mc 6 (.con (.slice none 0 0))]
def f88x1 : List AOper := [
  Mv 9 1,
  Ct 10 102 [9],
  Mv 7 10]
def f88x2 : List AOper := [
  Mc 8 (.int .i64 1)]
def f88x3 : List AOper := [
  Mv 11 2,
  Ln 12 0 11,
  Bc 13 .gtr 12 255]
def f88x4 : List AOper := [
  Mv 14 7,
  Bc 15 .add 14 16,
  Mv 7 15]
def f88x5 : List AOper := [
  Mc 8 (.int .i64 2)]
def f88x6 : List AOper := [
  Mv 16 0,
  Mv 17 7,
  Cv 18 .u8 17,
  Mv 19 1,
  Cv 20 .u8 19,
  Op 21 (.bsl 1 [.int .u8 0] 2 [0, 1] [(.t 18), (.t 20)]),
  Ap 22 1 1 16 21,
  Mv 0 22]
def f88x7 : List AOper := [
  Mv 23 0,
  Mv 24 8,
  Mv 25 2,
  Ln 26 0 25,
  Cv 27 .u64 26,
  Ct 28 91 [23, 24, 27],
  Mv 0 28]
def f88x8 : List AOper := [
  Mv 29 0,
  Mv 30 2,
  Ap 31 1 1 29 30,
  Mv 0 31]
def f88x9 : List AOper := [
  Mv 32 0,
  Mv 6 32]
def f88 : AFunc := ⟨33, 3, true, [.t 6], (.seq (.region f88x0 false) (.seq (.region f88x1 false) (.seq (.region f88x2 false) (.seq (.seq (.region f88x3 false) (.cond (.t 13) (.seq (.region f88x4 false) (.region f88x5 false)) .skip)) (.seq (.region f88x6 false) (.seq (.region f88x7 false) (.seq (.region f88x8 false) (.seq (.region f88x9 false) .ret))))))))⟩
def f89x0 : List AOper := [
  Mc 4 (.con (.slice none 0 0))]
def f89x1 : List AOper := [
  Mc 5 (.con (.slice none 0 0))]
def f89x2 : List AOper := [
  Mv 10 0,
  Ln 11 0 10,
  Mc 12 (.int .i64 0)]
def f89x3 : List AOper := [
  Bi 13 .lss 12 11]
def f89x4 : List AOper := [
  Ia 14 2 10 12,
  Ls 15 2 14,
  Op 7 (.alloc (.agg [.int .i64 0, .con (.slice none 0 0)])),
  St 2 7 15]
def f89x5 : List AOper := [
  Mv 16 5,
  Fa 17 0 7,
  Ld 18 17,
  Cv 19 .u8 18,
  Fa 20 1 7,
  Ld 21 20,
  Ln 22 0 21,
  Cv 23 .u8 22,
  Op 24 (.bsl 1 [.int .u8 0] 2 [0, 1] [(.t 19), (.t 23)]),
  Ap 25 1 1 16 24,
  Mv 5 25]
def f89x6 : List AOper := [
  Fa 26 1 7,
  Ld 27 26,
  Ln 28 0 27,
  Mc 29 (.int .i64 0)]
def f89x7 : List AOper := [
  Bi 30 .lss 29 28]
def f89x8 : List AOper := [
  Ia 31 1 27 29,
  Ld 32 31,
  Mv 9 32]
def f89x9 : List AOper := [
  Mv 33 5,
  Mv 34 1,
  Ct 35 92 [34],
  Mv 36 9,
  Cv 37 .u64 36,
  Ct 38 91 [33, 35, 37],
  Mv 5 38]
def f89x10 : List AOper := [
  Bc 39 .add 29 1,
  Mv 29 39]
def f89x11L : ACode := (.seq (.region f89x7 false) (.seq (.cond (.t 30) .skip (.exit 2)) (.seq (.block 3 (.seq (.region f89x8 false) (.region f89x9 false))) (.region f89x10 false))))
def f89x12 : List AOper := [
  Bc 40 .add 12 1,
  Mv 12 40]
def f89x13L : ACode := (.seq (.region f89x3 false) (.seq (.cond (.t 13) .skip (.exit 0)) (.seq (.block 1 (.seq (.region f89x4 false) (.seq (.region f89x5 false) (.seq (.region f89x6 false) (.block 2 (.loop f89x11L)))))) (.region f89x12 false))))
def f89x14 : List AOper := [
  Mv 41 5,
  Mv 4 41]
def f89 : AFunc := ⟨42, 2, false, [.t 4], (.seq (.region f89x0 false) (.seq (.region f89x1 false) (.seq (.seq (.region f89x2 false) (.block 0 (.loop f89x13L))) (.seq (.region f89x14 false) .ret))))⟩
def f90x0 : List AOper := [
  Mc 2 (.con (.slice none 0 0))]
def f90x1 : List AOper := [
  Mc 3 (.con (.slice none 0 0))]
def f90x2 : List AOper := [
  Mv 6 0,
  Ln 7 0 6,
  Mc 8 (.int .i64 0)]
def f90x3 : List AOper := [
  Bi 9 .lss 8 7]
def f90x4 : List AOper := [
  Ia 10 1 6 8,
  Ld 11 10,
  Mv 5 11]
def f90x5 : List AOper := [
  Mv 12 3,
  Mv 13 5,
  Cv 14 .u64 13,
  Ca 15 91 [(.t 12), (.c (.int .i64 4)), (.t 14)],
  Mv 3 15]
def f90x6 : List AOper := [
  Bc 16 .add 8 1,
  Mv 8 16]
def f90x7L : ACode := (.seq (.region f90x3 false) (.seq (.cond (.t 9) .skip (.exit 0)) (.seq (.block 1 (.seq (.region f90x4 false) (.region f90x5 false))) (.region f90x6 false))))
def f90x8 : List AOper := [
  Mv 17 3,
  Mv 2 17]
def f90 : AFunc := ⟨18, 1, false, [.t 2], (.seq (.region f90x0 false) (.seq (.region f90x1 false) (.seq (.seq (.region f90x2 false) (.block 0 (.loop f90x7L))) (.seq (.region f90x8 false) .ret))))⟩
def f91x0 : List AOper := [
  Mc 6 (.con (.slice none 0 0))]
def f91x1 : List AOper := [
  Mc 7 (.con (.slice none 0 0))]
def f91x2 : List AOper := [
  Mv 9 7,
  Mv 10 0,
  Ap 11 1 1 9 10,
  Mv 7 11]
def f91x3 : List AOper := [
  Mv 12 1,
  Op 13 (.minmax true [(.t 12), (.c (.int .i64 0))]),
  Op 14 (.minmax false [(.t 13), (.c (.int .i64 8))]),
  Bc 15 .sub 14 1,
  Mv 8 15]
def f91x4 : List AOper := [
  Mv 16 8,
  Bc 17 .geq 16 0]
def f91x5 : List AOper := [
  Mv 20 7,
  Mv 21 2,
  Mv 22 8,
  Op 23 (.bin .mul (.c (.int .i64 8)) (.t 22)),
  Bi 24 .shr 21 23,
  Cv 25 .u8 24,
  Op 26 (.bsl 1 [.int .u8 0] 1 [0] [(.t 25)]),
  Ap 27 1 1 20 26,
  Mv 7 27]
def f91x6 : List AOper := [
  Mv 18 8,
  Bc 19 .sub 18 1,
  Mv 8 19]
def f91x7L : ACode := (.seq (.seq (.region f91x4 false) (.cond (.t 17) .skip (.exit 0))) (.seq (.block 1 (.region f91x5 false)) (.region f91x6 false)))
def f91x8 : List AOper := [
  Mv 28 7,
  Mv 6 28]
def f91 : AFunc := ⟨29, 3, false, [.t 6], (.seq (.region f91x0 false) (.seq (.region f91x1 false) (.seq (.region f91x2 false) (.seq (.seq (.region f91x3 false) (.block 0 (.loop f91x7L))) (.seq (.region f91x8 false) .ret)))))⟩
def f92x0 : List AOper := [
  Mc 2 (.int .i64 0)]
def f92x1 : List AOper := [
  Mv 3 0]
def f92x2 : List AOper := [
  Mc 2 (.int .i64 4)]
def f92x3 : List AOper := [
  Mc 2 (.int .i64 2)]
def f92 : AFunc := ⟨4, 1, false, [.t 2], (.seq (.region f92x0 false) (.seq (.seq (.region f92x1 false) (.cond (.t 3) (.seq (.region f92x2 false) .ret) .skip)) (.seq (.region f92x3 false) .ret)))⟩
def f93x0 : List AOper := [
  Mc 6 (.int .i64 0)]
def f93x1 : List AOper := [
  Mv 10 0,
  Mv 11 1,
  Mv 12 2,
  Ct 13 110 [10, 11, 12],
  Mv 9 13,
  Ex 14 9 0,
  Ex 15 9 1,
  Mv 7 14,
  Mv 8 15]
def f93x2 : List AOper := [
  Mv 16 7,
  Cv 17 .i64 16,
  Mv 6 17]
def f93 : AFunc := ⟨18, 3, false, [.t 6], (.seq (.region f93x0 false) (.seq (.region f93x1 false) (.seq (.region f93x2 false) .ret)))⟩
def f94x0 : List AOper := [
  Mc 2 (.int .u8 0)]
def f94x1 : List AOper := [
  Mv 3 0,
  Bc 4 .gtr 3 10]
def f94x2 : List AOper := [
  Mc 2 (.int .u8 224)]
def f94x3 : List AOper := [
  Mv 5 0,
  Op 6 (.iarr 11 1 (.c (.rp [.int .u8 224, .int .u8 64, .int .u8 64, .int .u8 64, .int .u8 128, .int .u8 64, .int .u8 64, .int .u8 192, .int .u8 192, .int .u8 128, .int .u8 128])) (.t 5)),
  Ld 7 6,
  Mv 2 7]
def f94 : AFunc := ⟨8, 1, false, [.t 2], (.seq (.region f94x0 false) (.seq (.seq (.region f94x1 false) (.cond (.t 4) (.seq (.region f94x2 false) .ret) .skip)) (.seq (.region f94x3 false) .ret)))⟩
def f95x0 : List AOper := [
  Mc 8 (.bool false)]
def f95x1 : List AOper := [
  Mc 9 (.int .i64 0)]
def f95x2 : List AOper := [
  Mv 11 2,
  Ln 12 0 11,
  Bc 13 .eql 12 4]
def f95x3 : List AOper := [
  Mv 14 2,
  Ca 15 93 [(.t 14), (.c (.int .i64 0)), (.c (.int .i64 4))],
  Mv 9 15]
def f95x4 : List AOper := [
  Mv 16 2,
  Ln 17 0 16,
  Bc 18 .eql 17 4,
  Mv 10 18]
def f95x5 : List AOper := [
  Mv 19 1]
def f95x6 : List AOper := [
  Bc 35 .eql 19 1,
  Mv 34 35]
def f95x7 : List AOper := [
  Mv 36 2,
  Ln 37 0 36,
  Bc 38 .neq 37 1]
def f95x8 : List AOper := [
  Mc 8 (.bool false)]
def f95x9 : List AOper := [
  Mv 39 0,
  Mv 40 2,
  Op 41 (.iadr 1 (.t 40) (.c (.int .i64 0))),
  Ld 42 41,
  Cv 43 .i64 42,
  Nc 44 39,
  Fa 45 0 44,
  St 1 45 43]
def f95x10 : List AOper := [
  Mc 8 (.bool true)]
def f95x11 : List AOper := [
  Bc 47 .eql 19 2,
  Mv 46 47]
def f95x12 : List AOper := [
  Mv 49 0,
  Mv 50 2,
  Mv 51 3,
  Ct 52 111 [50, 51],
  Mv 48 52,
  Ex 53 48 0,
  Ex 54 48 1,
  Nc 55 49,
  Fa 56 1 55,
  St 1 56 53,
  Mv 10 54]
def f95x13 : List AOper := [
  Bc 58 .eql 19 3,
  Mv 57 58]
def f95x14 : List AOper := [
  Mv 59 0,
  Mv 60 9,
  Cv 61 .u32 60,
  Nc 62 59,
  Fa 63 2 62,
  St 1 63 61]
def f95x15 : List AOper := [
  Bc 65 .eql 19 4,
  Mv 64 65]
def f95x16 : List AOper := [
  Mv 66 0,
  Mv 67 0,
  Mv 68 9,
  Nc 69 66,
  Fa 70 3 69,
  ⟨none, .store 1 (.t 70) (.c (.bool true)), none, []⟩,
  Nc 71 67,
  Fa 72 4 71,
  St 1 72 68]
def f95x17 : List AOper := [
  Bc 74 .eql 19 5,
  Mv 73 74]
def f95x18 : List AOper := [
  Mv 75 0,
  Mv 76 0,
  Mv 77 9,
  Nc 78 75,
  Fa 79 5 78,
  ⟨none, .store 1 (.t 79) (.c (.bool true)), none, []⟩,
  Nc 80 76,
  Fa 81 6 80,
  St 1 81 77]
def f95x19 : List AOper := [
  Bc 83 .eql 19 6,
  Mv 82 83]
def f95x20 : List AOper := [
  Mv 84 0,
  Nc 85 84,
  Fa 86 7 85,
  ⟨none, .store 1 (.t 86) (.c (.bool true)), none, []⟩]
def f95x21 : List AOper := [
  Mv 87 2,
  Ln 88 0 87,
  Bc 89 .eql 88 0,
  Mv 8 89]
def f95x22 : List AOper := [
  Bc 91 .eql 19 7,
  Mv 90 91]
def f95x23 : List AOper := [
  Mv 92 2,
  Ln 93 0 92,
  Mv 94 3,
  Bc 95 .add 94 4,
  Bi 96 .neq 93 95]
def f95x24 : List AOper := [
  Mc 8 (.bool false)]
def f95x25 : List AOper := [
  Mv 97 0,
  Mv 98 0,
  Mv 99 0,
  Mv 100 2,
  Mv 101 3,
  Ca 102 93 [(.t 100), (.c (.int .i64 0)), (.t 101)],
  Mv 103 2,
  Mv 104 3,
  Ca 105 93 [(.t 103), (.t 104), (.c (.int .i64 4))],
  Cv 106 .u32 105,
  Nc 107 97,
  Fa 108 8 107,
  ⟨none, .store 1 (.t 108) (.c (.bool true)), none, []⟩,
  Nc 109 98,
  Fa 110 9 109,
  St 1 110 102,
  Nc 111 99,
  Fa 112 10 111,
  St 1 112 106]
def f95x26 : List AOper := [
  Mc 8 (.bool true)]
def f95x27 : List AOper := [
  Bc 114 .eql 19 8,
  Mv 113 114]
def f95x28 : List AOper := [
  Mv 116 0,
  Mv 117 2,
  Ct 118 112 [117],
  Mv 115 118,
  Ex 119 115 0,
  Ex 120 115 1,
  Nc 121 116,
  Fa 122 11 121,
  St 1 122 119,
  Mv 10 120]
def f95x29 : List AOper := [
  Bc 124 .eql 19 9,
  Mv 123 124]
def f95x30 : List AOper := [
  Mv 125 0,
  Mv 126 0,
  Mv 127 9,
  Cv 128 .u32 127,
  Nc 129 125,
  Fa 130 12 129,
  ⟨none, .store 1 (.t 130) (.c (.bool true)), none, []⟩,
  Nc 131 126,
  Fa 132 13 131,
  St 1 132 128]
def f95x31 : List AOper := [
  Bc 134 .eql 19 10,
  Mv 133 134]
def f95x32 : List AOper := [
  Mv 136 0,
  Mv 137 2,
  Ct 138 112 [137],
  Mv 135 138,
  Ex 139 135 0,
  Ex 140 135 1,
  Nc 141 136,
  Fa 142 14 141,
  St 1 142 139,
  Mv 10 140]
def f95x33 : List AOper := [
  Mv 20 0,
  Mv 21 0,
  Nc 22 21,
  Fa 23 15 22,
  Ld 24 23,
  Mv 25 1,
  Op 26 (.bsl 1 [.int .u8 0] 0 [] []),
  Mv 27 2,
  Af [6] (Ap 28 1 1 26 27),
  Op 29 (.build [.int .i64 0, .con (.slice none 0 0)] [(0, 1), (1, 1)] [(.t 25), (.t 28)]),
  Af [8, 6] (Op 30 (.bsl 2 [.int .i64 0, .con (.slice none 0 0)] 1 [0] [(.t 29)])),
  Af [4, 10, 8, 6] (Ap 31 2 32 24 30),
  Nc 32 20,
  Fa 33 15 32,
  Af [11, 4, 10, 8, 6] (St 1 33 31)]
def f95x34 : List AOper := [
  Mc 8 (.bool true)]
def f95x35 : List AOper := [
  Mv 143 10,
  Mv 8 143]
def f95 : AFunc := ⟨144, 4, false, [.t 8], (.seq (.region f95x0 false) (.seq (.region f95x1 false) (.seq (.seq (.region f95x2 false) (.cond (.t 13) (.region f95x3 false) .skip)) (.seq (.region f95x4 false) (.seq (.seq (.region f95x5 false) (.block 0 (.seq (.region f95x6 false) (.cond (.t 34) (.seq (.seq (.region f95x7 false) (.cond (.t 38) (.seq (.region f95x8 false) .ret) .skip)) (.seq (.region f95x9 false) (.seq (.region f95x10 false) .ret))) (.seq (.region f95x11 false) (.cond (.t 46) (.region f95x12 false) (.seq (.region f95x13 false) (.cond (.t 57) (.region f95x14 false) (.seq (.region f95x15 false) (.cond (.t 64) (.region f95x16 false) (.seq (.region f95x17 false) (.cond (.t 73) (.region f95x18 false) (.seq (.region f95x19 false) (.cond (.t 82) (.seq (.region f95x20 false) (.seq (.region f95x21 false) .ret)) (.seq (.region f95x22 false) (.cond (.t 90) (.seq (.seq (.region f95x23 false) (.cond (.t 96) (.seq (.region f95x24 false) .ret) .skip)) (.seq (.region f95x25 false) (.seq (.region f95x26 false) .ret))) (.seq (.region f95x27 false) (.cond (.t 113) (.region f95x28 false) (.seq (.region f95x29 false) (.cond (.t 123) (.region f95x30 false) (.seq (.region f95x31 false) (.cond (.t 133) (.region f95x32 false) (.seq (.region f95x33 true) (.seq (.region f95x34 false) .ret)))))))))))))))))))))))) (.seq (.region f95x35 false) .ret))))))⟩
def f96x0 : List AOper := [
  Mc 2 (.int .i64 0)]
def f96x1 : List AOper := [
  Mv 3 0]
def f96x2 : List AOper := [
  Mc 2 (.int .i64 4)]
def f96x3 : List AOper := [
  Mc 2 (.int .i64 2)]
def f96 : AFunc := ⟨4, 1, false, [.t 2], (.seq (.region f96x0 false) (.seq (.seq (.region f96x1 false) (.cond (.t 3) (.seq (.region f96x2 false) .ret) .skip)) (.seq (.region f96x3 false) .ret)))⟩
def f97x0 : List AOper := [
  Mc 4 (.bool false)]
def f97x1 : List AOper := [
  Mv 7 0,
  Ln 8 0 7,
  Mv 9 1,
  Ln 10 0 9,
  Bi 11 .neq 8 10]
def f97x2 : List AOper := [
  Mc 4 (.bool false)]
def f97x3 : List AOper := [
  Mv 12 0,
  Ln 13 0 12,
  Mc 14 (.int .i64 0)]
def f97x4 : List AOper := [
  Bi 15 .lss 14 13]
def f97x5 : List AOper := [
  Mv 16 14,
  Mv 5 16]
def f97x6 : List AOper := [
  Mv 17 0,
  Mv 18 5,
  Ia 19 2 17 18,
  Fa 20 0 19,
  Af [2] (Ld 21 20),
  Mv 22 1,
  Mv 23 5,
  Ia 24 2 22 23,
  Fa 25 0 24,
  Af [7] (Ld 26 25),
  Bi 27 .neq 21 26,
  Mv 28 27,
  Gf 28 (Mv 29 0),
  Gf 28 (Mv 30 5),
  Af [4, 9, 2, 7] (Gf 28 (Ia 31 2 29 30)),
  Gf 28 (Fa 32 1 31),
  Af [14, 4, 9, 2, 7] (Gf 28 (Ld 33 32)),
  Af [16, 14, 4, 9, 2, 7] (Gf 28 (Ln 34 0 33)),
  Gf 28 (Mv 35 1),
  Gf 28 (Mv 36 5),
  Af [4, 9, 2, 7] (Gf 28 (Ia 37 2 35 36)),
  Gf 28 (Fa 38 1 37),
  Af [20, 4, 9, 2, 7] (Gf 28 (Ld 39 38)),
  Af [22, 20, 4, 9, 2, 7] (Gf 28 (Ln 40 0 39)),
  Gf 28 (Bi 41 .neq 34 40),
  Po 42 28 41]
def f97x7 : List AOper := [
  Mc 4 (.bool false)]
def f97x8 : List AOper := [
  Mv 43 0,
  Mv 44 5,
  Ia 45 2 43 44,
  Fa 46 1 45,
  Ld 47 46,
  Ln 48 0 47,
  Mc 49 (.int .i64 0)]
def f97x9 : List AOper := [
  Bi 50 .lss 49 48]
def f97x10 : List AOper := [
  Mv 51 49,
  Mv 6 51]
def f97x11 : List AOper := [
  Mv 52 0,
  Mv 53 5,
  Ia 54 2 52 53,
  Fa 55 1 54,
  Af [2] (Ld 56 55),
  Mv 57 6,
  Af [4, 2] (Ia 58 1 56 57),
  Af [6, 4, 2] (Ld 59 58),
  Mv 60 1,
  Mv 61 5,
  Ia 62 2 60 61,
  Fa 63 1 62,
  Af [10] (Ld 64 63),
  Mv 65 6,
  Af [12, 10] (Ia 66 1 64 65),
  Af [14, 12, 10] (Ld 67 66),
  Bi 68 .neq 59 67]
def f97x12 : List AOper := [
  Mc 4 (.bool false)]
def f97x13 : List AOper := [
  Bc 69 .add 49 1,
  Mv 49 69]
def f97x14L : ACode := (.seq (.region f97x9 false) (.seq (.cond (.t 50) .skip (.exit 2)) (.seq (.block 3 (.seq (.region f97x10 false) (.seq (.region f97x11 true) (.cond (.t 68) (.seq (.region f97x12 false) .ret) .skip)))) (.region f97x13 false))))
def f97x15 : List AOper := [
  Bc 70 .add 14 1,
  Mv 14 70]
def f97x16L : ACode := (.seq (.region f97x4 false) (.seq (.cond (.t 15) .skip (.exit 0)) (.seq (.block 1 (.seq (.region f97x5 false) (.seq (.seq (.region f97x6 true) (.cond (.t 42) (.seq (.region f97x7 false) .ret) .skip)) (.seq (.region f97x8 false) (.block 2 (.loop f97x14L)))))) (.region f97x15 false))))
def f97x17 : List AOper := [
  Mc 4 (.bool true)]
def f97 : AFunc := ⟨71, 2, false, [.t 4], (.seq (.region f97x0 false) (.seq (.seq (.region f97x1 false) (.cond (.t 11) (.seq (.region f97x2 false) .ret) .skip)) (.seq (.seq (.region f97x3 false) (.block 0 (.loop f97x16L))) (.seq (.region f97x17 false) .ret))))⟩
def f97x16LH : List AItem := [.inLoop f97x16L, .inBlock 0, .code (.seq (.region f97x17 false) .ret)]
def f97x14LH : List AItem := [.inLoop f97x14L, .inBlock 2, .inBlock 1, .code (.region f97x15 false), .inLoop f97x16L, .inBlock 0, .code (.seq (.region f97x17 false) .ret)]
def f98x0 : List AOper := [
  Mc 4 (.bool false)]
def f98x1 : List AOper := [
  Mv 5 0,
  Op 6 (.b2s (.t 5)),
  Mv 7 1,
  Op 8 (.b2s (.t 7)),
  Bi 9 .eql 6 8,
  Mv 4 9]
def f98 : AFunc := ⟨10, 2, false, [.t 4], (.seq (.region f98x0 false) (.seq (.region f98x1 false) .ret))⟩
def f99x0 : List AOper := [
  Mc 4 (.bool false)]
def f99x1 : List AOper := [
  Mv 6 0,
  Ln 7 0 6,
  Mv 8 1,
  Ln 9 0 8,
  Bi 10 .neq 7 9]
def f99x2 : List AOper := [
  Mc 4 (.bool false)]
def f99x3 : List AOper := [
  Mv 11 0,
  Ln 12 0 11,
  Mc 13 (.int .i64 0)]
def f99x4 : List AOper := [
  Bi 14 .lss 13 12]
def f99x5 : List AOper := [
  Mv 15 13,
  Mv 5 15]
def f99x6 : List AOper := [
  Mv 16 0,
  Mv 17 5,
  Ia 18 1 16 17,
  Af [2] (Ld 19 18),
  Mv 20 1,
  Mv 21 5,
  Ia 22 1 20 21,
  Af [6] (Ld 23 22),
  Bi 24 .neq 19 23]
def f99x7 : List AOper := [
  Mc 4 (.bool false)]
def f99x8 : List AOper := [
  Bc 25 .add 13 1,
  Mv 13 25]
def f99x9L : ACode := (.seq (.region f99x4 false) (.seq (.cond (.t 14) .skip (.exit 0)) (.seq (.block 1 (.seq (.region f99x5 false) (.seq (.region f99x6 true) (.cond (.t 24) (.seq (.region f99x7 false) .ret) .skip)))) (.region f99x8 false))))
def f99x10 : List AOper := [
  Mc 4 (.bool true)]
def f99 : AFunc := ⟨26, 2, false, [.t 4], (.seq (.region f99x0 false) (.seq (.seq (.region f99x1 false) (.cond (.t 10) (.seq (.region f99x2 false) .ret) .skip)) (.seq (.seq (.region f99x3 false) (.block 0 (.loop f99x9L))) (.seq (.region f99x10 false) .ret))))⟩
def f99x9LH : List AItem := [.inLoop f99x9L, .inBlock 0, .code (.seq (.region f99x10 false) .ret)]
def f100x0 : List AOper := [
  Mc 6 (.int .i64 0)]
def f100x1 : List AOper := [
  Mv 10 0,
  Mv 11 1,
  Mv 12 2,
  Ct 13 113 [10, 11, 12],
  Mv 9 13,
  Ex 14 9 0,
  Ex 15 9 1,
  Mv 7 14,
  Mv 8 15]
def f100x2 : List AOper := [
  Mv 16 7,
  Cv 17 .i64 16,
  Mv 6 17]
def f100 : AFunc := ⟨18, 3, false, [.t 6], (.seq (.region f100x0 false) (.seq (.region f100x1 false) (.seq (.region f100x2 false) .ret)))⟩
def f101x0 : List AOper := [
  Op 4 (.box (.t 0)),
  Op 8 (.alloc (.agg [.int .i64 0, .con (.slice none 0 0), .int .u32 0, .bool false, .int .i64 0, .bool false, .int .i64 0, .bool false, .bool false, .int .i64 0, .int .u32 0, .con (.slice none 0 0), .bool false, .int .u32 0, .con (.slice none 0 0), .con (.slice none 0 0)])),
  Mc 9 (.bool false)]
def f101x1 : List AOper := [
  Mc 10 (.bool true)]
def f101x2 : List AOper := [
  Mv 18 1]
def f101x3 : List AOper := [
  Bc 30 .eql 18 1,
  Mv 29 30]
def f101x4 : List AOper := [
  Mv 31 2,
  Ln 32 0 31,
  Bc 33 .eql 32 1,
  Mv 10 33]
def f101x5 : List AOper := [
  Mv 34 10]
def f101x6 : List AOper := [
  Mv 35 2,
  Op 36 (.iadr 1 (.t 35) (.c (.int .i64 0))),
  Ld 37 36,
  Cv 38 .i64 37,
  Fa 39 0 4,
  St 1 39 38]
def f101x7 : List AOper := [
  Bc 41 .eql 18 2,
  Mv 40 41]
def f101x8 : List AOper := [
  Mv 43 2,
  Mv 44 3,
  Ct 45 114 [43, 44],
  Mv 42 45,
  Ex 46 42 0,
  Ex 47 42 1,
  Mv 11 46,
  Mv 12 47]
def f101x9 : List AOper := [
  Mv 48 11,
  Fa 49 1 4,
  St 1 49 48]
def f101x10 : List AOper := [
  Mv 50 12,
  Mv 10 50]
def f101x11 : List AOper := [
  Bc 52 .eql 18 6,
  Mv 51 52]
def f101x12 : List AOper := [
  Mv 53 2,
  Ln 54 0 53,
  Bc 55 .eql 54 0,
  Mv 10 55]
def f101x13 : List AOper := [
  Fa 56 7 4,
  ⟨none, .store 1 (.t 56) (.c (.bool true)), none, []⟩]
def f101x14 : List AOper := [
  Bc 58 .eql 18 7,
  Mv 57 58]
def f101x15 : List AOper := [
  Mv 59 3,
  Ct 60 92 [59],
  Mv 13 60]
def f101x16 : List AOper := [
  Mv 61 2,
  Ln 62 0 61,
  Mv 63 13,
  Bc 64 .add 63 4,
  Bi 65 .eql 62 64,
  Mv 10 65]
def f101x17 : List AOper := [
  Mv 66 10]
def f101x18 : List AOper := [
  Fa 67 8 4,
  ⟨none, .store 1 (.t 67) (.c (.bool true)), none, []⟩]
def f101x19 : List AOper := [
  Mv 68 2,
  Mv 69 13,
  Ca 70 100 [(.t 68), (.c (.int .i64 0)), (.t 69)],
  Fa 71 9 4,
  St 1 71 70]
def f101x20 : List AOper := [
  Mv 72 2,
  Mv 73 13,
  Ca 74 100 [(.t 72), (.t 73), (.c (.int .i64 4))],
  Cv 75 .u32 74,
  Fa 76 10 4,
  St 1 76 75]
def f101x21 : List AOper := [
  Bc 78 .eql 18 8,
  Mv 77 78]
def f101x22 : List AOper := [
  Mv 80 2,
  Ct 81 115 [80],
  Mv 79 81,
  Ex 82 79 0,
  Ex 83 79 1,
  Mv 14 82,
  Mv 15 83]
def f101x23 : List AOper := [
  Mv 84 14,
  Fa 85 11 4,
  St 1 85 84]
def f101x24 : List AOper := [
  Mv 86 15,
  Mv 10 86]
def f101x25 : List AOper := [
  Bc 88 .eql 18 10,
  Mv 87 88]
def f101x26 : List AOper := [
  Mv 90 2,
  Ct 91 115 [90],
  Mv 89 91,
  Ex 92 89 0,
  Ex 93 89 1,
  Mv 16 92,
  Mv 17 93]
def f101x27 : List AOper := [
  Mv 94 16,
  Fa 95 14 4,
  St 1 95 94]
def f101x28 : List AOper := [
  Mv 96 17,
  Mv 10 96]
def f101x29 : List AOper := [
  Bc 98 .eql 18 3,
  Mv 97 98]
def f101x30 : List AOper := [
  Bc 99 .eql 18 4,
  Mv 97 99]
def f101x31 : List AOper := [
  Bc 100 .eql 18 5,
  Mv 97 100]
def f101x32 : List AOper := [
  Bc 101 .eql 18 9,
  Mv 97 101]
def f101x33 : List AOper := [
  Mv 102 2,
  Ln 103 0 102,
  Bc 104 .eql 103 4,
  Mv 10 104]
def f101x34 : List AOper := [
  Mv 105 10]
def f101x35 : List AOper := [
  Ls 106 16 4,
  Mv 107 1,
  Mv 108 2,
  Ca 109 100 [(.t 108), (.c (.int .i64 0)), (.c (.int .i64 4))],
  Af [0, 3] (Ct 110 116 [106, 107, 109]),
  Af [4, 0, 3] (St 16 4 110)]
def f101x36 : List AOper := [
  Fa 19 15 4,
  Ld 20 19,
  Mv 21 1,
  Op 22 (.bsl 1 [.int .u8 0] 0 [] []),
  Mv 23 2,
  Af [3] (Ap 24 1 1 22 23),
  Op 25 (.build [.int .i64 0, .con (.slice none 0 0)] [(0, 1), (1, 1)] [(.t 21), (.t 24)]),
  Af [5, 3] (Op 26 (.bsl 2 [.int .i64 0, .con (.slice none 0 0)] 1 [0] [(.t 25)])),
  Af [1, 7, 5, 3] (Ap 27 2 32 20 26),
  Fa 28 15 4,
  Af [8, 1, 7, 5, 3] (St 1 28 27)]
def f101x37 : List AOper := [
  Ls 111 16 4,
  Mv 112 10,
  St 16 8 111,
  Mv 9 112]
def f101 : AFunc := ⟨113, 4, true, [.cell 8 (some 16), .t 9], (.seq (.region f101x0 false) (.seq (.region f101x1 false) (.seq (.seq (.region f101x2 false) (.block 0 (.seq (.region f101x3 false) (.cond (.t 29) (.seq (.region f101x4 false) (.seq (.region f101x5 false) (.cond (.t 34) (.region f101x6 false) .skip))) (.seq (.region f101x7 false) (.cond (.t 40) (.seq (.region f101x8 false) (.seq (.region f101x9 false) (.region f101x10 false))) (.seq (.region f101x11 false) (.cond (.t 51) (.seq (.region f101x12 false) (.region f101x13 false)) (.seq (.region f101x14 false) (.cond (.t 57) (.seq (.region f101x15 false) (.seq (.region f101x16 false) (.seq (.region f101x17 false) (.cond (.t 66) (.seq (.region f101x18 false) (.seq (.region f101x19 false) (.region f101x20 false))) .skip)))) (.seq (.region f101x21 false) (.cond (.t 77) (.seq (.region f101x22 false) (.seq (.region f101x23 false) (.region f101x24 false))) (.seq (.region f101x25 false) (.cond (.t 87) (.seq (.region f101x26 false) (.seq (.region f101x27 false) (.region f101x28 false))) (.seq (.seq (.region f101x29 false) (.cond (.t 97) .skip (.seq (.region f101x30 false) (.cond (.t 97) .skip (.seq (.region f101x31 false) (.cond (.t 97) .skip (.region f101x32 false))))))) (.cond (.t 97) (.seq (.region f101x33 false) (.seq (.region f101x34 false) (.cond (.t 105) (.region f101x35 true) .skip))) (.region f101x36 true))))))))))))))))) (.seq (.region f101x37 false) .ret))))⟩
def f102x0 : List AOper := [
  Mc 2 (.int .i64 0)]
def f102x1 : List AOper := [
  Mv 4 0,
  Bc 5 .eql 4 1,
  Mv 6 5,
  Gf 6 (Mv 7 0),
  Gf 6 (Bc 8 .eql 7 2),
  Po 9 6 8,
  Mv 10 9,
  Gf 10 (Mv 11 0),
  Gf 10 (Bc 12 .eql 11 3),
  Po 13 10 12,
  Mv 14 13,
  Gf 14 (Mv 15 0),
  Gf 14 (Bc 16 .eql 15 5),
  Po 17 14 16,
  Mv 18 17,
  Gf 18 (Mv 19 0),
  Gf 18 (Bc 20 .eql 19 6),
  Po 21 18 20,
  Mv 3 21]
def f102x2 : List AOper := [
  Mc 2 (.int .i64 64)]
def f102x3 : List AOper := [
  Mv 23 0,
  Bc 24 .eql 23 4,
  Mv 25 24,
  Gf 25 (Mv 26 0),
  Gf 25 (Bc 27 .eql 26 9),
  Po 28 25 27,
  Mv 29 28,
  Gf 29 (Mv 30 0),
  Gf 29 (Bc 31 .eql 30 10),
  Po 32 29 31,
  Mv 22 32]
def f102x4 : List AOper := [
  Mc 2 (.int .i64 128)]
def f102x5 : List AOper := [
  Mv 34 0,
  Bc 35 .eql 34 7,
  Mv 36 35,
  Gf 36 (Mv 37 0),
  Gf 36 (Bc 38 .eql 37 8),
  Po 39 36 38,
  Mv 33 39]
def f102x6 : List AOper := [
  Mc 2 (.int .i64 192)]
def f102x7 : List AOper := [
  Mc 2 (.int .i64 224)]
def f102 : AFunc := ⟨40, 1, false, [.t 2], (.seq (.region f102x0 false) (.seq (.block 0 (.seq (.region f102x1 false) (.cond (.t 3) (.seq (.region f102x2 false) .ret) (.seq (.region f102x3 false) (.cond (.t 22) (.seq (.region f102x4 false) .ret) (.seq (.region f102x5 false) (.cond (.t 33) (.seq (.region f102x6 false) .ret) .skip))))))) (.seq (.region f102x7 false) .ret)))⟩
def f103x0 : List AOper := [
  Mc 4 (.bool false)]
def f103x1 : List AOper := [
  Mv 7 0,
  Ln 8 0 7,
  Mv 9 1,
  Ln 10 0 9,
  Bi 11 .neq 8 10]
def f103x2 : List AOper := [
  Mc 4 (.bool false)]
def f103x3 : List AOper := [
  Mv 12 0,
  Ln 13 0 12,
  Mc 14 (.int .i64 0)]
def f103x4 : List AOper := [
  Bi 15 .lss 14 13]
def f103x5 : List AOper := [
  Mv 16 14,
  Mv 5 16]
def f103x6 : List AOper := [
  Mv 17 0,
  Mv 18 5,
  Ia 19 2 17 18,
  Fa 20 0 19,
  Af [2] (Ld 21 20),
  Mv 22 1,
  Mv 23 5,
  Ia 24 2 22 23,
  Fa 25 0 24,
  Af [7] (Ld 26 25),
  Bi 27 .neq 21 26,
  Mv 28 27,
  Gf 28 (Mv 29 0),
  Gf 28 (Mv 30 5),
  Af [4, 9, 2, 7] (Gf 28 (Ia 31 2 29 30)),
  Gf 28 (Fa 32 1 31),
  Af [14, 4, 9, 2, 7] (Gf 28 (Ld 33 32)),
  Af [16, 14, 4, 9, 2, 7] (Gf 28 (Ln 34 0 33)),
  Gf 28 (Mv 35 1),
  Gf 28 (Mv 36 5),
  Af [4, 9, 2, 7] (Gf 28 (Ia 37 2 35 36)),
  Gf 28 (Fa 38 1 37),
  Af [20, 4, 9, 2, 7] (Gf 28 (Ld 39 38)),
  Af [22, 20, 4, 9, 2, 7] (Gf 28 (Ln 40 0 39)),
  Gf 28 (Bi 41 .neq 34 40),
  Po 42 28 41]
def f103x7 : List AOper := [
  Mc 4 (.bool false)]
def f103x8 : List AOper := [
  Mv 43 0,
  Mv 44 5,
  Ia 45 2 43 44,
  Fa 46 1 45,
  Ld 47 46,
  Ln 48 0 47,
  Mc 49 (.int .i64 0)]
def f103x9 : List AOper := [
  Bi 50 .lss 49 48]
def f103x10 : List AOper := [
  Mv 51 49,
  Mv 6 51]
def f103x11 : List AOper := [
  Mv 52 0,
  Mv 53 5,
  Ia 54 2 52 53,
  Fa 55 1 54,
  Af [2] (Ld 56 55),
  Mv 57 6,
  Af [4, 2] (Ia 58 1 56 57),
  Af [6, 4, 2] (Ld 59 58),
  Mv 60 1,
  Mv 61 5,
  Ia 62 2 60 61,
  Fa 63 1 62,
  Af [10] (Ld 64 63),
  Mv 65 6,
  Af [12, 10] (Ia 66 1 64 65),
  Af [14, 12, 10] (Ld 67 66),
  Bi 68 .neq 59 67]
def f103x12 : List AOper := [
  Mc 4 (.bool false)]
def f103x13 : List AOper := [
  Bc 69 .add 49 1,
  Mv 49 69]
def f103x14L : ACode := (.seq (.region f103x9 false) (.seq (.cond (.t 50) .skip (.exit 2)) (.seq (.block 3 (.seq (.region f103x10 false) (.seq (.region f103x11 true) (.cond (.t 68) (.seq (.region f103x12 false) .ret) .skip)))) (.region f103x13 false))))
def f103x15 : List AOper := [
  Bc 70 .add 14 1,
  Mv 14 70]
def f103x16L : ACode := (.seq (.region f103x4 false) (.seq (.cond (.t 15) .skip (.exit 0)) (.seq (.block 1 (.seq (.region f103x5 false) (.seq (.seq (.region f103x6 true) (.cond (.t 42) (.seq (.region f103x7 false) .ret) .skip)) (.seq (.region f103x8 false) (.block 2 (.loop f103x14L)))))) (.region f103x15 false))))
def f103x17 : List AOper := [
  Mc 4 (.bool true)]
def f103 : AFunc := ⟨71, 2, false, [.t 4], (.seq (.region f103x0 false) (.seq (.seq (.region f103x1 false) (.cond (.t 11) (.seq (.region f103x2 false) .ret) .skip)) (.seq (.seq (.region f103x3 false) (.block 0 (.loop f103x16L))) (.seq (.region f103x17 false) .ret))))⟩
def f104x0 : List AOper := [
  Mc 4 (.bool false)]
def f104x1 : List AOper := [
  Mv 6 0,
  Ln 7 0 6,
  Mv 8 1,
  Ln 9 0 8,
  Bi 10 .neq 7 9]
def f104x2 : List AOper := [
  Mc 4 (.bool false)]
def f104x3 : List AOper := [
  Mv 11 0,
  Ln 12 0 11,
  Mc 13 (.int .i64 0)]
def f104x4 : List AOper := [
  Bi 14 .lss 13 12]
def f104x5 : List AOper := [
  Mv 15 13,
  Mv 5 15]
def f104x6 : List AOper := [
  Mv 16 0,
  Mv 17 5,
  Ia 18 1 16 17,
  Af [2] (Ld 19 18),
  Mv 20 1,
  Mv 21 5,
  Ia 22 1 20 21,
  Af [6] (Ld 23 22),
  Bi 24 .neq 19 23]
def f104x7 : List AOper := [
  Mc 4 (.bool false)]
def f104x8 : List AOper := [
  Bc 25 .add 13 1,
  Mv 13 25]
def f104x9L : ACode := (.seq (.region f104x4 false) (.seq (.cond (.t 14) .skip (.exit 0)) (.seq (.block 1 (.seq (.region f104x5 false) (.seq (.region f104x6 true) (.cond (.t 24) (.seq (.region f104x7 false) .ret) .skip)))) (.region f104x8 false))))
def f104x10 : List AOper := [
  Mc 4 (.bool true)]
def f104 : AFunc := ⟨26, 2, false, [.t 4], (.seq (.region f104x0 false) (.seq (.seq (.region f104x1 false) (.cond (.t 10) (.seq (.region f104x2 false) .ret) .skip)) (.seq (.seq (.region f104x3 false) (.block 0 (.loop f104x9L))) (.seq (.region f104x10 false) .ret))))⟩
def f54x0 : List AOper := [
  Mc 2 (.int .i64 0)]
def f54x1 : List AOper := [
  Mv 3 0,
  Ln 4 0 3,
  Mv 5 0,
  Ct 6 57 [5],
  Ln 7 0 6,
  Bi 8 .add 4 7,
  Mv 2 8]
def f54 : AFunc := ⟨9, 1, false, [.t 2], (.seq (.region f54x0 false) (.seq (.region f54x1 false) .ret))⟩
def f105x0 : List AOper := [
  Op 1 (.box (.t 0)),
  Mc 2 (.int .i64 0)]
def f105x1 : List AOper := [
  Fa 7 0 1,
  Ld 8 7,
  Op 9 (.bsl 1 [.int .i64 0] 4 [0, 1, 2, 3] [(.c (.int .i64 1)), (.c (.int .i64 2)), (.c (.int .i64 3)), (.c (.int .i64 4))]),
  Ct 10 107 [8, 9],
  Un 11 .not 10,
  Mv 6 11]
def f105x2 : List AOper := [
  Mc 2 (.int .i64 15)]
def f105x3 : List AOper := [
  Fa 13 1 1,
  Ld 14 13,
  Ln 15 0 14,
  Bc 16 .eql 15 0,
  Mv 12 16]
def f105x4 : List AOper := [
  Mc 2 (.int .i64 1)]
def f105x5 : List AOper := [
  Fa 18 1 1,
  Ld 19 18,
  Ln 20 0 19,
  Bc 21 .gtr 20 255,
  Mv 17 21]
def f105x6 : List AOper := [
  Mc 2 (.int .i64 4)]
def f105x7 : List AOper := [
  Fa 22 1 1,
  Ld 23 22,
  Ln 24 0 23,
  Mc 25 (.int .i64 0)]
def f105x8 : List AOper := [
  Bi 26 .lss 25 24]
def f105x9 : List AOper := [
  Ia 27 1 23 25,
  Ld 28 27,
  Mv 4 28]
def f105x10 : List AOper := [
  Mv 29 4,
  Bc 30 .lss 29 1,
  Mv 31 30,
  Gf 31 (Mv 32 4),
  Gf 31 (Bc 33 .gtr 32 4294967295),
  Po 34 31 33]
def f105x11 : List AOper := [
  Mc 2 (.int .i64 5)]
def f105x12 : List AOper := [
  Bc 35 .add 25 1,
  Mv 25 35]
def f105x13L : ACode := (.seq (.region f105x8 false) (.seq (.cond (.t 26) .skip (.exit 1)) (.seq (.block 2 (.seq (.region f105x9 false) (.seq (.region f105x10 false) (.cond (.t 34) (.seq (.region f105x11 false) .ret) .skip)))) (.region f105x12 false))))
def f105x14 : List AOper := [
  Fa 36 1 1,
  Ld 37 36,
  Ln 38 0 37,
  Mc 39 (.int .i64 0)]
def f105x15 : List AOper := [
  Bi 40 .lss 39 38]
def f105x16 : List AOper := [
  Mv 41 39,
  Mv 5 41]
def f105x17 : List AOper := [
  Mv 42 5,
  Bc 43 .gtr 42 0,
  Mv 44 43,
  Gt 44 (Fa 45 0 1),
  Gt 44 (Ld 46 45),
  Gt 44 (Op 47 (.bsl 1 [.int .i64 0] 2 [0, 1] [(.c (.int .i64 1)), (.c (.int .i64 4))])),
  Af [4, 5] (Gt 44 (Ct 48 107 [46, 47])),
  Pa 49 44 48,
  Mv 50 49,
  Gt 50 (Fa 51 1 1),
  Af [6, 4, 5] (Gt 50 (Ld 52 51)),
  Gt 50 (Mv 53 5),
  Af [10, 6, 4, 5] (Gt 50 (Ia 54 1 52 53)),
  Af [12, 10, 6, 4, 5] (Gt 50 (Ld 55 54)),
  Gt 50 (Fa 56 1 1),
  Af [6, 4, 5] (Gt 50 (Ld 57 56)),
  Gt 50 (Mv 58 5),
  Gt 50 (Bc 59 .sub 58 1),
  Af [15, 6, 4, 5] (Gt 50 (Ia 60 1 57 59)),
  Af [18, 15, 6, 4, 5] (Gt 50 (Ld 61 60)),
  Gt 50 (Bi 62 .leq 55 61),
  Pa 63 50 62]
def f105x18 : List AOper := [
  Mc 2 (.int .i64 16)]
def f105x19 : List AOper := [
  Bc 64 .add 39 1,
  Mv 39 64]
def f105x20L : ACode := (.seq (.region f105x15 false) (.seq (.cond (.t 40) .skip (.exit 3)) (.seq (.block 4 (.seq (.region f105x16 false) (.seq (.region f105x17 true) (.cond (.t 63) (.seq (.region f105x18 false) .ret) .skip)))) (.region f105x19 false))))
def f105x21 : List AOper := [
  Mc 2 (.int .i64 0)]
def f105 : AFunc := ⟨65, 1, false, [.t 2], (.seq (.region f105x0 false) (.seq (.block 0 (.seq (.region f105x1 false) (.cond (.t 6) (.seq (.region f105x2 false) .ret) (.seq (.region f105x3 false) (.cond (.t 12) (.seq (.region f105x4 false) .ret) (.seq (.region f105x5 false) (.cond (.t 17) (.seq (.region f105x6 false) .ret) .skip))))))) (.seq (.seq (.region f105x7 false) (.block 1 (.loop f105x13L))) (.seq (.seq (.region f105x14 false) (.block 3 (.loop f105x20L))) (.seq (.region f105x21 false) .ret)))))⟩
def f105x13LH : List AItem := [.inLoop f105x13L, .inBlock 1, .code (.seq (.seq (.region f105x14 false) (.block 3 (.loop f105x20L))) (.seq (.region f105x21 false) .ret))]
def f105x20LH : List AItem := [.inLoop f105x20L, .inBlock 3, .code (.seq (.region f105x21 false) .ret)]
def f106x0 : List AOper := [
  Mc 2 (.bool false)]
def f106x1 : List AOper := [
  Mv 3 0,
  Op 4 (.bsl 1 [.int .i64 0] 2 [0, 1] [(.c (.int .i64 3)), (.c (.int .i64 4))]),
  Ct 5 107 [3, 4],
  Mv 2 5]
def f106 : AFunc := ⟨6, 1, false, [.t 2], (.seq (.region f106x0 false) (.seq (.region f106x1 false) .ret))⟩
def f107x0 : List AOper := [
  Mc 4 (.bool false)]
def f107x1 : List AOper := [
  Mv 7 1,
  Ln 8 0 7,
  Mc 9 (.int .i64 0)]
def f107x2 : List AOper := [
  Bi 10 .lss 9 8]
def f107x3 : List AOper := [
  Ia 11 1 7 9,
  Ld 12 11,
  Mv 6 12]
def f107x4 : List AOper := [
  Mv 13 6,
  Mv 14 0,
  Bi 15 .eql 13 14]
def f107x5 : List AOper := [
  Mc 4 (.bool true)]
def f107x6 : List AOper := [
  Bc 16 .add 9 1,
  Mv 9 16]
def f107x7L : ACode := (.seq (.region f107x2 false) (.seq (.cond (.t 10) .skip (.exit 0)) (.seq (.block 1 (.seq (.region f107x3 false) (.seq (.region f107x4 false) (.cond (.t 15) (.seq (.region f107x5 false) .ret) .skip)))) (.region f107x6 false))))
def f107x8 : List AOper := [
  Mc 4 (.bool false)]
def f107 : AFunc := ⟨17, 2, false, [.t 4], (.seq (.region f107x0 false) (.seq (.seq (.region f107x1 false) (.block 0 (.loop f107x7L))) (.seq (.region f107x8 false) .ret)))⟩
def f107x7LH : List AItem := [.inLoop f107x7L, .inBlock 0, .code (.seq (.region f107x8 false) .ret)]
def f108x0 : List AOper := [
  Mc 4 (.int .i64 0)]
def f108x1 : List AOper := [
  Mv 11 0,
  Mv 12 1,
  Ia 13 2 11 12,
  Ls 14 2 13,
  Op 5 (.alloc (.agg [.int .i64 0, .con (.slice none 0 0)])),
  St 2 5 14]
def f108x2 : List AOper := [
  Fa 15 0 5,
  Ld 16 15,
  Bc 17 .lss 16 1,
  Mv 18 17,
  Gf 18 (Fa 19 0 5),
  Gf 18 (Ld 20 19),
  Gf 18 (Bc 21 .gtr 20 4),
  Po 22 18 21]
def f108x3 : List AOper := [
  Mc 4 (.int .i64 15)]
def f108x4 : List AOper := [
  Fa 23 1 5,
  Ld 24 23,
  Ln 25 0 24,
  Bc 26 .eql 25 0]
def f108x5 : List AOper := [
  Mc 4 (.int .i64 1)]
def f108x6 : List AOper := [
  Fa 27 1 5,
  Ld 28 27,
  Ln 29 0 28,
  Bc 30 .gtr 29 255]
def f108x7 : List AOper := [
  Mc 4 (.int .i64 4)]
def f108x8 : List AOper := [
  Fa 31 1 5,
  Ld 32 31,
  Ln 33 0 32,
  Mc 34 (.int .i64 0)]
def f108x9 : List AOper := [
  Bi 35 .lss 34 33]
def f108x10 : List AOper := [
  Ia 36 1 32 34,
  Ld 37 36,
  Mv 7 37]
def f108x11 : List AOper := [
  Mv 38 7,
  Bc 39 .lss 38 1,
  Mv 40 39,
  Gf 40 (Mv 41 7),
  Gf 40 (Bc 42 .gtr 41 4294967295),
  Po 43 40 42]
def f108x12 : List AOper := [
  Mc 4 (.int .i64 5)]
def f108x13 : List AOper := [
  Bc 44 .add 34 1,
  Mv 34 44]
def f108x14L : ACode := (.seq (.region f108x9 false) (.seq (.cond (.t 35) .skip (.exit 0)) (.seq (.block 1 (.seq (.region f108x10 false) (.seq (.region f108x11 false) (.cond (.t 43) (.seq (.region f108x12 false) .ret) .skip)))) (.region f108x13 false))))
def f108x15 : List AOper := [
  Mc 8 (.int .i64 1)]
def f108x16 : List AOper := [
  Mv 45 8,
  Fa 46 1 5,
  Ld 47 46,
  Ln 48 0 47,
  Bi 49 .lss 45 48]
def f108x17 : List AOper := [
  Fa 52 0 5,
  Ld 53 52,
  Af [1] (Ct 54 117 [53]),
  Mv 55 54,
  Gt 55 (Fa 56 1 5),
  Af [2, 1] (Gt 55 (Ld 57 56)),
  Gt 55 (Mv 58 8),
  Af [5, 2, 1] (Gt 55 (Ia 59 1 57 58)),
  Af [7, 5, 2, 1] (Gt 55 (Ld 60 59)),
  Gt 55 (Fa 61 1 5),
  Af [2, 1] (Gt 55 (Ld 62 61)),
  Gt 55 (Mv 63 8),
  Gt 55 (Bc 64 .sub 63 1),
  Af [10, 2, 1] (Gt 55 (Ia 65 1 62 64)),
  Af [13, 10, 2, 1] (Gt 55 (Ld 66 65)),
  Gt 55 (Bi 67 .leq 60 66),
  Pa 68 55 67]
def f108x18 : List AOper := [
  Mc 4 (.int .i64 16)]
def f108x19 : List AOper := [
  Mv 50 8,
  Bc 51 .add 50 1,
  Mv 8 51]
def f108x20L : ACode := (.seq (.seq (.region f108x16 false) (.cond (.t 49) .skip (.exit 2))) (.seq (.block 3 (.seq (.region f108x17 true) (.cond (.t 68) (.seq (.region f108x18 false) .ret) .skip))) (.region f108x19 false)))
def f108x21 : List AOper := [
  Fa 69 0 5,
  Ld 70 69,
  Ct 71 118 [70]]
def f108x22 : List AOper := [
  Mv 72 0,
  Mv 73 1,
  Op 74 (.slc 2 (.t 72) none (some (.t 73)) none),
  Ln 75 0 74,
  Mc 76 (.int .i64 0)]
def f108x23 : List AOper := [
  Bi 77 .lss 76 75]
def f108x24 : List AOper := [
  Ia 78 2 74 76,
  Ls 79 2 78,
  Op 10 (.alloc (.agg [.int .i64 0, .con (.slice none 0 0)])),
  St 2 10 79]
def f108x25 : List AOper := [
  Fa 80 0 10,
  Ld 81 80,
  Ct 82 118 [81],
  Un 83 .not 82]
def f108x26 : List AOper := [
  Mc 4 (.int .i64 1)]
def f108x27 : List AOper := [
  Bc 84 .add 76 1,
  Mv 76 84]
def f108x28L : ACode := (.seq (.region f108x23 false) (.seq (.cond (.t 77) .skip (.exit 4)) (.seq (.block 5 (.seq (.region f108x24 false) (.seq (.region f108x25 false) (.cond (.t 83) (.seq (.region f108x26 false) .ret) .skip)))) (.region f108x27 false))))
def f108x29 : List AOper := [
  Mv 85 1,
  Bc 86 .gtr 85 0,
  Mv 87 86,
  Gt 87 (Fa 88 0 5),
  Gt 87 (Ld 89 88),
  Af [4] (Gt 87 (Ct 90 117 [89])),
  Gt 87 (Un 91 .not 90),
  Pa 92 87 91,
  Mv 93 92,
  Gt 93 (Mv 94 0),
  Gt 93 (Mv 95 1),
  Gt 93 (Bc 96 .sub 95 1),
  Af [5, 4] (Gt 93 (Ia 97 2 94 96)),
  Gt 93 (Fa 98 0 97),
  Af [12, 5, 4] (Gt 93 (Ld 99 98)),
  Gt 93 (Fa 100 0 5),
  Af [5, 4] (Gt 93 (Ld 101 100)),
  Gt 93 (Bi 102 .eql 99 101),
  Pa 103 93 102,
  Mv 104 103,
  Gt 104 (Mv 105 0),
  Gt 104 (Mv 106 1),
  Gt 104 (Bc 107 .sub 106 1),
  Af [14, 16, 12, 5, 4] (Gt 104 (Ia 108 2 105 107)),
  Gt 104 (Fa 109 1 108),
  Af [23, 14, 16, 12, 5, 4] (Gt 104 (Ld 110 109)),
  Af [25, 23, 14, 16, 12, 5, 4] (Gt 104 (Ln 111 0 110)),
  Gt 104 (Bc 112 .lss 111 255),
  Pa 113 104 112]
def f108x30 : List AOper := [
  Mc 4 (.int .i64 1)]
def f108x31 : List AOper := [
  Mc 4 (.int .i64 0)]
def f108 : AFunc := ⟨114, 2, false, [.t 4], (.seq (.region f108x0 false) (.seq (.region f108x1 false) (.seq (.seq (.region f108x2 false) (.cond (.t 22) (.seq (.region f108x3 false) .ret) .skip)) (.seq (.seq (.region f108x4 false) (.cond (.t 26) (.seq (.region f108x5 false) .ret) .skip)) (.seq (.seq (.region f108x6 false) (.cond (.t 30) (.seq (.region f108x7 false) .ret) .skip)) (.seq (.seq (.region f108x8 false) (.block 0 (.loop f108x14L))) (.seq (.seq (.region f108x15 false) (.block 2 (.loop f108x20L))) (.seq (.seq (.region f108x21 false) (.cond (.t 71) (.seq (.region f108x22 false) (.block 4 (.loop f108x28L))) .skip)) (.seq (.seq (.region f108x29 true) (.cond (.t 113) (.seq (.region f108x30 false) .ret) .skip)) (.seq (.region f108x31 false) .ret))))))))))⟩
def f108x14LH : List AItem := [.inLoop f108x14L, .inBlock 0, .code (.seq (.seq (.region f108x15 false) (.block 2 (.loop f108x20L))) (.seq (.seq (.region f108x21 false) (.cond (.t 71) (.seq (.region f108x22 false) (.block 4 (.loop f108x28L))) .skip)) (.seq (.seq (.region f108x29 true) (.cond (.t 113) (.seq (.region f108x30 false) .ret) .skip)) (.seq (.region f108x31 false) .ret))))]
def f108x20LH : List AItem := [.inLoop f108x20L, .inBlock 2, .code (.seq (.seq (.region f108x21 false) (.cond (.t 71) (.seq (.region f108x22 false) (.block 4 (.loop f108x28L))) .skip)) (.seq (.seq (.region f108x29 true) (.cond (.t 113) (.seq (.region f108x30 false) .ret) .skip)) (.seq (.region f108x31 false) .ret)))]
def f108x28LH : List AItem := [.inLoop f108x28L, .inBlock 4, .code (.seq (.seq (.region f108x29 true) (.cond (.t 113) (.seq (.region f108x30 false) .ret) .skip)) (.seq (.region f108x31 false) .ret))]
def f109x0 : List AOper := [
  Mc 6 (.con (.slice none 0 0))]
def f109x1 : List AOper := [
  Mv 7 0,
  Mv 8 1,
  Op 9 (.minmax true [(.t 8), (.c (.int .i64 0))]),
  Op 10 (.minmax false [(.t 9), (.c (.int .i64 8))]),
  Mv 11 2,
  Ct 12 120 [10, 11],
  Op 13 (.bsl 1 [.con (.slice none 0 0)] 2 [0, 1] [(.t 7), (.t 12)]),
  Ct 14 119 [13],
  Mv 6 14]
def f109 : AFunc := ⟨15, 3, false, [.t 6], (.seq (.region f109x0 false) (.seq (.region f109x1 false) .ret))⟩
def f110x0 : List AOper := [
  Mc 6 (.int .u64 0),
  Mc 7 (.bool false)]
def f110x1 : List AOper := [
  Mv 11 2,
  Bc 12 .lss 11 0,
  Mv 13 12,
  Gf 13 (Mv 14 2),
  Gf 13 (Bc 15 .gtr 14 8),
  Po 16 13 15,
  Mv 17 16,
  Gf 17 (Mv 18 1),
  Gf 17 (Bc 19 .lss 18 0),
  Po 20 17 19,
  Mv 21 20,
  Gf 21 (Mv 22 1),
  Gf 21 (Mv 23 0),
  Gf 21 (Ln 24 0 23),
  Gf 21 (Mv 25 2),
  Gf 21 (Bi 26 .sub 24 25),
  Gf 21 (Bi 27 .gtr 22 26),
  Po 28 21 27]
def f110x2 : List AOper := [
  Mc 6 (.int .u64 0),
  Mc 7 (.bool false)]
def f110x3 : List AOper := [
  Mc 8 (.int .u64 0)]
def f110x4 : List AOper := [
  Mv 29 0,
  Mv 30 1,
  Mv 31 1,
  Mv 32 2,
  Bi 33 .add 31 32,
  Op 34 (.slc 1 (.t 29) (some (.t 30)) (some (.t 33)) none),
  Ln 35 0 34,
  Mc 36 (.int .i64 0)]
def f110x5 : List AOper := [
  Bi 37 .lss 36 35]
def f110x6 : List AOper := [
  Ia 38 1 34 36,
  Ld 39 38,
  Mv 10 39]
def f110x7 : List AOper := [
  Mv 40 8,
  Op 41 (.bin .shl (.t 40) (.c (.int .u64 8))),
  Mv 42 10,
  Cv 43 .u64 42,
  Bi 44 .or 41 43,
  Mv 8 44]
def f110x8 : List AOper := [
  Bc 45 .add 36 1,
  Mv 36 45]
def f110x9L : ACode := (.seq (.region f110x5 false) (.seq (.cond (.t 37) .skip (.exit 0)) (.seq (.block 1 (.seq (.region f110x6 false) (.region f110x7 false))) (.region f110x8 false))))
def f110x10 : List AOper := [
  Mv 46 8,
  Mv 6 46,
  Mc 7 (.bool true)]
def f110 : AFunc := ⟨47, 3, false, [.t 6, .t 7], (.seq (.region f110x0 false) (.seq (.seq (.region f110x1 false) (.cond (.t 28) (.seq (.region f110x2 false) .ret) .skip)) (.seq (.region f110x3 false) (.seq (.seq (.region f110x4 false) (.block 0 (.loop f110x9L))) (.seq (.region f110x10 false) .ret)))))⟩
def f110x9LH : List AItem := [.inLoop f110x9L, .inBlock 0, .code (.seq (.region f110x10 false) .ret)]
def f111x0 : List AOper := [
  Mc 4 (.con (.slice none 0 0)),
  Mc 5 (.bool false)]
def f111x1 : List AOper := [
  Mc 6 (.con (.slice none 0 0))]
def f111x2 : List AOper := [
  Mv 10 0,
  Ln 11 0 10,
  Bc 12 .gtr 11 0]
def f111x3 : List AOper := [
  Mv 13 0,
  Ln 14 0 13,
  Bc 15 .lss 14 2,
  Mv 16 15,
  Gf 16 (Mv 17 0),
  Gf 16 (Op 18 (.iadr 1 (.t 17) (.c (.int .i64 1)))),
  Gf 16 (Ld 19 18),
  Gf 16 (Op 20 (.bin .eql (.t 19) (.c (.int .u8 0)))),
  Po 21 16 20,
  Mv 22 21,
  Gf 22 (Mv 23 0),
  Gf 22 (Ln 24 0 23),
  Gf 22 (Mv 25 0),
  Gf 22 (Op 26 (.iadr 1 (.t 25) (.c (.int .i64 1)))),
  Gf 22 (Ld 27 26),
  Gf 22 (Cv 28 .i64 27),
  Gf 22 (Mv 29 1),
  Gf 22 (Bi 30 .mul 28 29),
  Gf 22 (Op 31 (.bin .add (.c (.int .i64 2)) (.t 30))),
  Gf 22 (Bi 32 .lss 24 31),
  Po 33 22 32]
def f111x4 : List AOper := [
  Mc 4 (.con (.slice none 0 0)),
  Mc 5 (.bool false)]
def f111x5 : List AOper := [
  Mv 34 0,
  Op 35 (.iadr 1 (.t 34) (.c (.int .i64 0))),
  Ld 36 35,
  Cv 37 .i64 36,
  Op 38 (.build [.int .i64 0, .con (.slice none 0 0)] [(0, 1)] [(.t 37)]),
  Op 7 (.alloc (.agg [.int .i64 0, .con (.slice none 0 0)])),
  St 2 7 38]
def f111x6 : List AOper := [
  Mv 39 0,
  Op 40 (.iadr 1 (.t 39) (.c (.int .i64 1))),
  Ld 41 40,
  Cv 42 .i64 41,
  Mv 8 42]
def f111x7 : List AOper := [
  Mv 43 8,
  Mc 44 (.int .i64 0)]
def f111x8 : List AOper := [
  Bi 45 .lss 44 43]
def f111x9 : List AOper := [
  Mv 46 44,
  Mv 9 46]
def f111x10 : List AOper := [
  Fa 47 1 7,
  Ld 48 47,
  Mv 49 0,
  Mv 50 9,
  Mv 51 1,
  Bi 52 .mul 50 51,
  Op 53 (.bin .add (.c (.int .i64 2)) (.t 52)),
  Mv 54 1,
  Ct 55 93 [49, 53, 54],
  Af [8] (Op 56 (.bsl 1 [.int .i64 0] 1 [0] [(.t 55)])),
  Af [1, 9, 8] (Ap 57 1 8 48 56),
  Fa 58 1 7,
  Af [10, 1, 9, 8] (St 1 58 57)]
def f111x11 : List AOper := [
  Bc 59 .add 44 1,
  Mv 44 59]
def f111x12L : ACode := (.seq (.region f111x8 false) (.seq (.cond (.t 45) .skip (.exit 2)) (.seq (.block 3 (.seq (.region f111x9 false) (.region f111x10 true))) (.region f111x11 false))))
def f111x13 : List AOper := [
  Mv 60 6,
  Ls 61 2 7,
  Op 62 (.bsl 2 [.int .i64 0, .con (.slice none 0 0)] 1 [0] [(.t 61)]),
  Ap 63 2 32 60 62,
  Mv 6 63]
def f111x14 : List AOper := [
  Mv 64 0,
  Mv 65 8,
  Mv 66 1,
  Bi 67 .mul 65 66,
  Op 68 (.bin .add (.c (.int .i64 2)) (.t 67)),
  Op 69 (.slc 1 (.t 64) (some (.t 68)) none none),
  Mv 0 69]
def f111x15L : ACode := (.seq (.seq (.region f111x2 false) (.cond (.t 12) .skip (.exit 0))) (.block 1 (.seq (.seq (.region f111x3 false) (.cond (.t 33) (.seq (.region f111x4 false) .ret) .skip)) (.seq (.region f111x5 false) (.seq (.region f111x6 false) (.seq (.seq (.region f111x7 false) (.block 2 (.loop f111x12L))) (.seq (.region f111x13 false) (.region f111x14 false))))))))
def f111x16 : List AOper := [
  Mv 70 6,
  Mv 4 70,
  Mc 5 (.bool true)]
def f111 : AFunc := ⟨71, 2, false, [.t 4, .t 5], (.seq (.region f111x0 false) (.seq (.region f111x1 false) (.seq (.block 0 (.loop f111x15L)) (.seq (.region f111x16 false) .ret))))⟩
def f111x15LH : List AItem := [.inLoop f111x15L, .inBlock 0, .code (.seq (.region f111x16 false) .ret)]
def f111x12LH : List AItem := [.inLoop f111x12L, .inBlock 2, .code (.seq (.region f111x13 false) (.region f111x14 false)), .inBlock 1, .inLoop f111x15L, .inBlock 0, .code (.seq (.region f111x16 false) .ret)]
def f112x0 : List AOper := [
  Mc 2 (.con (.slice none 0 0)),
  Mc 3 (.bool false)]
def f112x1 : List AOper := [
  Mc 4 (.con (.slice none 0 0))]
def f112x2 : List AOper := [
  Mc 5 (.int .i64 0)]
def f112x3 : List AOper := [
  Mv 6 5,
  Bc 7 .add 6 4,
  Mv 8 0,
  Ln 9 0 8,
  Bi 10 .leq 7 9]
def f112x4 : List AOper := [
  Mv 13 4,
  Mv 14 0,
  Mv 15 5,
  Ca 16 93 [(.t 14), (.t 15), (.c (.int .i64 4))],
  Cv 17 .u32 16,
  Op 18 (.bsl 1 [.int .u32 0] 1 [0] [(.t 17)]),
  Ap 19 1 4 13 18,
  Mv 4 19]
def f112x5 : List AOper := [
  Mv 11 5,
  Bc 12 .add 11 4,
  Mv 5 12]
def f112x6L : ACode := (.seq (.seq (.region f112x3 false) (.cond (.t 10) .skip (.exit 0))) (.seq (.block 1 (.region f112x4 false)) (.region f112x5 false)))
def f112x7 : List AOper := [
  Mv 20 4,
  Mv 21 0,
  Ln 22 0 21,
  Bc 23 .gtr 22 0,
  Mv 24 23,
  Gt 24 (Mv 25 0),
  Gt 24 (Ln 26 0 25),
  Gt 24 (Bc 27 .rem 26 4),
  Gt 24 (Bc 28 .eql 27 0),
  Pa 29 24 28,
  Mv 2 20,
  Mv 3 29]
def f112 : AFunc := ⟨30, 1, false, [.t 2, .t 3], (.seq (.region f112x0 false) (.seq (.region f112x1 false) (.seq (.seq (.region f112x2 false) (.block 0 (.loop f112x6L))) (.seq (.region f112x7 false) .ret))))⟩
def f112x6LH : List AItem := [.inLoop f112x6L, .inBlock 0, .code (.seq (.region f112x7 false) .ret)]
def f113x0 : List AOper := [
  Mc 6 (.int .u64 0),
  Mc 7 (.bool false)]
def f113x1 : List AOper := [
  Mv 11 2,
  Bc 12 .lss 11 0,
  Mv 13 12,
  Gf 13 (Mv 14 2),
  Gf 13 (Bc 15 .gtr 14 8),
  Po 16 13 15,
  Mv 17 16,
  Gf 17 (Mv 18 1),
  Gf 17 (Bc 19 .lss 18 0),
  Po 20 17 19,
  Mv 21 20,
  Gf 21 (Mv 22 1),
  Gf 21 (Mv 23 0),
  Gf 21 (Ln 24 0 23),
  Gf 21 (Mv 25 2),
  Gf 21 (Bi 26 .sub 24 25),
  Gf 21 (Bi 27 .gtr 22 26),
  Po 28 21 27]
def f113x2 : List AOper := [
  Mc 6 (.int .u64 0),
  Mc 7 (.bool false)]
def f113x3 : List AOper := [
  Mc 8 (.int .u64 0)]
def f113x4 : List AOper := [
  Mv 29 0,
  Mv 30 1,
  Mv 31 1,
  Mv 32 2,
  Bi 33 .add 31 32,
  Op 34 (.slc 1 (.t 29) (some (.t 30)) (some (.t 33)) none),
  Ln 35 0 34,
  Mc 36 (.int .i64 0)]
def f113x5 : List AOper := [
  Bi 37 .lss 36 35]
def f113x6 : List AOper := [
  Ia 38 1 34 36,
  Ld 39 38,
  Mv 10 39]
def f113x7 : List AOper := [
  Mv 40 8,
  Op 41 (.bin .mul (.t 40) (.c (.int .u64 256))),
  Mv 42 10,
  Cv 43 .u64 42,
  Bi 44 .add 41 43,
  Mv 8 44]
def f113x8 : List AOper := [
  Bc 45 .add 36 1,
  Mv 36 45]
def f113x9L : ACode := (.seq (.region f113x5 false) (.seq (.cond (.t 37) .skip (.exit 0)) (.seq (.block 1 (.seq (.region f113x6 false) (.region f113x7 false))) (.region f113x8 false))))
def f113x10 : List AOper := [
  Mv 46 8,
  Mv 6 46,
  Mc 7 (.bool true)]
def f113 : AFunc := ⟨47, 3, false, [.t 6, .t 7], (.seq (.region f113x0 false) (.seq (.seq (.region f113x1 false) (.cond (.t 28) (.seq (.region f113x2 false) .ret) .skip)) (.seq (.region f113x3 false) (.seq (.seq (.region f113x4 false) (.block 0 (.loop f113x9L))) (.seq (.region f113x10 false) .ret)))))⟩
def f113x9LH : List AItem := [.inLoop f113x9L, .inBlock 0, .code (.seq (.region f113x10 false) .ret)]
def f114x0 : List AOper := [
  Mc 4 (.con (.slice none 0 0)),
  Mc 5 (.bool false)]
def f114x1 : List AOper := [
  Mc 6 (.con (.slice none 0 0))]
def f114x2 : List AOper := [
  Mc 7 (.int .i64 0)]
def f114x3 : List AOper := [
  Mv 11 7,
  Mv 12 0,
  Ln 13 0 12,
  Bi 14 .lss 11 13]
def f114x4 : List AOper := [
  Mv 15 7,
  Bc 16 .add 15 2,
  Mv 17 0,
  Ln 18 0 17,
  Bi 19 .gtr 16 18]
def f114x5 : List AOper := [
  Mc 4 (.con (.slice none 0 0)),
  Mc 5 (.bool false)]
def f114x6 : List AOper := [
  Mv 20 0,
  Mv 21 7,
  Ia 22 1 20 21,
  Ld 23 22,
  Cv 24 .i64 23,
  Op 25 (.build [.int .i64 0, .con (.slice none 0 0)] [(0, 1)] [(.t 24)]),
  Op 8 (.alloc (.agg [.int .i64 0, .con (.slice none 0 0)])),
  St 2 8 25]
def f114x7 : List AOper := [
  Mv 26 0,
  Mv 27 7,
  Bc 28 .add 27 1,
  Ia 29 1 26 28,
  Af [3] (Ld 30 29),
  Cv 31 .i64 30,
  Mv 32 1,
  Ct 33 92 [32],
  Mv 9 31,
  Mv 10 33]
def f114x8 : List AOper := [
  Mv 34 7,
  Bc 35 .add 34 2,
  Mv 7 35]
def f114x9 : List AOper := [
  Mv 36 9,
  Bc 37 .eql 36 0,
  Mv 38 37,
  Gf 38 (Mv 39 7),
  Gf 38 (Mv 40 9),
  Gf 38 (Mv 41 10),
  Gf 38 (Bi 42 .mul 40 41),
  Gf 38 (Bi 43 .add 39 42),
  Gf 38 (Mv 44 0),
  Gf 38 (Ln 45 0 44),
  Gf 38 (Bi 46 .gtr 43 45),
  Po 47 38 46]
def f114x10 : List AOper := [
  Mc 4 (.con (.slice none 0 0)),
  Mc 5 (.bool false)]
def f114x11 : List AOper := [
  Mv 48 9,
  Mc 49 (.int .i64 0)]
def f114x12 : List AOper := [
  Bi 50 .lss 49 48]
def f114x13 : List AOper := [
  Fa 51 1 8,
  Ld 52 51,
  Mv 53 0,
  Mv 54 7,
  Mv 55 10,
  Ct 56 100 [53, 54, 55],
  Af [5] (Op 57 (.bsl 1 [.int .i64 0] 1 [0] [(.t 56)])),
  Af [1, 6, 5] (Ap 58 1 8 52 57),
  Fa 59 1 8,
  Af [7, 1, 6, 5] (St 1 59 58)]
def f114x14 : List AOper := [
  Mv 60 7,
  Mv 61 10,
  Bi 62 .add 60 61,
  Mv 7 62]
def f114x15 : List AOper := [
  Bc 63 .add 49 1,
  Mv 49 63]
def f114x16L : ACode := (.seq (.region f114x12 false) (.seq (.cond (.t 50) .skip (.exit 2)) (.seq (.block 3 (.seq (.region f114x13 true) (.region f114x14 false))) (.region f114x15 false))))
def f114x17 : List AOper := [
  Mv 64 6,
  Ls 65 2 8,
  Op 66 (.bsl 2 [.int .i64 0, .con (.slice none 0 0)] 1 [0] [(.t 65)]),
  Ap 67 2 32 64 66,
  Mv 6 67]
def f114x18L : ACode := (.seq (.seq (.region f114x3 false) (.cond (.t 14) .skip (.exit 0))) (.block 1 (.seq (.seq (.region f114x4 false) (.cond (.t 19) (.seq (.region f114x5 false) .ret) .skip)) (.seq (.region f114x6 false) (.seq (.region f114x7 true) (.seq (.region f114x8 false) (.seq (.seq (.region f114x9 false) (.cond (.t 47) (.seq (.region f114x10 false) .ret) .skip)) (.seq (.seq (.region f114x11 false) (.block 2 (.loop f114x16L))) (.region f114x17 false)))))))))
def f114x19 : List AOper := [
  Mv 68 6,
  Mv 4 68,
  Mc 5 (.bool true)]
def f114 : AFunc := ⟨69, 2, false, [.t 4, .t 5], (.seq (.region f114x0 false) (.seq (.region f114x1 false) (.seq (.seq (.region f114x2 false) (.block 0 (.loop f114x18L))) (.seq (.region f114x19 false) .ret))))⟩
def f114x18LH : List AItem := [.inLoop f114x18L, .inBlock 0, .code (.seq (.region f114x19 false) .ret)]
def f114x16LH : List AItem := [.inLoop f114x16L, .inBlock 2, .code (.region f114x17 false), .inBlock 1, .inLoop f114x18L, .inBlock 0, .code (.seq (.region f114x19 false) .ret)]
def f115x0 : List AOper := [
  Mc 2 (.con (.slice none 0 0)),
  Mc 3 (.bool false)]
def f115x1 : List AOper := [
  Mc 4 (.con (.slice none 0 0))]
def f115x2 : List AOper := [
  Mc 5 (.int .i64 0)]
def f115x3 : List AOper := [
  Mv 6 5,
  Bc 7 .add 6 4,
  Mv 8 0,
  Ln 9 0 8,
  Bi 10 .leq 7 9]
def f115x4 : List AOper := [
  Mv 13 4,
  Mv 14 0,
  Mv 15 5,
  Ca 16 100 [(.t 14), (.t 15), (.c (.int .i64 4))],
  Cv 17 .u32 16,
  Op 18 (.bsl 1 [.int .u32 0] 1 [0] [(.t 17)]),
  Ap 19 1 4 13 18,
  Mv 4 19]
def f115x5 : List AOper := [
  Mv 11 5,
  Bc 12 .add 11 4,
  Mv 5 12]
def f115x6L : ACode := (.seq (.seq (.region f115x3 false) (.cond (.t 10) .skip (.exit 0))) (.seq (.block 1 (.region f115x4 false)) (.region f115x5 false)))
def f115x7 : List AOper := [
  Mv 20 4,
  Mv 21 0,
  Ln 22 0 21,
  Bc 23 .gtr 22 0,
  Mv 24 23,
  Gt 24 (Mv 25 0),
  Gt 24 (Ln 26 0 25),
  Gt 24 (Bc 27 .rem 26 4),
  Gt 24 (Bc 28 .eql 27 0),
  Pa 29 24 28,
  Mv 2 20,
  Mv 3 29]
def f115 : AFunc := ⟨30, 1, false, [.t 2, .t 3], (.seq (.region f115x0 false) (.seq (.region f115x1 false) (.seq (.seq (.region f115x2 false) (.block 0 (.loop f115x6L))) (.seq (.region f115x7 false) .ret))))⟩
def f115x6LH : List AItem := [.inLoop f115x6L, .inBlock 0, .code (.seq (.region f115x7 false) .ret)]
def f116x0 : List AOper := [
  Op 3 (.box (.t 0)),
  Op 6 (.alloc (.agg [.int .i64 0, .con (.slice none 0 0), .int .u32 0, .bool false, .int .i64 0, .bool false, .int .i64 0, .bool false, .bool false, .int .i64 0, .int .u32 0, .con (.slice none 0 0), .bool false, .int .u32 0, .con (.slice none 0 0), .con (.slice none 0 0)]))]
def f116x1 : List AOper := [
  Mv 7 1]
def f116x2 : List AOper := [
  Bc 13 .eql 7 3,
  Mv 12 13]
def f116x3 : List AOper := [
  Mv 14 2,
  Cv 15 .u32 14,
  Fa 16 2 3,
  St 1 16 15]
def f116x4 : List AOper := [
  Bc 18 .eql 7 4,
  Mv 17 18]
def f116x5 : List AOper := [
  Fa 19 3 3,
  ⟨none, .store 1 (.t 19) (.c (.bool true)), none, []⟩]
def f116x6 : List AOper := [
  Mv 20 2,
  Fa 21 4 3,
  St 1 21 20]
def f116x7 : List AOper := [
  Bc 23 .eql 7 5,
  Mv 22 23]
def f116x8 : List AOper := [
  Fa 24 5 3,
  ⟨none, .store 1 (.t 24) (.c (.bool true)), none, []⟩]
def f116x9 : List AOper := [
  Mv 25 2,
  Fa 26 6 3,
  St 1 26 25]
def f116x10 : List AOper := [
  Fa 8 12 3,
  ⟨none, .store 1 (.t 8) (.c (.bool true)), none, []⟩]
def f116x11 : List AOper := [
  Mv 9 2,
  Cv 10 .u32 9,
  Fa 11 13 3,
  St 1 11 10]
def f116x12 : List AOper := [
  Ls 27 16 3,
  St 16 6 27]
def f116 : AFunc := ⟨28, 3, true, [.cell 6 (some 16)], (.seq (.region f116x0 false) (.seq (.seq (.region f116x1 false) (.block 0 (.seq (.region f116x2 false) (.cond (.t 12) (.region f116x3 false) (.seq (.region f116x4 false) (.cond (.t 17) (.seq (.region f116x5 false) (.region f116x6 false)) (.seq (.region f116x7 false) (.cond (.t 22) (.seq (.region f116x8 false) (.region f116x9 false)) (.seq (.region f116x10 false) (.region f116x11 false)))))))))) (.seq (.region f116x12 false) .ret)))⟩
def f117x0 : List AOper := [
  Mc 2 (.bool false)]
def f117x1 : List AOper := [
  Mv 3 0,
  Bc 4 .eql 3 1,
  Mv 5 4,
  Gf 5 (Mv 6 0),
  Gf 5 (Bc 7 .eql 6 4),
  Po 8 5 7,
  Mv 2 8]
def f117 : AFunc := ⟨9, 1, false, [.t 2], (.seq (.region f117x0 false) (.seq (.region f117x1 false) .ret))⟩
def f118x0 : List AOper := [
  Mc 2 (.bool false)]
def f118x1 : List AOper := [
  Mv 3 0,
  Bc 4 .eql 3 3,
  Mv 5 4,
  Gf 5 (Mv 6 0),
  Gf 5 (Bc 7 .eql 6 4),
  Po 8 5 7,
  Mv 2 8]
def f118 : AFunc := ⟨9, 1, false, [.t 2], (.seq (.region f118x0 false) (.seq (.region f118x1 false) .ret))⟩
def f119x0 : List AOper := [
  Mc 2 (.con (.slice none 0 0))]
def f119x1 : List AOper := [
  Mc 3 (.int .i64 0)]
def f119x2 : List AOper := [
  Mv 9 0,
  Ln 10 0 9,
  Mc 11 (.int .i64 0)]
def f119x3 : List AOper := [
  Bi 12 .lss 11 10]
def f119x4 : List AOper := [
  Ia 13 1 9 11,
  Ld 14 13,
  Mv 5 14]
def f119x5 : List AOper := [
  Mv 15 3,
  Mv 16 5,
  Ln 17 0 16,
  Bi 18 .add 15 17,
  Mv 3 18]
def f119x6 : List AOper := [
  Bc 19 .add 11 1,
  Mv 11 19]
def f119x7L : ACode := (.seq (.region f119x3 false) (.seq (.cond (.t 12) .skip (.exit 0)) (.seq (.block 1 (.seq (.region f119x4 false) (.region f119x5 false))) (.region f119x6 false))))
def f119x8 : List AOper := [
  Mv 20 3,
  Op 21 (.mksl 1 1 [.int .u8 0] (.c (.int .i64 0)) (.t 20)),
  Mv 6 21]
def f119x9 : List AOper := [
  Mv 22 0,
  Ln 23 0 22,
  Mc 24 (.int .i64 0)]
def f119x10 : List AOper := [
  Bi 25 .lss 24 23]
def f119x11 : List AOper := [
  Ia 26 1 22 24,
  Ld 27 26,
  Mv 8 27]
def f119x12 : List AOper := [
  Mv 28 6,
  Mv 29 8,
  Ap 30 1 1 28 29,
  Mv 6 30]
def f119x13 : List AOper := [
  Bc 31 .add 24 1,
  Mv 24 31]
def f119x14L : ACode := (.seq (.region f119x10 false) (.seq (.cond (.t 25) .skip (.exit 2)) (.seq (.block 3 (.seq (.region f119x11 false) (.region f119x12 false))) (.region f119x13 false))))
def f119x15 : List AOper := [
  Mv 32 6,
  Mv 2 32]
def f119 : AFunc := ⟨33, 1, false, [.t 2], (.seq (.region f119x0 false) (.seq (.region f119x1 false) (.seq (.seq (.region f119x2 false) (.block 0 (.loop f119x7L))) (.seq (.region f119x8 false) (.seq (.seq (.region f119x9 false) (.block 2 (.loop f119x14L))) (.seq (.region f119x15 false) .ret))))))⟩
def f119x7LH : List AItem := [.inLoop f119x7L, .inBlock 0, .code (.seq (.region f119x8 false) (.seq (.seq (.region f119x9 false) (.block 2 (.loop f119x14L))) (.seq (.region f119x15 false) .ret)))]
def f119x14LH : List AItem := [.inLoop f119x14L, .inBlock 2, .code (.seq (.region f119x15 false) .ret)]
def f120x0 : List AOper := [
  Mc 4 (.con (.slice none 0 0))]
def f120x1 : List AOper := [
  Mc 5 (.con (.slice none 0 0))]
def f120x2 : List AOper := [
  Mv 7 0,
  Bc 8 .sub 7 1,
  Mv 6 8]
def f120x3 : List AOper := [
  Mv 9 6,
  Bc 10 .geq 9 0]
def f120x4 : List AOper := [
  Mv 13 5,
  Mv 14 1,
  Mv 15 6,
  Op 16 (.bin .mul (.c (.int .i64 8)) (.t 15)),
  Bi 17 .shr 14 16,
  Cv 18 .u8 17,
  Op 19 (.bsl 1 [.int .u8 0] 1 [0] [(.t 18)]),
  Ap 20 1 1 13 19,
  Mv 5 20]
def f120x5 : List AOper := [
  Mv 11 6,
  Bc 12 .sub 11 1,
  Mv 6 12]
def f120x6L : ACode := (.seq (.seq (.region f120x3 false) (.cond (.t 10) .skip (.exit 0))) (.seq (.block 1 (.region f120x4 false)) (.region f120x5 false)))
def f120x7 : List AOper := [
  Mv 21 5,
  Mv 4 21]
def f120 : AFunc := ⟨22, 2, false, [.t 4], (.seq (.region f120x0 false) (.seq (.region f120x1 false) (.seq (.seq (.region f120x2 false) (.block 0 (.loop f120x6L))) (.seq (.region f120x7 false) .ret))))⟩
def f120x6LH : List AItem := [.inLoop f120x6L, .inBlock 0, .code (.seq (.region f120x7 false) .ret)]
end Go.AM.IR
namespace Go.AM.IR
def G (f : Nat) : Fun := bif Nat.blt f 87 then (bif Nat.blt f 70 then (bif Nat.blt f 62 then (bif Nat.blt f 58 then (bif Nat.blt f 54 then (bif Nat.blt f 26 then (bif Nat.beq f 21 then .code f21 else .none) else (bif Nat.beq f 26 then .code f26 else .none)) else (bif Nat.blt f 57 then (bif Nat.beq f 54 then .code f54 else .none) else (bif Nat.beq f 57 then .code f57 else .none))) else (bif Nat.blt f 60 then (bif Nat.blt f 59 then (bif Nat.beq f 58 then .code f58 else .none) else (bif Nat.beq f 59 then .code f59 else .none)) else (bif Nat.blt f 61 then (bif Nat.beq f 60 then .code f60 else .none) else (bif Nat.beq f 61 then .code f61 else .none)))) else (bif Nat.blt f 66 then (bif Nat.blt f 64 then (bif Nat.blt f 63 then (bif Nat.beq f 62 then .code f62 else .none) else (bif Nat.beq f 63 then .code f63 else .none)) else (bif Nat.blt f 65 then (bif Nat.beq f 64 then .code f64 else .none) else (bif Nat.beq f 65 then .code f65 else .none))) else (bif Nat.blt f 68 then (bif Nat.blt f 67 then (bif Nat.beq f 66 then .code f66 else .none) else (bif Nat.beq f 67 then .code f67 else .none)) else (bif Nat.blt f 69 then (bif Nat.beq f 68 then .code f68 else .none) else (bif Nat.beq f 69 then .code f69 else .none))))) else (bif Nat.blt f 78 then (bif Nat.blt f 74 then (bif Nat.blt f 72 then (bif Nat.blt f 71 then (bif Nat.beq f 70 then .code f70 else .none) else (bif Nat.beq f 71 then .code f71 else .none)) else (bif Nat.blt f 73 then (bif Nat.beq f 72 then .code f72 else .none) else (bif Nat.beq f 73 then .code f73 else .none))) else (bif Nat.blt f 76 then (bif Nat.blt f 75 then (bif Nat.beq f 74 then .code f74 else .none) else (bif Nat.beq f 75 then .code f75 else .none)) else (bif Nat.blt f 77 then (bif Nat.beq f 76 then .code f76 else .none) else (bif Nat.beq f 77 then .code f77 else .none)))) else (bif Nat.blt f 82 then (bif Nat.blt f 80 then (bif Nat.blt f 79 then (bif Nat.beq f 78 then .code f78 else .none) else (bif Nat.beq f 79 then .code f79 else .none)) else (bif Nat.blt f 81 then (bif Nat.beq f 80 then .code f80 else .none) else (bif Nat.beq f 81 then .code f81 else .none))) else (bif Nat.blt f 84 then (bif Nat.blt f 83 then (bif Nat.beq f 82 then .code f82 else .none) else (bif Nat.beq f 83 then .code f83 else .none)) else (bif Nat.blt f 85 then (bif Nat.beq f 84 then .code f84 else .none) else (bif Nat.blt f 86 then (bif Nat.beq f 85 then .code f85 else .none) else (bif Nat.beq f 86 then .code f86 else .none))))))) else (bif Nat.blt f 104 then (bif Nat.blt f 95 then (bif Nat.blt f 91 then (bif Nat.blt f 89 then (bif Nat.blt f 88 then (bif Nat.beq f 87 then .code f87 else .none) else (bif Nat.beq f 88 then .code f88 else .none)) else (bif Nat.blt f 90 then (bif Nat.beq f 89 then .code f89 else .none) else (bif Nat.beq f 90 then .code f90 else .none))) else (bif Nat.blt f 93 then (bif Nat.blt f 92 then (bif Nat.beq f 91 then .code f91 else .none) else (bif Nat.beq f 92 then .code f92 else .none)) else (bif Nat.blt f 94 then (bif Nat.beq f 93 then .code f93 else .none) else (bif Nat.beq f 94 then .code f94 else .none)))) else (bif Nat.blt f 99 then (bif Nat.blt f 97 then (bif Nat.blt f 96 then (bif Nat.beq f 95 then .code f95 else .none) else (bif Nat.beq f 96 then .code f96 else .none)) else (bif Nat.blt f 98 then (bif Nat.beq f 97 then .code f97 else .none) else (bif Nat.beq f 98 then .code f98 else .none))) else (bif Nat.blt f 101 then (bif Nat.blt f 100 then (bif Nat.beq f 99 then .code f99 else .none) else (bif Nat.beq f 100 then .code f100 else .none)) else (bif Nat.blt f 102 then (bif Nat.beq f 101 then .code f101 else .none) else (bif Nat.blt f 103 then (bif Nat.beq f 102 then .code f102 else .none) else (bif Nat.beq f 103 then .code f103 else .none)))))) else (bif Nat.blt f 112 then (bif Nat.blt f 108 then (bif Nat.blt f 106 then (bif Nat.blt f 105 then (bif Nat.beq f 104 then .code f104 else .none) else (bif Nat.beq f 105 then .code f105 else .none)) else (bif Nat.blt f 107 then (bif Nat.beq f 106 then .code f106 else .none) else (bif Nat.beq f 107 then .code f107 else .none))) else (bif Nat.blt f 110 then (bif Nat.blt f 109 then (bif Nat.beq f 108 then .code f108 else .none) else (bif Nat.beq f 109 then .code f109 else .none)) else (bif Nat.blt f 111 then (bif Nat.beq f 110 then .code f110 else .none) else (bif Nat.beq f 111 then .code f111 else .none)))) else (bif Nat.blt f 116 then (bif Nat.blt f 114 then (bif Nat.blt f 113 then (bif Nat.beq f 112 then .code f112 else .none) else (bif Nat.beq f 113 then .code f113 else .none)) else (bif Nat.blt f 115 then (bif Nat.beq f 114 then .code f114 else .none) else (bif Nat.beq f 115 then .code f115 else .none))) else (bif Nat.blt f 118 then (bif Nat.blt f 117 then (bif Nat.beq f 116 then .code f116 else .none) else (bif Nat.beq f 117 then .code f117 else .none)) else (bif Nat.blt f 119 then (bif Nat.beq f 118 then .code f118 else .none) else (bif Nat.blt f 120 then (bif Nat.beq f 119 then .code f119 else .none) else (bif Nat.beq f 120 then .code f120 else .none)))))))
end Go.AM.IR
namespace Go.AM.IR
def encI (x : Int) : List AV := [.int .i64 x]
def encU (x : Int) : List AV := [.int .u32 x]
structure Seg where
  kind : Int
  as : List Int
def Seg.enc (s : Seg) : List AV := [.int .i64 s.kind, .sl 1 (s.as.map encI)]
structure TLV where
  kind : Int
  value : List UInt8
def TLV.enc (s : TLV) : List AV := [.int .i64 s.kind, .sl 1 (byteCells s.value)]
structure Attrs where
  origin : Int
  path : List Seg
  nextHop : Int
  hasMED : Bool
  med : Int
  hasPref : Bool
  pref : Int
  atomic : Bool
  hasAggr : Bool
  aggrAS : Int
  aggrAddr : Int
  comms : List Int
  hasOrig : Bool
  orig : Int
  clusters : List Int
  unknown : List TLV
def Attrs.enc (a : Attrs) : List AV := [.int .i64 a.origin, .sl 2 (a.path.map Seg.enc), .int .u32 a.nextHop, .bool a.hasMED, .int .i64 a.med, .bool a.hasPref, .int .i64 a.pref, .bool a.atomic, .bool a.hasAggr, .int .i64 a.aggrAS, .int .u32 a.aggrAddr,
  .sl 1 (a.comms.map encU), .bool a.hasOrig, .int .u32 a.orig, .sl 1 (a.clusters.map encU), .sl 2 (a.unknown.map TLV.enc)]
structure PVRoute where
  paddr : Int
  plen : Int
  attrs : Attrs
  peer : Int
  kind : Int
  router : Int
  stale : Bool
def PVRoute.enc (r : PVRoute) : List AV := [.int .u32 r.paddr, .int .i64 r.plen,
  .int .i64 r.attrs.origin, .sl 2 (r.attrs.path.map Seg.enc), .int .u32 r.attrs.nextHop, .bool r.attrs.hasMED, .int .i64 r.attrs.med, .bool r.attrs.hasPref, .int .i64 r.attrs.pref, .bool r.attrs.atomic, .bool r.attrs.hasAggr, .int .i64 r.attrs.aggrAS, .int .u32 r.attrs.aggrAddr,
  .sl 1 (r.attrs.comms.map encU), .bool r.attrs.hasOrig, .int .u32 r.attrs.orig, .sl 1 (r.attrs.clusters.map encU), .sl 2 (r.attrs.unknown.map TLV.enc),
  .int .i64 r.peer, .int .i64 r.kind, .int .u32 r.router, .bool r.stale]
structure IGP where
  addr : Int
  cost : Int
def IGP.enc (c : IGP) : List AV := [.int .u32 c.addr, .int .i64 c.cost]
theorem pureLL_map {α : Type} {f : α → List AV} (h : ∀ x, pureL (f x) = true) : ∀ l : List α, pureLL (l.map f) = true
  | [] => rfl
  | x :: r => by simp only [List.map_cons, pureLL, h x, pureLL_map h r, Bool.and_self]
theorem pureLL_bytes : ∀ l : List UInt8, pureLL (byteCells l) = true := fun l => pureLL_map (f := fun b : UInt8 => [AV.int .u8 (b.toNat : Int)]) (fun _ => rfl) l
@[simp] theorem pure_encI (l : List Int) : pureLL (l.map encI) = true := pureLL_map (fun _ => rfl) l
@[simp] theorem pure_encU (l : List Int) : pureLL (l.map encU) = true := pureLL_map (fun _ => rfl) l
theorem Seg.pure (s : Seg) : pureL s.enc = true := by simp [Seg.enc, pureL, AV.pure]
@[simp] theorem pure_segs (l : List Seg) : pureLL (l.map Seg.enc) = true := pureLL_map Seg.pure l
theorem TLV.pure (s : TLV) : pureL s.enc = true := by simp [TLV.enc, pureL, AV.pure, pureLL_bytes]
@[simp] theorem pure_tlvs (l : List TLV) : pureLL (l.map TLV.enc) = true := pureLL_map TLV.pure l
@[simp] theorem Attrs.pure (s : Attrs) : pureL s.enc = true := by simp [Attrs.enc, pureL, AV.pure]
@[simp] theorem PVRoute.pure (s : PVRoute) : pureL s.enc = true := by simp [PVRoute.enc, pureL, AV.pure]
@[simp] theorem pure_routes (l : List PVRoute) : pureLL (l.map PVRoute.enc) = true := pureLL_map PVRoute.pure l
@[simp] theorem pure_igps (l : List IGP) : pureLL (l.map IGP.enc) = true := pureLL_map (fun _ => rfl) l
end Go.AM.IR
set_option maxHeartbeats 4000000
set_option maxRecDepth 20000
namespace Go.AM.IR
theorem byte_step (acc : List UInt8) (x j : Nat) (i : Int) (hi : i = j) : byteCells acc ++ [[AV.int .u8 (UInt8.ofNat (x / 2 ^ (8 * i).toNat)).toNat]] = byteCells (acc ++ [UInt8.ofNat (x / 256 ^ j)]) := by
  subst hi
  rw [show (8 * (j : Int)).toNat = 8 * j from by omega, pow_256]
  simp [byteCells]
theorem num_loop120 (x : Nat) : ∀ (j : Nat) (acc : List UInt8) (T : List (Nat × AV)) (H : Heap) (c g m : Nat) (key : Nat) (es : List (List AV)) (i : Int) (hk : key = 69) (hi : i = (j : Int) - 1) (hj : j ≤ 8) (hm : m = acc.length) (hes : es = byteCells acc) (ha : acc.length + j < 2 ^ 40),
   Ev G ⟨f120x6LH, ⟨(6, .int .i64 i) :: (1, .int .u64 (x : Int)) :: (5, .vs 69 g m) :: T, (69, some (g, .vec 1 es)) :: H, c⟩, [.t 4], 0⟩ (rB (acc ++ be j x))
  | 0, acc, T, H, c, g, m, key, es, i, hk, hi, hj, hm, hes, ha => by
    refine ev_loop' (W_ok 300 _ _ _ _ ?_)
    repeat' ((conv => whnf); first | refine bslP (by first | rfl | (simp [pureL, pureLL, AV.pure]; done) | fail) rfl ?_ | refine TakeC.full (by first | rfl | omega | (simp; done) | (simp; omega) | fail) ?_ | refine zBs ?_ | refine zBn ?_ | refine zBv rfl rfl ?_ | refine zN ?_ | refine zC ?_ | refine zC4 ?_ | refine zOr16 ?_ | refine zC1 ?_ | refine zByte ?_ | refine zMaxL ?_ | refine zMaxR ?_ | refine zMinL ?_ | refine zMinR ?_ | refine zShr ?_ | refine zC8 ?_ | refine zQ ?_ | refine zR ?_ | refine zS ?_ | refine zA ?_ | refine zM ?_ | refine xr rfl ?_ | refine ai rfl ?_ | refine condT ?_ | refine condF ?_ | refine condG1 ?_ | refine condG0 ?_ | refine cD ?_ | refine dD ?_ | refine cB ?_ | refine dB ?_ | refine cN ?_ | refine dN ?_ | refine cV ?_ | refine dV ?_ | refine cE ?_ | refine dE ?_ | refine condX0 ?_ | refine condX1 ?_ | refine condNot ?_ | refine condAnd ?_ | refine condOr ?_ | refine aO ?_ | refine aB ?_ | refine aR ?_ | refine aR ?_ (by simp; omega) | refine xr (by assumption) ?_ | refine ai (by assumption) ?_ | refine condD (fun h => ?_) (fun h => ?_) | refine condB (fun h => ?_) (fun h => ?_) | refine condN (fun h => ?_) (fun h => ?_) | refine condE (fun h => ?_) (fun h => ?_) | refine condV (fun h => ?_) (fun h => ?_))
    refine ev_retB 69 ⟨_, _, _, rfl, rfl, ?_, ?_⟩
    · simp [hm, be]
    · simp [hes, be]
  | j + 1, acc, T, H, c, g, m, key, es, i, hk, hi, hj, hm, hes, ha => by
    have hel : es.length = acc.length := by simp [hes]
    rw [show acc ++ be (j + 1) x = acc ++ [UInt8.ofNat (x / 256 ^ j)] ++ be j x from by simp [be]]
    refine ev_loop' (W_ok 300 _ _ _ _ ?_)
    repeat' ((conv => whnf); first | refine bslP (by first | rfl | (simp [pureL, pureLL, AV.pure]; done) | fail) rfl ?_ | refine TakeC.full (by first | rfl | omega | (simp; done) | (simp; omega) | fail) ?_ | refine zBs ?_ | refine zBn ?_ | refine zBv rfl rfl ?_ | refine zN ?_ | refine zC ?_ | refine zC4 ?_ | refine zOr16 ?_ | refine zC1 ?_ | refine zByte ?_ | refine zMaxL ?_ | refine zMaxR ?_ | refine zMinL ?_ | refine zMinR ?_ | refine zShr ?_ | refine zC8 ?_ | refine zQ ?_ | refine zR ?_ | refine zS ?_ | refine zA ?_ | refine zM ?_ | refine xr rfl ?_ | refine ai rfl ?_ | refine condT ?_ | refine condF ?_ | refine condG1 ?_ | refine condG0 ?_ | refine cD ?_ | refine dD ?_ | refine cB ?_ | refine dB ?_ | refine cN ?_ | refine dN ?_ | refine cV ?_ | refine dV ?_ | refine cE ?_ | refine dE ?_ | refine condX0 ?_ | refine condX1 ?_ | refine condNot ?_ | refine condAnd ?_ | refine condOr ?_ | refine aO ?_ | refine aB ?_ | refine aR ?_ | refine aR ?_ (by simp; omega) | refine xr (by assumption) ?_ | refine ai (by assumption) ?_ | refine condD (fun h => ?_) (fun h => ?_) | refine condB (fun h => ?_) (fun h => ?_) | refine condN (fun h => ?_) (fun h => ?_) | refine condE (fun h => ?_) (fun h => ?_) | refine condV (fun h => ?_) (fun h => ?_))
    refine ev_keep [6, 1, 5] [69] ?_
    refine num_loop120 x j (acc ++ [UInt8.ofNat (x / 256 ^ j)]) _ _ _ _ _ key _ (i - 1) hk (by omega) (by omega) ?_ ?_ ?_
    · simp [hm]
    · rw [hes]; exact byte_step acc x j i (by omega)
    · simp; omega
theorem number_gives120 (n x : Nat) (hn : n ≤ 8) : Gives G 120 [.int .i64 n, .int .u64 (x : Int)] [] (rB (be n x)) := by
  refine gives_code (F := f120) rfl rfl (W_ok 300 _ _ _ _ ?_)
  repeat' ((conv => whnf); first | refine bslP (by first | rfl | (simp [pureL, pureLL, AV.pure]; done) | fail) rfl ?_ | refine TakeC.full (by first | rfl | omega | (simp; done) | (simp; omega) | fail) ?_ | refine zBs ?_ | refine zBn ?_ | refine zBv rfl rfl ?_ | refine zN ?_ | refine zC ?_ | refine zC4 ?_ | refine zOr16 ?_ | refine zC1 ?_ | refine zByte ?_ | refine zMaxL ?_ | refine zMaxR ?_ | refine zMinL ?_ | refine zMinR ?_ | refine zShr ?_ | refine zC8 ?_ | refine zQ ?_ | refine zR ?_ | refine zS ?_ | refine zA ?_ | refine zM ?_ | refine xr rfl ?_ | refine ai rfl ?_ | refine condT ?_ | refine condF ?_ | refine condG1 ?_ | refine condG0 ?_ | refine cD ?_ | refine dD ?_ | refine cB ?_ | refine dB ?_ | refine cN ?_ | refine dN ?_ | refine cV ?_ | refine dV ?_ | refine cE ?_ | refine dE ?_ | refine condX0 ?_ | refine condX1 ?_ | refine condNot ?_ | refine condAnd ?_ | refine condOr ?_ | refine aO ?_ | refine aB ?_ | refine aR ?_ | refine aR ?_ (by simp; omega) | refine xr (by assumption) ?_ | refine ai (by assumption) ?_ | refine condD (fun h => ?_) (fun h => ?_) | refine condB (fun h => ?_) (fun h => ?_) | refine condN (fun h => ?_) (fun h => ?_) | refine condE (fun h => ?_) (fun h => ?_) | refine condV (fun h => ?_) (fun h => ?_))
  refine ev_nil 69 1 [(5, .vs 69 _ 0)] [] ⟨LeP.nilV _ _ _, trivial⟩ trivial ?_
  refine ev_keep [6, 1, 5] [69] ?_
  exact num_loop120 x n [] _ _ _ _ _ 69 _ _ rfl rfl hn rfl rfl (by simp; omega)
def cat (l : List (List UInt8)) : List UInt8 := l.flatMap id
def bEnc (l : List UInt8) : List AV := [.sl 1 (byteCells l)]
theorem app_loop119 (l : List (List UInt8)) (hc : (cat l).length < 2 ^ 40) (hl : l.length < 2 ^ 40) (ln : Int) (hln : ln = l.length) : ∀ (rest done : List (List UInt8)) (g m : Nat) (es : List (List AV)) (T : List (Nat × AV)) (H : Heap) (c : Nat) (n : Int) (e : l = done ++ rest) (hn : n = done.length) (hm : m = (cat done).length) (hes : es = byteCells (cat done)), Ev G ⟨f119x14LH, ⟨(22, .sl 1 (l.map bEnc)) :: (23, .int .i64 ln) :: (24, .int .i64 n) :: (6, .vs 85 g m) :: T, (85, some (g, .vec 1 es)) :: H, c⟩, [.t 2], 0⟩ (rB (cat l))
  | [], done, g, m, es, T, H, c, n, e, hn, hm, hes => by
    have hd : l.length = done.length := by simp [e]
    have hll : (l.map bEnc).length = l.length := by simp
    obtain rfl : l = done := by simpa using e
    refine ev_loop' (W_ok 300 _ _ _ _ ?_)
    repeat' ((conv => whnf); first | refine bslP (by first | rfl | (simp [pureL, pureLL, AV.pure]; done) | fail) rfl ?_ | refine TakeC.full (by first | rfl | omega | (simp; done) | (simp; omega) | fail) ?_ | refine zBs ?_ | refine zBn ?_ | refine zBv rfl rfl ?_ | refine zN ?_ | refine zC ?_ | refine zC4 ?_ | refine zOr16 ?_ | refine zC1 ?_ | refine zByte ?_ | refine zMaxL ?_ | refine zMaxR ?_ | refine zMinL ?_ | refine zMinR ?_ | refine zShr ?_ | refine zC8 ?_ | refine zQ ?_ | refine zR ?_ | refine zS ?_ | refine zA ?_ | refine zM ?_ | refine xr rfl ?_ | refine ai rfl ?_ | refine condT ?_ | refine condF ?_ | refine condG1 ?_ | refine condG0 ?_ | refine cD ?_ | refine dD ?_ | refine cB ?_ | refine dB ?_ | refine cN ?_ | refine dN ?_ | refine cV ?_ | refine dV ?_ | refine cE ?_ | refine dE ?_ | refine condX0 ?_ | refine condX1 ?_ | refine condNot ?_ | refine condAnd ?_ | refine condOr ?_ | refine aO ?_ | refine aB ?_ | refine aR ?_ | refine aR ?_ (by simp; omega) | refine xr (by assumption) ?_ | refine ai (by assumption) ?_ | refine condD (fun h => ?_) (fun h => ?_) | refine condB (fun h => ?_) (fun h => ?_) | refine condN (fun h => ?_) (fun h => ?_) | refine condE (fun h => ?_) (fun h => ?_) | refine condV (fun h => ?_) (fun h => ?_))
    exact ev_retB 85 ⟨_, _, _, rfl, rfl, hm, hes⟩
  | x :: r, done, g, m, es, T, H, c, n, e, hn, hm, hes => by
    have hd : l.length = done.length + (r.length + 1) := by simp [e]
    have hll : (l.map bEnc).length = l.length := by simp
    have hx : (l.map bEnc)[n.toNat]? = some (bEnc x) := by simp [e, hn]
    have hcl : (cat l).length = (cat done).length + (x.length + (cat r).length) := by rw [e]; simp [cat]
    have hbl := byteCells_length x
    have hel : m = es.length := by rw [hm, hes]; simp
    refine ev_loop' (W_ok 300 _ _ _ _ ?_)
    repeat' ((conv => whnf); first | refine bslP (by first | rfl | (simp [pureL, pureLL, AV.pure]; done) | fail) rfl ?_ | refine TakeC.full (by first | rfl | omega | (simp; done) | (simp; omega) | fail) ?_ | refine zBs ?_ | refine zBn ?_ | refine zBv rfl rfl ?_ | refine zN ?_ | refine zC ?_ | refine zC4 ?_ | refine zOr16 ?_ | refine zC1 ?_ | refine zByte ?_ | refine zMaxL ?_ | refine zMaxR ?_ | refine zMinL ?_ | refine zMinR ?_ | refine zShr ?_ | refine zC8 ?_ | refine zQ ?_ | refine zR ?_ | refine zS ?_ | refine zA ?_ | refine zM ?_ | refine xr rfl ?_ | refine ai rfl ?_ | refine condT ?_ | refine condF ?_ | refine condG1 ?_ | refine condG0 ?_ | refine cD ?_ | refine dD ?_ | refine cB ?_ | refine dB ?_ | refine cN ?_ | refine dN ?_ | refine cV ?_ | refine dV ?_ | refine cE ?_ | refine dE ?_ | refine condX0 ?_ | refine condX1 ?_ | refine condNot ?_ | refine condAnd ?_ | refine condOr ?_ | refine aO ?_ | refine aB ?_ | refine aR ?_ | refine aR ?_ (by simp; omega) | refine xr (by assumption) ?_ | refine ai (by assumption) ?_ | refine condD (fun h => ?_) (fun h => ?_) | refine condB (fun h => ?_) (fun h => ?_) | refine condN (fun h => ?_) (fun h => ?_) | refine condE (fun h => ?_) (fun h => ?_) | refine condV (fun h => ?_) (fun h => ?_))
    refine ev_keep [22, 23, 24, 6] [85] ?_; exact app_loop119 l hc hl ln hln r (done ++ [x]) _ _ _ _ _ _ (n + 1) (by simp [e]) (by simp [hn] <;> omega) (by simp [hm, cat]) (by rw [hes]; simp [cat])
theorem len_loop119 (l : List (List UInt8)) (hc : (cat l).length < 2 ^ 40) (hl : l.length < 2 ^ 40) (ln : Int) (hln : ln = l.length) : ∀ (rest done : List (List UInt8)) (s : Int) (T : List (Nat × AV)) (H : Heap) (c : Nat) (n : Int) (e : l = done ++ rest) (hn : n = done.length) (hs : s = (cat done).length), Ev G ⟨f119x7LH, ⟨(9, .sl 1 (l.map bEnc)) :: (10, .int .i64 ln) :: (11, .int .i64 n) :: (3, .int .i64 s) :: (0, .sl 1 (l.map bEnc)) :: T, H, c⟩, [.t 2], 0⟩ (rB (cat l))
  | [], done, s, T, H, c, n, e, hn, hs => by
    have hd : l.length = done.length := by simp [e]
    have hll : (l.map bEnc).length = l.length := by simp
    obtain rfl : l = done := by simpa using e
    refine ev_loop' (W_ok 300 _ _ _ _ ?_)
    repeat' ((conv => whnf); first | refine bslP (by first | rfl | (simp [pureL, pureLL, AV.pure]; done) | fail) rfl ?_ | refine TakeC.full (by first | rfl | omega | (simp; done) | (simp; omega) | fail) ?_ | refine zBs ?_ | refine zBn ?_ | refine zBv rfl rfl ?_ | refine zN ?_ | refine zC ?_ | refine zC4 ?_ | refine zOr16 ?_ | refine zC1 ?_ | refine zByte ?_ | refine zMaxL ?_ | refine zMaxR ?_ | refine zMinL ?_ | refine zMinR ?_ | refine zShr ?_ | refine zC8 ?_ | refine zQ ?_ | refine zR ?_ | refine zS ?_ | refine zA ?_ | refine zM ?_ | refine xr rfl ?_ | refine ai rfl ?_ | refine condT ?_ | refine condF ?_ | refine condG1 ?_ | refine condG0 ?_ | refine cD ?_ | refine dD ?_ | refine cB ?_ | refine dB ?_ | refine cN ?_ | refine dN ?_ | refine cV ?_ | refine dV ?_ | refine cE ?_ | refine dE ?_ | refine condX0 ?_ | refine condX1 ?_ | refine condNot ?_ | refine condAnd ?_ | refine condOr ?_ | refine aO ?_ | refine aB ?_ | refine aR ?_ | refine aR ?_ (by simp; omega) | refine xr (by assumption) ?_ | refine ai (by assumption) ?_ | refine condD (fun h => ?_) (fun h => ?_) | refine condB (fun h => ?_) (fun h => ?_) | refine condN (fun h => ?_) (fun h => ?_) | refine condE (fun h => ?_) (fun h => ?_) | refine condV (fun h => ?_) (fun h => ?_))
    refine ev_keep [22, 23, 24, 6] [85] ?_
    exact app_loop119 l hc hl _ (by simp) l [] _ 0 _ _ _ _ 0 rfl rfl rfl rfl
  | x :: r, done, s, T, H, c, n, e, hn, hs => by
    have hd : l.length = done.length + (r.length + 1) := by simp [e]
    have hll : (l.map bEnc).length = l.length := by simp
    have hx : (l.map bEnc)[n.toNat]? = some (bEnc x) := by simp [e, hn]
    have hcl : (cat l).length = (cat done).length + (x.length + (cat r).length) := by rw [e]; simp [cat]
    have hbl := byteCells_length x
    refine ev_loop' (W_ok 300 _ _ _ _ ?_)
    repeat' ((conv => whnf); first | refine bslP (by first | rfl | (simp [pureL, pureLL, AV.pure]; done) | fail) rfl ?_ | refine TakeC.full (by first | rfl | omega | (simp; done) | (simp; omega) | fail) ?_ | refine zBs ?_ | refine zBn ?_ | refine zBv rfl rfl ?_ | refine zN ?_ | refine zC ?_ | refine zC4 ?_ | refine zOr16 ?_ | refine zC1 ?_ | refine zByte ?_ | refine zMaxL ?_ | refine zMaxR ?_ | refine zMinL ?_ | refine zMinR ?_ | refine zShr ?_ | refine zC8 ?_ | refine zQ ?_ | refine zR ?_ | refine zS ?_ | refine zA ?_ | refine zM ?_ | refine xr rfl ?_ | refine ai rfl ?_ | refine condT ?_ | refine condF ?_ | refine condG1 ?_ | refine condG0 ?_ | refine cD ?_ | refine dD ?_ | refine cB ?_ | refine dB ?_ | refine cN ?_ | refine dN ?_ | refine cV ?_ | refine dV ?_ | refine cE ?_ | refine dE ?_ | refine condX0 ?_ | refine condX1 ?_ | refine condNot ?_ | refine condAnd ?_ | refine condOr ?_ | refine aO ?_ | refine aB ?_ | refine aR ?_ | refine aR ?_ (by simp; omega) | refine xr (by assumption) ?_ | refine ai (by assumption) ?_ | refine condD (fun h => ?_) (fun h => ?_) | refine condB (fun h => ?_) (fun h => ?_) | refine condN (fun h => ?_) (fun h => ?_) | refine condE (fun h => ?_) (fun h => ?_) | refine condV (fun h => ?_) (fun h => ?_))
    refine ev_keep [9, 10, 11, 3, 0] [] ?_; exact len_loop119 l hc hl ln hln r (done ++ [x]) _ _ _ _ (n + 1) (by simp [e]) (by simp [hn] <;> omega) (by rw [hs]; simp [cat])
theorem join_gives119 (l : List (List UInt8)) (hl : l.length < 2 ^ 40) (hc : (cat l).length < 2 ^ 40) : Gives G 119 [.sl 1 (l.map bEnc)] [] (rB (cat l)) := by
  refine gives_code (F := f119) rfl rfl (W_ok 300 _ _ _ _ ?_)
  repeat' ((conv => whnf); first | refine bslP (by first | rfl | (simp [pureL, pureLL, AV.pure]; done) | fail) rfl ?_ | refine TakeC.full (by first | rfl | omega | (simp; done) | (simp; omega) | fail) ?_ | refine zBs ?_ | refine zBn ?_ | refine zBv rfl rfl ?_ | refine zN ?_ | refine zC ?_ | refine zC4 ?_ | refine zOr16 ?_ | refine zC1 ?_ | refine zByte ?_ | refine zMaxL ?_ | refine zMaxR ?_ | refine zMinL ?_ | refine zMinR ?_ | refine zShr ?_ | refine zC8 ?_ | refine zQ ?_ | refine zR ?_ | refine zS ?_ | refine zA ?_ | refine zM ?_ | refine xr rfl ?_ | refine ai rfl ?_ | refine condT ?_ | refine condF ?_ | refine condG1 ?_ | refine condG0 ?_ | refine cD ?_ | refine dD ?_ | refine cB ?_ | refine dB ?_ | refine cN ?_ | refine dN ?_ | refine cV ?_ | refine dV ?_ | refine cE ?_ | refine dE ?_ | refine condX0 ?_ | refine condX1 ?_ | refine condNot ?_ | refine condAnd ?_ | refine condOr ?_ | refine aO ?_ | refine aB ?_ | refine aR ?_ | refine aR ?_ (by simp; omega) | refine xr (by assumption) ?_ | refine ai (by assumption) ?_ | refine condD (fun h => ?_) (fun h => ?_) | refine condB (fun h => ?_) (fun h => ?_) | refine condN (fun h => ?_) (fun h => ?_) | refine condE (fun h => ?_) (fun h => ?_) | refine condV (fun h => ?_) (fun h => ?_))
  refine ev_keep [9, 10, 11, 3, 0] [] ?_
  exact len_loop119 l hc hl _ (by simp) l [] _ _ _ _ 0 rfl rfl rfl
theorem put_gives109 (b : List UInt8) (hb : b.length < 2 ^ 39) (n x : Nat) (hn : n ≤ 8) : Gives G 109 [.sl 1 (byteCells b), .int .i64 n, .int .u64 (x : Int)] [] (rB (b ++ be n x)) := by
  have hj := join_gives119 [b, be n x] (by simp) (by simp [cat, be_length]; omega)
  rw [show cat [b, be n x] = b ++ be n x from by simp [cat]] at hj
  refine gives_code (F := f109) rfl rfl (W_ok 300 _ _ _ _ ?_)
  repeat' ((conv => whnf); first | refine bslP (by first | rfl | (simp [pureL, pureLL, AV.pure]; done) | fail) rfl ?_ | refine TakeC.full (by first | rfl | omega | (simp; done) | (simp; omega) | fail) ?_ | refine zBs ?_ | refine zBn ?_ | refine zBv rfl rfl ?_ | refine zN ?_ | refine zC ?_ | refine zC4 ?_ | refine zOr16 ?_ | refine zC1 ?_ | refine zByte ?_ | refine zMaxL ?_ | refine zMaxR ?_ | refine zMinL ?_ | refine zMinR ?_ | refine zShr ?_ | refine zC8 ?_ | refine zQ ?_ | refine zR ?_ | refine zS ?_ | refine zA ?_ | refine zM ?_ | refine xr rfl ?_ | refine ai rfl ?_ | refine condT ?_ | refine condF ?_ | refine condG1 ?_ | refine condG0 ?_ | refine cD ?_ | refine dD ?_ | refine cB ?_ | refine dB ?_ | refine cN ?_ | refine dN ?_ | refine cV ?_ | refine dV ?_ | refine cE ?_ | refine dE ?_ | refine condX0 ?_ | refine condX1 ?_ | refine condNot ?_ | refine condAnd ?_ | refine condOr ?_ | refine aO ?_ | refine aB ?_ | refine aR ?_ | refine aR ?_ (by simp; omega) | refine xr (by assumption) ?_ | refine ai (by assumption) ?_ | refine kN (number_gives120 n x hn) ?_ | refine kB [(76, _, _)] ⟨rfl, pz trivial⟩ ?_ | refine kX [] [(77, _, _)] trivial ⟨rfl, pz trivial⟩ (hj) ?_ | refine condD (fun h => ?_) (fun h => ?_) | refine condB (fun h => ?_) (fun h => ?_) | refine condN (fun h => ?_) (fun h => ?_) | refine condE (fun h => ?_) (fun h => ?_) | refine condV (fun h => ?_) (fun h => ?_))
  exact ev_retB 78 ⟨_, _, _, rfl, rfl, rfl, rfl⟩
end Go.AM.IR
set_option maxHeartbeats 4000000
set_option maxRecDepth 20000
namespace Go.AM.IR
def wd (wide : Bool) : Nat := if wide = true then 4 else 2
theorem width_gives96 (wide : Bool) : Gives G 96 [.bool wide] [] ⟨.int .i64 (wd wide : Nat), []⟩ := by
  cases wide
  · refine gives_code (F := f96) rfl rfl (W_ok 300 _ _ _ _ ?_)
    repeat' ((conv => whnf); first | refine bslP (by first | rfl | (simp [pureL, pureLL, AV.pure]; done) | fail) rfl ?_ | refine TakeC.full (by first | rfl | omega | (simp; done) | (simp; omega) | fail) ?_ | refine zBs ?_ | refine zBn ?_ | refine zBv rfl rfl ?_ | refine zN ?_ | refine zC ?_ | refine zC4 ?_ | refine zOr16 ?_ | refine zC1 ?_ | refine zByte ?_ | refine zMaxL ?_ | refine zMaxR ?_ | refine zMinL ?_ | refine zMinR ?_ | refine zShr ?_ | refine zC8 ?_ | refine zQ ?_ | refine zR ?_ | refine zS ?_ | refine zA ?_ | refine zM ?_ | refine xr rfl ?_ | refine ai rfl ?_ | refine condT ?_ | refine condF ?_ | refine condG1 ?_ | refine condG0 ?_ | refine cD ?_ | refine dD ?_ | refine cB ?_ | refine dB ?_ | refine cN ?_ | refine dN ?_ | refine cV ?_ | refine dV ?_ | refine cE ?_ | refine dE ?_ | refine condX0 ?_ | refine condX1 ?_ | refine condNot ?_ | refine condAnd ?_ | refine condOr ?_ | refine aO ?_ | refine aB ?_ | refine aR ?_ | refine aR ?_ (by simp; omega) | refine xr (by assumption) ?_ | refine ai (by assumption) ?_ | refine condD (fun h => ?_) (fun h => ?_) | refine condB (fun h => ?_) (fun h => ?_) | refine condN (fun h => ?_) (fun h => ?_) | refine condE (fun h => ?_) (fun h => ?_) | refine condV (fun h => ?_) (fun h => ?_))
    all_goals try ((first | refine ev_fin (And.intro (by first | rfl | (simp [AV.pure, pureL]; done) | fail) ?_) | refine ev_fin0 (And.intro (by first | rfl | (simp [AV.pure, pureL]; done) | fail) ?_)); first | rfl | (simp [Bool.cond_eq_ite, *]; done) | (simp [Bool.cond_eq_ite, *]; omega))
  · refine gives_code (F := f96) rfl rfl (W_ok 300 _ _ _ _ ?_)
    repeat' ((conv => whnf); first | refine bslP (by first | rfl | (simp [pureL, pureLL, AV.pure]; done) | fail) rfl ?_ | refine TakeC.full (by first | rfl | omega | (simp; done) | (simp; omega) | fail) ?_ | refine zBs ?_ | refine zBn ?_ | refine zBv rfl rfl ?_ | refine zN ?_ | refine zC ?_ | refine zC4 ?_ | refine zOr16 ?_ | refine zC1 ?_ | refine zByte ?_ | refine zMaxL ?_ | refine zMaxR ?_ | refine zMinL ?_ | refine zMinR ?_ | refine zShr ?_ | refine zC8 ?_ | refine zQ ?_ | refine zR ?_ | refine zS ?_ | refine zA ?_ | refine zM ?_ | refine xr rfl ?_ | refine ai rfl ?_ | refine condT ?_ | refine condF ?_ | refine condG1 ?_ | refine condG0 ?_ | refine cD ?_ | refine dD ?_ | refine cB ?_ | refine dB ?_ | refine cN ?_ | refine dN ?_ | refine cV ?_ | refine dV ?_ | refine cE ?_ | refine dE ?_ | refine condX0 ?_ | refine condX1 ?_ | refine condNot ?_ | refine condAnd ?_ | refine condOr ?_ | refine aO ?_ | refine aB ?_ | refine aR ?_ | refine aR ?_ (by simp; omega) | refine xr (by assumption) ?_ | refine ai (by assumption) ?_ | refine condD (fun h => ?_) (fun h => ?_) | refine condB (fun h => ?_) (fun h => ?_) | refine condN (fun h => ?_) (fun h => ?_) | refine condE (fun h => ?_) (fun h => ?_) | refine condV (fun h => ?_) (fun h => ?_))
    all_goals try ((first | refine ev_fin (And.intro (by first | rfl | (simp [AV.pure, pureL]; done) | fail) ?_) | refine ev_fin0 (And.intro (by first | rfl | (simp [AV.pure, pureL]; done) | fail) ?_)); first | rfl | (simp [Bool.cond_eq_ite, *]; done) | (simp [Bool.cond_eq_ite, *]; omega))
theorem width_gives92 (wide : Bool) : Gives G 92 [.bool wide] [] ⟨.int .i64 (wd wide : Nat), []⟩ := by
  cases wide
  · refine gives_code (F := f92) rfl rfl (W_ok 300 _ _ _ _ ?_)
    repeat' ((conv => whnf); first | refine bslP (by first | rfl | (simp [pureL, pureLL, AV.pure]; done) | fail) rfl ?_ | refine TakeC.full (by first | rfl | omega | (simp; done) | (simp; omega) | fail) ?_ | refine zBs ?_ | refine zBn ?_ | refine zBv rfl rfl ?_ | refine zN ?_ | refine zC ?_ | refine zC4 ?_ | refine zOr16 ?_ | refine zC1 ?_ | refine zByte ?_ | refine zMaxL ?_ | refine zMaxR ?_ | refine zMinL ?_ | refine zMinR ?_ | refine zShr ?_ | refine zC8 ?_ | refine zQ ?_ | refine zR ?_ | refine zS ?_ | refine zA ?_ | refine zM ?_ | refine xr rfl ?_ | refine ai rfl ?_ | refine condT ?_ | refine condF ?_ | refine condG1 ?_ | refine condG0 ?_ | refine cD ?_ | refine dD ?_ | refine cB ?_ | refine dB ?_ | refine cN ?_ | refine dN ?_ | refine cV ?_ | refine dV ?_ | refine cE ?_ | refine dE ?_ | refine condX0 ?_ | refine condX1 ?_ | refine condNot ?_ | refine condAnd ?_ | refine condOr ?_ | refine aO ?_ | refine aB ?_ | refine aR ?_ | refine aR ?_ (by simp; omega) | refine xr (by assumption) ?_ | refine ai (by assumption) ?_ | refine condD (fun h => ?_) (fun h => ?_) | refine condB (fun h => ?_) (fun h => ?_) | refine condN (fun h => ?_) (fun h => ?_) | refine condE (fun h => ?_) (fun h => ?_) | refine condV (fun h => ?_) (fun h => ?_))
    all_goals try ((first | refine ev_fin (And.intro (by first | rfl | (simp [AV.pure, pureL]; done) | fail) ?_) | refine ev_fin0 (And.intro (by first | rfl | (simp [AV.pure, pureL]; done) | fail) ?_)); first | rfl | (simp [Bool.cond_eq_ite, *]; done) | (simp [Bool.cond_eq_ite, *]; omega))
  · refine gives_code (F := f92) rfl rfl (W_ok 300 _ _ _ _ ?_)
    repeat' ((conv => whnf); first | refine bslP (by first | rfl | (simp [pureL, pureLL, AV.pure]; done) | fail) rfl ?_ | refine TakeC.full (by first | rfl | omega | (simp; done) | (simp; omega) | fail) ?_ | refine zBs ?_ | refine zBn ?_ | refine zBv rfl rfl ?_ | refine zN ?_ | refine zC ?_ | refine zC4 ?_ | refine zOr16 ?_ | refine zC1 ?_ | refine zByte ?_ | refine zMaxL ?_ | refine zMaxR ?_ | refine zMinL ?_ | refine zMinR ?_ | refine zShr ?_ | refine zC8 ?_ | refine zQ ?_ | refine zR ?_ | refine zS ?_ | refine zA ?_ | refine zM ?_ | refine xr rfl ?_ | refine ai rfl ?_ | refine condT ?_ | refine condF ?_ | refine condG1 ?_ | refine condG0 ?_ | refine cD ?_ | refine dD ?_ | refine cB ?_ | refine dB ?_ | refine cN ?_ | refine dN ?_ | refine cV ?_ | refine dV ?_ | refine cE ?_ | refine dE ?_ | refine condX0 ?_ | refine condX1 ?_ | refine condNot ?_ | refine condAnd ?_ | refine condOr ?_ | refine aO ?_ | refine aB ?_ | refine aR ?_ | refine aR ?_ (by simp; omega) | refine xr (by assumption) ?_ | refine ai (by assumption) ?_ | refine condD (fun h => ?_) (fun h => ?_) | refine condB (fun h => ?_) (fun h => ?_) | refine condN (fun h => ?_) (fun h => ?_) | refine condE (fun h => ?_) (fun h => ?_) | refine condV (fun h => ?_) (fun h => ?_))
    all_goals try ((first | refine ev_fin (And.intro (by first | rfl | (simp [AV.pure, pureL]; done) | fail) ?_) | refine ev_fin0 (And.intro (by first | rfl | (simp [AV.pure, pureL]; done) | fail) ?_)); first | rfl | (simp [Bool.cond_eq_ite, *]; done) | (simp [Bool.cond_eq_ite, *]; omega))
theorem put0_gives109 (n x : Nat) (hn : n ≤ 8) : Gives G 109 [.con (.slice none 0 0), .int .i64 n, .int .u64 (x : Int)] [] (rB (be n x)) :=
  gives_le rfl (put_gives109 [] (by simp) n x hn) ⟨LeP.nil 1, .refl _, .refl _, trivial⟩
theorem number_gives85 (m : Nat) (hm : m < 2 ^ 63) : Gives G 85 [.int .i64 (m : Int)] [] (rB (be 4 m)) := by
  refine gives_code (F := f85) rfl rfl (W_ok 300 _ _ _ _ ?_)
  repeat' ((conv => whnf); first | refine bslP (by first | rfl | (simp [pureL, pureLL, AV.pure]; done) | fail) rfl ?_ | refine TakeC.full (by first | rfl | omega | (simp; done) | (simp; omega) | fail) ?_ | refine zBs ?_ | refine zBn ?_ | refine zBv rfl rfl ?_ | refine zN ?_ | refine zC ?_ | refine zC4 ?_ | refine zOr16 ?_ | refine zC1 ?_ | refine zByte ?_ | refine zMaxL ?_ | refine zMaxR ?_ | refine zMinL ?_ | refine zMinR ?_ | refine zShr ?_ | refine zC8 ?_ | refine zQ ?_ | refine zR ?_ | refine zS ?_ | refine zA ?_ | refine zM ?_ | refine xr rfl ?_ | refine ai rfl ?_ | refine condT ?_ | refine condF ?_ | refine condG1 ?_ | refine condG0 ?_ | refine cD ?_ | refine dD ?_ | refine cB ?_ | refine dB ?_ | refine cN ?_ | refine dN ?_ | refine cV ?_ | refine dV ?_ | refine cE ?_ | refine dE ?_ | refine condX0 ?_ | refine condX1 ?_ | refine condNot ?_ | refine condAnd ?_ | refine condOr ?_ | refine aO ?_ | refine aB ?_ | refine aR ?_ | refine aR ?_ (by simp; omega) | refine xr (by assumption) ?_ | refine ai (by assumption) ?_ | refine kN (put0_gives109 4 m (by omega)) ?_ | refine condD (fun h => ?_) (fun h => ?_) | refine condB (fun h => ?_) (fun h => ?_) | refine condN (fun h => ?_) (fun h => ?_) | refine condE (fun h => ?_) (fun h => ?_) | refine condV (fun h => ?_) (fun h => ?_))
  exact ev_retB 69 ⟨_, _, _, rfl, rfl, rfl, rfl⟩
theorem number85 (n : Int) (h0 : 0 ≤ n) (h1 : n < 2 ^ 63) : Gives G 85 [.int .i64 n] [] (rB (be 4 n.toNat)) := by
  have h := number_gives85 n.toNat (by omega)
  rwa [show ((n.toNat : Nat) : Int) = n from by omega] at h
def badN (wide bad : Bool) (n : Int) : Bool := bad || (!wide && decide (n > 65535))
theorem as_gives86 (n : Nat) (h1 : n < 2 ^ 63) (wide bad : Bool) (b : List UInt8) : Gives G 86 [.ref 0 0 0, .int .i64 (n : Int)] [.cells [.vs 1 0 b.length, .bool wide, .bool bad], .vec 1 (byteCells b)]
    ⟨.vs 2 0 (be (wd wide) n).length, [(true, .cells [.vs 1 0 b.length, .bool wide, .bool (badN wide bad n)]), (true, .vec 1 (byteCells b)), (false, .vec 1 (byteCells (be (wd wide) n)))]⟩ := by
  have hw : wd wide ≤ 8 := by unfold wd; split <;> omega
  have hp := put0_gives109 (wd wide) n hw
  have hq := width_gives96 wide
  generalize wd wide = w at *
  refine gives_code (F := f86) rfl rfl (W_ok 300 _ _ _ _ ?_)
  repeat' ((conv => whnf); first | refine bslP (by first | rfl | (simp [pureL, pureLL, AV.pure]; done) | fail) rfl ?_ | refine TakeC.full (by first | rfl | omega | (simp; done) | (simp; omega) | fail) ?_ | refine zBs ?_ | refine zBn ?_ | refine zBv rfl rfl ?_ | refine zN ?_ | refine zC ?_ | refine zC4 ?_ | refine zOr16 ?_ | refine zC1 ?_ | refine zByte ?_ | refine zMaxL ?_ | refine zMaxR ?_ | refine zMinL ?_ | refine zMinR ?_ | refine zShr ?_ | refine zC8 ?_ | refine zQ ?_ | refine zR ?_ | refine zS ?_ | refine zA ?_ | refine zM ?_ | refine xr rfl ?_ | refine ai rfl ?_ | refine condT ?_ | refine condF ?_ | refine condG1 ?_ | refine condG0 ?_ | refine cD ?_ | refine dD ?_ | refine cB ?_ | refine dB ?_ | refine cN ?_ | refine dN ?_ | refine cV ?_ | refine dV ?_ | refine cE ?_ | refine dE ?_ | refine condX0 ?_ | refine condX1 ?_ | refine condNot ?_ | refine condAnd ?_ | refine condOr ?_ | refine aO ?_ | refine aB ?_ | refine aR ?_ | refine aR ?_ (by simp; omega) | refine xr (by assumption) ?_ | refine ai (by assumption) ?_ | refine kV (hq) ?_ | refine kN (hp) ?_ | refine condD (fun h => ?_) (fun h => ?_) | refine condB (fun h => ?_) (fun h => ?_) | refine condN (fun h => ?_) (fun h => ?_) | refine condE (fun h => ?_) (fun h => ?_) | refine condV (fun h => ?_) (fun h => ?_))
  all_goals ((conv => whnf); first | refine ev_finX [(0, _, _), (1, _, _)] [(94, _, _)] [true, true] (Nat.succ_pos _) ⟨rfl, rfl, rfl, trivial⟩ rfl (by repeat' (first | exact trivial | rfl | refine And.intro ?_ ?_ | (simp [pureL, pureLL, AV.pure, Blk.renS, Blk.okS, Blk.okX, AV.okS, AV.okX]; done) | omega | fail)) ⟨(by first | rfl | exact (decide_eq_false (by omega)).symm), (by first | rfl | exact (decide_eq_false (by omega)).symm), trivial⟩ ⟨rfl, (by repeat' (first | exact trivial | rfl | refine And.intro ?_ ?_ | (simp [pureL, pureLL, AV.pure, Blk.renS, Blk.okS, Blk.okX, AV.okS, AV.okX]; done) | omega | fail)), ?_⟩ | refine ev_finX0 [(0, _, _), (1, _, _)] [(94, _, _)] [true, true] (Nat.succ_pos _) ⟨rfl, rfl, rfl, trivial⟩ rfl (by repeat' (first | exact trivial | rfl | refine And.intro ?_ ?_ | (simp [pureL, pureLL, AV.pure, Blk.renS, Blk.okS, Blk.okX, AV.okS, AV.okX]; done) | omega | fail)) ⟨(by first | rfl | exact (decide_eq_false (by omega)).symm), (by first | rfl | exact (decide_eq_false (by omega)).symm), trivial⟩ ⟨rfl, (by repeat' (first | exact trivial | rfl | refine And.intro ?_ ?_ | (simp [pureL, pureLL, AV.pure, Blk.renS, Blk.okS, Blk.okX, AV.okS, AV.okX]; done) | omega | fail)), ?_⟩)
  all_goals (simp [flB, Blk.renX, renXL, AV.renX, zidx, badN, *]; exact ⟨rfl, rfl⟩)
theorem fm_length : ∀ l : List Int, (l.flatMap fun x => be 4 x.toNat).length = 4 * l.length
  | [] => rfl
  | x :: r => by
    have := fm_length r
    simp [be_length] at this ⊢; omega
theorem words_loop87 (l : List Int) (h0 : ∀ x ∈ l, 0 ≤ x ∧ x ≤ 4294967295) (hl : l.length < 2 ^ 40) (ln : Int) (hln : ln = l.length) : ∀ (rest done : List Int) (g m : Nat) (es : List (List AV)) (T : List (Nat × AV)) (H : Heap) (c : Nat) (n : Int) (e : l = done ++ rest) (hn : n = done.length) (hm : m = 4 * done.length) (hes : es = byteCells (done.flatMap fun x => be 4 x.toNat)), Ev G ⟨f87x7LH, ⟨(6, .sl 1 (l.map encU)) :: (7, .int .i64 ln) :: (8, .int .i64 n) :: (3, .vs 69 g m) :: T, (69, some (g, .vec 1 es)) :: H, c⟩, [.t 2], 0⟩ (rB (l.flatMap fun x => be 4 x.toNat))
  | [], done, g, m, es, T, H, c, n, e, hn, hm, hes => by
    have hd : l.length = done.length := by simp [e]
    have hll : (l.map encU).length = l.length := by simp
    obtain rfl : l = done := by simpa using e
    refine ev_loop' (W_ok 300 _ _ _ _ ?_)
    repeat' ((conv => whnf); first | refine bslP (by first | rfl | (simp [pureL, pureLL, AV.pure]; done) | fail) rfl ?_ | refine TakeC.full (by first | rfl | omega | (simp; done) | (simp; omega) | fail) ?_ | refine zBs ?_ | refine zBn ?_ | refine zBv rfl rfl ?_ | refine zN ?_ | refine zC ?_ | refine zC4 ?_ | refine zOr16 ?_ | refine zC1 ?_ | refine zByte ?_ | refine zMaxL ?_ | refine zMaxR ?_ | refine zMinL ?_ | refine zMinR ?_ | refine zShr ?_ | refine zC8 ?_ | refine zQ ?_ | refine zR ?_ | refine zS ?_ | refine zA ?_ | refine zM ?_ | refine xr rfl ?_ | refine ai rfl ?_ | refine condT ?_ | refine condF ?_ | refine condG1 ?_ | refine condG0 ?_ | refine cD ?_ | refine dD ?_ | refine cB ?_ | refine dB ?_ | refine cN ?_ | refine dN ?_ | refine cV ?_ | refine dV ?_ | refine cE ?_ | refine dE ?_ | refine condX0 ?_ | refine condX1 ?_ | refine condNot ?_ | refine condAnd ?_ | refine condOr ?_ | refine aO ?_ | refine aB ?_ | refine aR ?_ | refine aR ?_ (by simp; omega) | refine xr (by assumption) ?_ | refine ai (by assumption) ?_ | refine condD (fun h => ?_) (fun h => ?_) | refine condB (fun h => ?_) (fun h => ?_) | refine condN (fun h => ?_) (fun h => ?_) | refine condE (fun h => ?_) (fun h => ?_) | refine condV (fun h => ?_) (fun h => ?_))
    refine ev_retB 69 ⟨_, _, _, rfl, rfl, ?_, hes⟩
    rw [hm, fm_length]
  | x :: r, done, g, m, es, T, H, c, n, e, hn, hm, hes => by
    have hd : l.length = done.length + (r.length + 1) := by simp [e]
    have hll : (l.map encU).length = l.length := by simp
    have hx : (l.map encU)[n.toNat]? = some (encU x) := by simp [e, hn]
    have hx0 := h0 x (by simp [e])
    have hel : m = es.length := by
      rw [hm, hes]; simp only [byteCells_length, fm_length]
    have hbl : (byteCells (be 4 x.toNat)).length = 4 := by simp [be_length]
    refine ev_loop' (W_ok 300 _ _ _ _ ?_)
    repeat' ((conv => whnf); first | refine bslP (by first | rfl | (simp [pureL, pureLL, AV.pure]; done) | fail) rfl ?_ | refine TakeC.full (by first | rfl | omega | (simp; done) | (simp; omega) | fail) ?_ | refine zBs ?_ | refine zBn ?_ | refine zBv rfl rfl ?_ | refine zN ?_ | refine zC ?_ | refine zC4 ?_ | refine zOr16 ?_ | refine zC1 ?_ | refine zByte ?_ | refine zMaxL ?_ | refine zMaxR ?_ | refine zMinL ?_ | refine zMinR ?_ | refine zShr ?_ | refine zC8 ?_ | refine zQ ?_ | refine zR ?_ | refine zS ?_ | refine zA ?_ | refine zM ?_ | refine xr rfl ?_ | refine ai rfl ?_ | refine condT ?_ | refine condF ?_ | refine condG1 ?_ | refine condG0 ?_ | refine cD ?_ | refine dD ?_ | refine cB ?_ | refine dB ?_ | refine cN ?_ | refine dN ?_ | refine cV ?_ | refine dV ?_ | refine cE ?_ | refine dE ?_ | refine condX0 ?_ | refine condX1 ?_ | refine condNot ?_ | refine condAnd ?_ | refine condOr ?_ | refine aO ?_ | refine aB ?_ | refine aR ?_ | refine aR ?_ (by simp; omega) | refine xr (by assumption) ?_ | refine ai (by assumption) ?_ | refine kN (number85 x (by omega) (by omega)) ?_ | refine condD (fun h => ?_) (fun h => ?_) | refine condB (fun h => ?_) (fun h => ?_) | refine condN (fun h => ?_) (fun h => ?_) | refine condE (fun h => ?_) (fun h => ?_) | refine condV (fun h => ?_) (fun h => ?_))
    refine ev_keep [6, 7, 8, 3] [69] ?_; exact words_loop87 l h0 hl ln hln r (done ++ [x]) _ _ _ _ _ _ (n + 1) (by simp [e]) (by simp [hn] <;> omega) (by simp [hm, be_length]; omega) (by rw [hes]; simp)
theorem words_gives87 (l : List Int) (hl : l.length < 2 ^ 40) (h0 : ∀ x ∈ l, 0 ≤ x ∧ x ≤ 4294967295) : Gives G 87 [.sl 1 (l.map encU)] [] (rB (l.flatMap fun x => be 4 x.toNat)) := by
  refine gives_code (F := f87) rfl rfl (W_ok 300 _ _ _ _ ?_)
  repeat' ((conv => whnf); first | refine bslP (by first | rfl | (simp [pureL, pureLL, AV.pure]; done) | fail) rfl ?_ | refine TakeC.full (by first | rfl | omega | (simp; done) | (simp; omega) | fail) ?_ | refine zBs ?_ | refine zBn ?_ | refine zBv rfl rfl ?_ | refine zN ?_ | refine zC ?_ | refine zC4 ?_ | refine zOr16 ?_ | refine zC1 ?_ | refine zByte ?_ | refine zMaxL ?_ | refine zMaxR ?_ | refine zMinL ?_ | refine zMinR ?_ | refine zShr ?_ | refine zC8 ?_ | refine zQ ?_ | refine zR ?_ | refine zS ?_ | refine zA ?_ | refine zM ?_ | refine xr rfl ?_ | refine ai rfl ?_ | refine condT ?_ | refine condF ?_ | refine condG1 ?_ | refine condG0 ?_ | refine cD ?_ | refine dD ?_ | refine cB ?_ | refine dB ?_ | refine cN ?_ | refine dN ?_ | refine cV ?_ | refine dV ?_ | refine cE ?_ | refine dE ?_ | refine condX0 ?_ | refine condX1 ?_ | refine condNot ?_ | refine condAnd ?_ | refine condOr ?_ | refine aO ?_ | refine aB ?_ | refine aR ?_ | refine aR ?_ (by simp; omega) | refine xr (by assumption) ?_ | refine ai (by assumption) ?_ | refine condD (fun h => ?_) (fun h => ?_) | refine condB (fun h => ?_) (fun h => ?_) | refine condN (fun h => ?_) (fun h => ?_) | refine condE (fun h => ?_) (fun h => ?_) | refine condV (fun h => ?_) (fun h => ?_))
  refine ev_nil 69 1 [(3, .vs 69 _ 0)] [] ⟨LeP.nilV _ _ _, trivial⟩ trivial ?_
  refine ev_keep [6, 7, 8, 3] [69] ?_
  exact words_loop87 l h0 hl _ (by simp) l [] _ 0 _ _ _ _ 0 rfl rfl rfl rfl
def flagL : List UInt8 := [224, 64, 64, 64, 128, 64, 64, 192, 192, 128, 128]
def flagS (k : Int) : UInt8 := if k > 10 then 224 else flagL.getD k.toNat 0
theorem flag_gives94 (k : Int) (h0 : 0 ≤ k) : Gives G 94 [.int .i64 k] [] ⟨.int .u8 (flagS k).toNat, []⟩ := by
  by_cases h : k > 10
  · rw [show flagS k = 224 from by simp [flagS, h]]
    refine gives_code (F := f94) rfl rfl (W_ok 300 _ _ _ _ ?_)
    repeat' ((conv => whnf); first | refine bslP (by first | rfl | (simp [pureL, pureLL, AV.pure]; done) | fail) rfl ?_ | refine TakeC.full (by first | rfl | omega | (simp; done) | (simp; omega) | fail) ?_ | refine zBs ?_ | refine zBn ?_ | refine zBv rfl rfl ?_ | refine zN ?_ | refine zC ?_ | refine zC4 ?_ | refine zOr16 ?_ | refine zC1 ?_ | refine zByte ?_ | refine zMaxL ?_ | refine zMaxR ?_ | refine zMinL ?_ | refine zMinR ?_ | refine zShr ?_ | refine zC8 ?_ | refine zQ ?_ | refine zR ?_ | refine zS ?_ | refine zA ?_ | refine zM ?_ | refine xr rfl ?_ | refine ai rfl ?_ | refine condT ?_ | refine condF ?_ | refine condG1 ?_ | refine condG0 ?_ | refine cD ?_ | refine dD ?_ | refine cB ?_ | refine dB ?_ | refine cN ?_ | refine dN ?_ | refine cV ?_ | refine dV ?_ | refine cE ?_ | refine dE ?_ | refine condX0 ?_ | refine condX1 ?_ | refine condNot ?_ | refine condAnd ?_ | refine condOr ?_ | refine aO ?_ | refine aB ?_ | refine aR ?_ | refine aR ?_ (by simp; omega) | refine xr (by assumption) ?_ | refine ai (by assumption) ?_ | refine condD (fun h => ?_) (fun h => ?_) | refine condB (fun h => ?_) (fun h => ?_) | refine condN (fun h => ?_) (fun h => ?_) | refine condE (fun h => ?_) (fun h => ?_) | refine condV (fun h => ?_) (fun h => ?_))
    all_goals try ((first | refine ev_fin (And.intro (by first | rfl | (simp [AV.pure, pureL]; done) | fail) ?_) | refine ev_fin0 (And.intro (by first | rfl | (simp [AV.pure, pureL]; done) | fail) ?_)); first | rfl | (simp [Bool.cond_eq_ite, *]; done) | (simp [Bool.cond_eq_ite, *]; omega))
  · have h2 : k = 0 ∨ k = 1 ∨ k = 2 ∨ k = 3 ∨ k = 4 ∨ k = 5 ∨ k = 6 ∨ k = 7 ∨ k = 8 ∨ k = 9 ∨ k = 10 := by omega
    rcases h2 with rfl | rfl | rfl | rfl | rfl | rfl | rfl | rfl | rfl | rfl | rfl
    all_goals
      refine gives_code (F := f94) rfl rfl (W_ok 300 _ _ _ _ ?_)
      repeat' ((conv => whnf); first | refine bslP (by first | rfl | (simp [pureL, pureLL, AV.pure]; done) | fail) rfl ?_ | refine TakeC.full (by first | rfl | omega | (simp; done) | (simp; omega) | fail) ?_ | refine zBs ?_ | refine zBn ?_ | refine zBv rfl rfl ?_ | refine zN ?_ | refine zC ?_ | refine zC4 ?_ | refine zOr16 ?_ | refine zC1 ?_ | refine zByte ?_ | refine zMaxL ?_ | refine zMaxR ?_ | refine zMinL ?_ | refine zMinR ?_ | refine zShr ?_ | refine zC8 ?_ | refine zQ ?_ | refine zR ?_ | refine zS ?_ | refine zA ?_ | refine zM ?_ | refine xr rfl ?_ | refine ai rfl ?_ | refine condT ?_ | refine condF ?_ | refine condG1 ?_ | refine condG0 ?_ | refine cD ?_ | refine dD ?_ | refine cB ?_ | refine dB ?_ | refine cN ?_ | refine dN ?_ | refine cV ?_ | refine dV ?_ | refine cE ?_ | refine dE ?_ | refine condX0 ?_ | refine condX1 ?_ | refine condNot ?_ | refine condAnd ?_ | refine condOr ?_ | refine aO ?_ | refine aB ?_ | refine aR ?_ | refine aR ?_ (by simp; omega) | refine xr (by assumption) ?_ | refine ai (by assumption) ?_ | refine condD (fun h => ?_) (fun h => ?_) | refine condB (fun h => ?_) (fun h => ?_) | refine condN (fun h => ?_) (fun h => ?_) | refine condE (fun h => ?_) (fun h => ?_) | refine condV (fun h => ?_) (fun h => ?_))
      all_goals try ((first | refine ev_fin (And.intro (by first | rfl | (simp [AV.pure, pureL]; done) | fail) ?_) | refine ev_fin0 (And.intro (by first | rfl | (simp [AV.pure, pureL]; done) | fail) ?_)); first | rfl | (simp [Bool.cond_eq_ite, *]; done) | (simp [Bool.cond_eq_ite, *]; omega))
end Go.AM.IR
set_option maxHeartbeats 4000000
set_option maxRecDepth 20000
namespace Go.AM.IR
def encY (b : UInt8) : List AV := [.int .u8 (b.toNat : Int)]
def rd (l : List UInt8) : Nat := l.foldl (fun x b => x * 256 + b.toNat) 0
theorem rd_snoc (l : List UInt8) (x : UInt8) : rd (l ++ [x]) = rd l * 256 + x.toNat := by simp [rd]
theorem rd_lt (l : List UInt8) : rd l < 256 ^ l.length := by
  suffices h : ∀ (l : List UInt8) (a k : Nat), a < 256 ^ k → l.foldl (fun x b => x * 256 + b.toNat) a < 256 ^ (k + l.length) by
    have := h l 0 0 (by simp); simpa [rd] using this
  intro l
  induction l with
  | nil => intro a k h; simpa using h
  | cons x r ih =>
    intro a k h
    have hx := x.toNat_lt
    have := ih (a * 256 + x.toNat) (k + 1) (by rw [Nat.pow_succ]; omega)
    simpa [Nat.add_assoc, Nat.add_comm 1] using this
theorem rd_le {l : List UInt8} {n : Nat} (h : l.length ≤ n) : rd l < 256 ^ n := Nat.lt_of_lt_of_le (rd_lt l) (Nat.pow_le_pow_right (by omega) h)
theorem cut_eq (b : List UInt8) (i k n : Nat) (h : n = i + k) : ((byteCells b).drop i).take (n - i) = ((b.drop i).take k).map encY := by
  subst h
  rw [show byteCells b = b.map encY from rfl, ← List.map_drop, ← List.map_take, show i + k - i = k from by omega]
theorem get_loop110 (l : List UInt8) (h4 : l.length ≤ 4) (hl : l.length < 2 ^ 40) (ln : Int) (hln : ln = l.length) : ∀ (rest done : List UInt8) (x0 : Int) (T : List (Nat × AV)) (H : Heap) (c : Nat) (n : Int) (e : l = done ++ rest) (hn : n = done.length) (hx0 : x0 = (rd done : Nat)), Ev G ⟨f110x9LH, ⟨(34, .sl 1 (l.map encY)) :: (35, .int .i64 ln) :: (36, .int .i64 n) :: (8, .int .u64 x0) :: T, H, c⟩, [.t 6, .t 7], 0⟩ ⟨.tup [.int .u64 (rd l : Nat), .bool true], []⟩
  | [], done, x0, T, H, c, n, e, hn, hx0 => by
    have hd : l.length = done.length := by simp [e]
    have hll : (l.map encY).length = l.length := by simp
    obtain rfl : l = done := by simpa using e
    subst hx0
    refine ev_loop' (W_ok 300 _ _ _ _ ?_)
    repeat' ((conv => whnf); first | refine bslP (by first | rfl | (simp [pureL, pureLL, AV.pure]; done) | fail) rfl ?_ | refine TakeC.full (by first | rfl | omega | (simp; done) | (simp; omega) | fail) ?_ | refine zBs ?_ | refine zBn ?_ | refine zBv rfl rfl ?_ | refine zN ?_ | refine zC ?_ | refine zC4 ?_ | refine zOr16 ?_ | refine zC1 ?_ | refine zByte ?_ | refine zMaxL ?_ | refine zMaxR ?_ | refine zMinL ?_ | refine zMinR ?_ | refine zShr ?_ | refine zC8 ?_ | refine zQ ?_ | refine zR ?_ | refine zS ?_ | refine zA ?_ | refine zM ?_ | refine xr rfl ?_ | refine ai rfl ?_ | refine condT ?_ | refine condF ?_ | refine condG1 ?_ | refine condG0 ?_ | refine cD ?_ | refine dD ?_ | refine cB ?_ | refine dB ?_ | refine cN ?_ | refine dN ?_ | refine cV ?_ | refine dV ?_ | refine cE ?_ | refine dE ?_ | refine condX0 ?_ | refine condX1 ?_ | refine condNot ?_ | refine condAnd ?_ | refine condOr ?_ | refine aO ?_ | refine aB ?_ | refine aR ?_ | refine aR ?_ (by simp; omega) | refine xr (by assumption) ?_ | refine ai (by assumption) ?_ | refine condD (fun h => ?_) (fun h => ?_) | refine condB (fun h => ?_) (fun h => ?_) | refine condN (fun h => ?_) (fun h => ?_) | refine condE (fun h => ?_) (fun h => ?_) | refine condV (fun h => ?_) (fun h => ?_))
    all_goals try ((first | refine ev_fin (And.intro (by first | rfl | (simp [AV.pure, pureL]; done) | fail) ?_) | refine ev_fin0 (And.intro (by first | rfl | (simp [AV.pure, pureL]; done) | fail) ?_)); first | rfl | (simp [Bool.cond_eq_ite, *]; done) | (simp [Bool.cond_eq_ite, *]; omega))
  | x :: r, done, x0, T, H, c, n, e, hn, hx0 => by
    have hd : l.length = done.length + (r.length + 1) := by simp [e]
    have hll : (l.map encY).length = l.length := by simp
    have hx : (l.map encY)[n.toNat]? = some (encY x) := by simp [e, hn]
    have hb := x.toNat_lt
    have hr := rd_le (l := done) (n := 3) (by omega)
    refine ev_loop' (W_ok 300 _ _ _ _ ?_)
    repeat' ((conv => whnf); first | refine zShl8 ?_ | refine zOr256 (x := rd done) (c := x.toNat) ?_ hb (by omega) (by omega) rfl | refine bslP (by first | rfl | (simp [pureL, pureLL, AV.pure]; done) | fail) rfl ?_ | refine TakeC.full (by first | rfl | omega | (simp; done) | (simp; omega) | fail) ?_ | refine zBs ?_ | refine zBn ?_ | refine zBv rfl rfl ?_ | refine zN ?_ | refine zC ?_ | refine zC4 ?_ | refine zOr16 ?_ | refine zC1 ?_ | refine zByte ?_ | refine zMaxL ?_ | refine zMaxR ?_ | refine zMinL ?_ | refine zMinR ?_ | refine zShr ?_ | refine zC8 ?_ | refine zQ ?_ | refine zR ?_ | refine zS ?_ | refine zA ?_ | refine zM ?_ | refine xr rfl ?_ | refine ai rfl ?_ | refine condT ?_ | refine condF ?_ | refine condG1 ?_ | refine condG0 ?_ | refine cD ?_ | refine dD ?_ | refine cB ?_ | refine dB ?_ | refine cN ?_ | refine dN ?_ | refine cV ?_ | refine dV ?_ | refine cE ?_ | refine dE ?_ | refine condX0 ?_ | refine condX1 ?_ | refine condNot ?_ | refine condAnd ?_ | refine condOr ?_ | refine aO ?_ | refine aB ?_ | refine aR ?_ | refine aR ?_ (by simp; omega) | refine xr (by assumption) ?_ | refine ai (by assumption) ?_ | refine condD (fun h => ?_) (fun h => ?_) | refine condB (fun h => ?_) (fun h => ?_) | refine condN (fun h => ?_) (fun h => ?_) | refine condE (fun h => ?_) (fun h => ?_) | refine condV (fun h => ?_) (fun h => ?_))
    refine ev_keep [34, 35, 36, 8] [] ?_; exact get_loop110 l h4 hl ln hln r (done ++ [x]) _ _ _ _ (n + 1) (by simp [e]) (by simp [hn] <;> omega) (by rw [rd_snoc])
theorem get_loop113 (l : List UInt8) (h4 : l.length ≤ 4) (hl : l.length < 2 ^ 40) (ln : Int) (hln : ln = l.length) : ∀ (rest done : List UInt8) (x0 : Int) (T : List (Nat × AV)) (H : Heap) (c : Nat) (n : Int) (e : l = done ++ rest) (hn : n = done.length) (hx0 : x0 = (rd done : Nat)), Ev G ⟨f113x9LH, ⟨(34, .sl 1 (l.map encY)) :: (35, .int .i64 ln) :: (36, .int .i64 n) :: (8, .int .u64 x0) :: T, H, c⟩, [.t 6, .t 7], 0⟩ ⟨.tup [.int .u64 (rd l : Nat), .bool true], []⟩
  | [], done, x0, T, H, c, n, e, hn, hx0 => by
    have hd : l.length = done.length := by simp [e]
    have hll : (l.map encY).length = l.length := by simp
    obtain rfl : l = done := by simpa using e
    subst hx0
    refine ev_loop' (W_ok 300 _ _ _ _ ?_)
    repeat' ((conv => whnf); first | refine bslP (by first | rfl | (simp [pureL, pureLL, AV.pure]; done) | fail) rfl ?_ | refine TakeC.full (by first | rfl | omega | (simp; done) | (simp; omega) | fail) ?_ | refine zBs ?_ | refine zBn ?_ | refine zBv rfl rfl ?_ | refine zN ?_ | refine zC ?_ | refine zC4 ?_ | refine zOr16 ?_ | refine zC1 ?_ | refine zByte ?_ | refine zMaxL ?_ | refine zMaxR ?_ | refine zMinL ?_ | refine zMinR ?_ | refine zShr ?_ | refine zC8 ?_ | refine zQ ?_ | refine zR ?_ | refine zS ?_ | refine zA ?_ | refine zM ?_ | refine xr rfl ?_ | refine ai rfl ?_ | refine condT ?_ | refine condF ?_ | refine condG1 ?_ | refine condG0 ?_ | refine cD ?_ | refine dD ?_ | refine cB ?_ | refine dB ?_ | refine cN ?_ | refine dN ?_ | refine cV ?_ | refine dV ?_ | refine cE ?_ | refine dE ?_ | refine condX0 ?_ | refine condX1 ?_ | refine condNot ?_ | refine condAnd ?_ | refine condOr ?_ | refine aO ?_ | refine aB ?_ | refine aR ?_ | refine aR ?_ (by simp; omega) | refine xr (by assumption) ?_ | refine ai (by assumption) ?_ | refine condD (fun h => ?_) (fun h => ?_) | refine condB (fun h => ?_) (fun h => ?_) | refine condN (fun h => ?_) (fun h => ?_) | refine condE (fun h => ?_) (fun h => ?_) | refine condV (fun h => ?_) (fun h => ?_))
    all_goals try ((first | refine ev_fin (And.intro (by first | rfl | (simp [AV.pure, pureL]; done) | fail) ?_) | refine ev_fin0 (And.intro (by first | rfl | (simp [AV.pure, pureL]; done) | fail) ?_)); first | rfl | (simp [Bool.cond_eq_ite, *]; done) | (simp [Bool.cond_eq_ite, *]; omega))
  | x :: r, done, x0, T, H, c, n, e, hn, hx0 => by
    have hd : l.length = done.length + (r.length + 1) := by simp [e]
    have hll : (l.map encY).length = l.length := by simp
    have hx : (l.map encY)[n.toNat]? = some (encY x) := by simp [e, hn]
    have hb := x.toNat_lt
    have hr := rd_le (l := done) (n := 3) (by omega)
    refine ev_loop' (W_ok 300 _ _ _ _ ?_)
    repeat' ((conv => whnf); first | refine zMU ?_ | refine zAU ?_ | refine bslP (by first | rfl | (simp [pureL, pureLL, AV.pure]; done) | fail) rfl ?_ | refine TakeC.full (by first | rfl | omega | (simp; done) | (simp; omega) | fail) ?_ | refine zBs ?_ | refine zBn ?_ | refine zBv rfl rfl ?_ | refine zN ?_ | refine zC ?_ | refine zC4 ?_ | refine zOr16 ?_ | refine zC1 ?_ | refine zByte ?_ | refine zMaxL ?_ | refine zMaxR ?_ | refine zMinL ?_ | refine zMinR ?_ | refine zShr ?_ | refine zC8 ?_ | refine zQ ?_ | refine zR ?_ | refine zS ?_ | refine zA ?_ | refine zM ?_ | refine xr rfl ?_ | refine ai rfl ?_ | refine condT ?_ | refine condF ?_ | refine condG1 ?_ | refine condG0 ?_ | refine cD ?_ | refine dD ?_ | refine cB ?_ | refine dB ?_ | refine cN ?_ | refine dN ?_ | refine cV ?_ | refine dV ?_ | refine cE ?_ | refine dE ?_ | refine condX0 ?_ | refine condX1 ?_ | refine condNot ?_ | refine condAnd ?_ | refine condOr ?_ | refine aO ?_ | refine aB ?_ | refine aR ?_ | refine aR ?_ (by simp; omega) | refine xr (by assumption) ?_ | refine ai (by assumption) ?_ | refine condD (fun h => ?_) (fun h => ?_) | refine condB (fun h => ?_) (fun h => ?_) | refine condN (fun h => ?_) (fun h => ?_) | refine condE (fun h => ?_) (fun h => ?_) | refine condV (fun h => ?_) (fun h => ?_))
    refine ev_keep [34, 35, 36, 8] [] ?_; exact get_loop113 l h4 hl ln hln r (done ++ [x]) _ _ _ _ (n + 1) (by simp [e]) (by simp [hn] <;> omega) (by rw [rd_snoc]; omega)
theorem get_gives110 (b : List UInt8) (hb : b.length < 2 ^ 40) (i k : Int) (h0 : 0 ≤ i) (h1 : 0 ≤ k) (h4 : k ≤ 4) (h : i + k ≤ b.length) : Gives G 110 [.sl 1 (byteCells b), .int .i64 i, .int .i64 k] [] ⟨.tup [.int .u64 (rd ((b.drop i.toNat).take k.toNat) : Nat), .bool true], []⟩ := by
  have hbl := byteCells_length b
  have hl : ((b.drop i.toNat).take k.toNat).length = k.toNat := by simp; omega
  refine gives_code (F := f110) rfl rfl (W_ok 300 _ _ _ _ ?_)
  repeat' ((conv => whnf); first | refine bslP (by first | rfl | (simp [pureL, pureLL, AV.pure]; done) | fail) rfl ?_ | refine TakeC.full (by first | rfl | omega | (simp; done) | (simp; omega) | fail) ?_ | refine zBs ?_ | refine zBn ?_ | refine zBv rfl rfl ?_ | refine zN ?_ | refine zC ?_ | refine zC4 ?_ | refine zOr16 ?_ | refine zC1 ?_ | refine zByte ?_ | refine zMaxL ?_ | refine zMaxR ?_ | refine zMinL ?_ | refine zMinR ?_ | refine zShr ?_ | refine zC8 ?_ | refine zQ ?_ | refine zR ?_ | refine zS ?_ | refine zA ?_ | refine zM ?_ | refine xr rfl ?_ | refine ai rfl ?_ | refine condT ?_ | refine condF ?_ | refine condG1 ?_ | refine condG0 ?_ | refine cD ?_ | refine dD ?_ | refine cB ?_ | refine dB ?_ | refine cN ?_ | refine dN ?_ | refine cV ?_ | refine dV ?_ | refine cE ?_ | refine dE ?_ | refine condX0 ?_ | refine condX1 ?_ | refine condNot ?_ | refine condAnd ?_ | refine condOr ?_ | refine aO ?_ | refine aB ?_ | refine aR ?_ | refine aR ?_ (by simp; omega) | refine xr (by assumption) ?_ | refine ai (by assumption) ?_ | refine condD (fun h => ?_) (fun h => ?_) | refine condB (fun h => ?_) (fun h => ?_) | refine condN (fun h => ?_) (fun h => ?_) | refine condE (fun h => ?_) (fun h => ?_) | refine condV (fun h => ?_) (fun h => ?_))
  rw [cut_eq b i.toNat k.toNat (i + k).toNat (by omega)]
  refine ev_keep [34, 35, 36, 8] [] ?_
  exact get_loop110 _ (by omega) (by omega) _ (by simp) _ [] _ _ _ _ 0 rfl rfl rfl
theorem get_gives113 (b : List UInt8) (hb : b.length < 2 ^ 40) (i k : Int) (h0 : 0 ≤ i) (h1 : 0 ≤ k) (h4 : k ≤ 4) (h : i + k ≤ b.length) : Gives G 113 [.sl 1 (byteCells b), .int .i64 i, .int .i64 k] [] ⟨.tup [.int .u64 (rd ((b.drop i.toNat).take k.toNat) : Nat), .bool true], []⟩ := by
  have hbl := byteCells_length b
  have hl : ((b.drop i.toNat).take k.toNat).length = k.toNat := by simp; omega
  refine gives_code (F := f113) rfl rfl (W_ok 300 _ _ _ _ ?_)
  repeat' ((conv => whnf); first | refine bslP (by first | rfl | (simp [pureL, pureLL, AV.pure]; done) | fail) rfl ?_ | refine TakeC.full (by first | rfl | omega | (simp; done) | (simp; omega) | fail) ?_ | refine zBs ?_ | refine zBn ?_ | refine zBv rfl rfl ?_ | refine zN ?_ | refine zC ?_ | refine zC4 ?_ | refine zOr16 ?_ | refine zC1 ?_ | refine zByte ?_ | refine zMaxL ?_ | refine zMaxR ?_ | refine zMinL ?_ | refine zMinR ?_ | refine zShr ?_ | refine zC8 ?_ | refine zQ ?_ | refine zR ?_ | refine zS ?_ | refine zA ?_ | refine zM ?_ | refine xr rfl ?_ | refine ai rfl ?_ | refine condT ?_ | refine condF ?_ | refine condG1 ?_ | refine condG0 ?_ | refine cD ?_ | refine dD ?_ | refine cB ?_ | refine dB ?_ | refine cN ?_ | refine dN ?_ | refine cV ?_ | refine dV ?_ | refine cE ?_ | refine dE ?_ | refine condX0 ?_ | refine condX1 ?_ | refine condNot ?_ | refine condAnd ?_ | refine condOr ?_ | refine aO ?_ | refine aB ?_ | refine aR ?_ | refine aR ?_ (by simp; omega) | refine xr (by assumption) ?_ | refine ai (by assumption) ?_ | refine condD (fun h => ?_) (fun h => ?_) | refine condB (fun h => ?_) (fun h => ?_) | refine condN (fun h => ?_) (fun h => ?_) | refine condE (fun h => ?_) (fun h => ?_) | refine condV (fun h => ?_) (fun h => ?_))
  rw [cut_eq b i.toNat k.toNat (i + k).toNat (by omega)]
  refine ev_keep [34, 35, 36, 8] [] ?_
  exact get_loop113 _ (by omega) (by omega) _ (by simp) _ [] _ _ _ _ 0 rfl rfl rfl
theorem get_gives93 (b : List UInt8) (hb : b.length < 2 ^ 40) (i k : Int) (h0 : 0 ≤ i) (h1 : 0 ≤ k) (h4 : k ≤ 4) (h : i + k ≤ b.length) : Gives G 93 [.sl 1 (byteCells b), .int .i64 i, .int .i64 k] [] ⟨.int .i64 (rd ((b.drop i.toNat).take k.toNat) : Nat), []⟩ := by
  have hr := rd_le (l := (b.drop i.toNat).take k.toNat) (n := 4) (by simp; omega)
  refine gives_code (F := f93) rfl rfl (W_ok 300 _ _ _ _ ?_)
  repeat' ((conv => whnf); first | refine bslP (by first | rfl | (simp [pureL, pureLL, AV.pure]; done) | fail) rfl ?_ | refine TakeC.full (by first | rfl | omega | (simp; done) | (simp; omega) | fail) ?_ | refine zBs ?_ | refine zBn ?_ | refine zBv rfl rfl ?_ | refine zN ?_ | refine zC ?_ | refine zC4 ?_ | refine zOr16 ?_ | refine zC1 ?_ | refine zByte ?_ | refine zMaxL ?_ | refine zMaxR ?_ | refine zMinL ?_ | refine zMinR ?_ | refine zShr ?_ | refine zC8 ?_ | refine zQ ?_ | refine zR ?_ | refine zS ?_ | refine zA ?_ | refine zM ?_ | refine xr rfl ?_ | refine ai rfl ?_ | refine condT ?_ | refine condF ?_ | refine condG1 ?_ | refine condG0 ?_ | refine cD ?_ | refine dD ?_ | refine cB ?_ | refine dB ?_ | refine cN ?_ | refine dN ?_ | refine cV ?_ | refine dV ?_ | refine cE ?_ | refine dE ?_ | refine condX0 ?_ | refine condX1 ?_ | refine condNot ?_ | refine condAnd ?_ | refine condOr ?_ | refine aO ?_ | refine aB ?_ | refine aR ?_ | refine aR ?_ (by simp; omega) | refine xr (by assumption) ?_ | refine ai (by assumption) ?_ | refine kV (get_gives110 b hb i k h0 h1 h4 h) ?_ | refine condD (fun h => ?_) (fun h => ?_) | refine condB (fun h => ?_) (fun h => ?_) | refine condN (fun h => ?_) (fun h => ?_) | refine condE (fun h => ?_) (fun h => ?_) | refine condV (fun h => ?_) (fun h => ?_))
  all_goals try ((first | refine ev_fin (And.intro (by first | rfl | (simp [AV.pure, pureL]; done) | fail) ?_) | refine ev_fin0 (And.intro (by first | rfl | (simp [AV.pure, pureL]; done) | fail) ?_)); first | rfl | (simp [Bool.cond_eq_ite, *]; done) | (simp [Bool.cond_eq_ite, *]; omega))
theorem number_gives100 (b : List UInt8) (hb : b.length < 2 ^ 40) (i k : Int) (h0 : 0 ≤ i) (h1 : 0 ≤ k) (h4 : k ≤ 4) (h : i + k ≤ b.length) : Gives G 100 [.sl 1 (byteCells b), .int .i64 i, .int .i64 k] [] ⟨.int .i64 (rd ((b.drop i.toNat).take k.toNat) : Nat), []⟩ := by
  have hr := rd_le (l := (b.drop i.toNat).take k.toNat) (n := 4) (by simp; omega)
  refine gives_code (F := f100) rfl rfl (W_ok 300 _ _ _ _ ?_)
  repeat' ((conv => whnf); first | refine bslP (by first | rfl | (simp [pureL, pureLL, AV.pure]; done) | fail) rfl ?_ | refine TakeC.full (by first | rfl | omega | (simp; done) | (simp; omega) | fail) ?_ | refine zBs ?_ | refine zBn ?_ | refine zBv rfl rfl ?_ | refine zN ?_ | refine zC ?_ | refine zC4 ?_ | refine zOr16 ?_ | refine zC1 ?_ | refine zByte ?_ | refine zMaxL ?_ | refine zMaxR ?_ | refine zMinL ?_ | refine zMinR ?_ | refine zShr ?_ | refine zC8 ?_ | refine zQ ?_ | refine zR ?_ | refine zS ?_ | refine zA ?_ | refine zM ?_ | refine xr rfl ?_ | refine ai rfl ?_ | refine condT ?_ | refine condF ?_ | refine condG1 ?_ | refine condG0 ?_ | refine cD ?_ | refine dD ?_ | refine cB ?_ | refine dB ?_ | refine cN ?_ | refine dN ?_ | refine cV ?_ | refine dV ?_ | refine cE ?_ | refine dE ?_ | refine condX0 ?_ | refine condX1 ?_ | refine condNot ?_ | refine condAnd ?_ | refine condOr ?_ | refine aO ?_ | refine aB ?_ | refine aR ?_ | refine aR ?_ (by simp; omega) | refine xr (by assumption) ?_ | refine ai (by assumption) ?_ | refine kV (get_gives113 b hb i k h0 h1 h4 h) ?_ | refine condD (fun h => ?_) (fun h => ?_) | refine condB (fun h => ?_) (fun h => ?_) | refine condN (fun h => ?_) (fun h => ?_) | refine condE (fun h => ?_) (fun h => ?_) | refine condV (fun h => ?_) (fun h => ?_))
  all_goals try ((first | refine ev_fin (And.intro (by first | rfl | (simp [AV.pure, pureL]; done) | fail) ?_) | refine ev_fin0 (And.intro (by first | rfl | (simp [AV.pure, pureL]; done) | fail) ?_)); first | rfl | (simp [Bool.cond_eq_ite, *]; done) | (simp [Bool.cond_eq_ite, *]; omega))
end Go.AM.IR
set_option maxHeartbeats 4000000
set_option maxRecDepth 20000
namespace Go.AM.IR
def numsD (w n : Nat) (b : List UInt8) : List Int := (List.range n).map fun i => ((rd ((b.drop (i * w)).take w) : Nat) : Int)
theorem numsD_succ (w n : Nat) (b : List UInt8) : numsD w (n + 1) b = numsD w n b ++ [((rd ((b.drop (n * w)).take w) : Nat) : Int)] := by
  simp [numsD, List.range_succ]
@[simp] theorem numsD_length (w n : Nat) (b : List UInt8) : (numsD w n b).length = n := by simp [numsD]
def wordsD (b : List UInt8) : List Int := numsD 4 (b.length / 4) b
def wordsOk (b : List UInt8) : Bool := decide (0 < b.length ∧ b.length % 4 = 0)
theorem rTB {a : AV} {p q : Bool} (h : p = q) : (⟨.tup [a, .bool p], []⟩ : Ret) = ⟨.tup [a, .bool q], []⟩ := by rw [h]
def wordsR (b : List UInt8) : Ret := ⟨.tup [.sl 1 ((wordsD b).map encU), .bool (wordsOk b)], []⟩
theorem words_loop112 (b : List UInt8) (hb : b.length < 2 ^ 30) : ∀ (k j : Nat) (T : List (Nat × AV)) (H : Heap) (c g m : Nat) (es : List (List AV)) (i : Int) (hi : i = 4 * (j : Int)) (hj : j + k = b.length / 4) (hm : m = j) (hes : es = (numsD 4 j b).map encU),
   Ev G ⟨f112x6LH, ⟨(5, .int .i64 i) :: (0, .sl 1 (byteCells b)) :: (4, .vs 83 g m) :: T, (83, some (g, .vec 1 es)) :: H, c⟩, [.t 2, .t 3], 0⟩ (wordsR b)
  | 0, j, T, H, c, g, m, es, i, hi, hj, hm, hes => by
    have hbl := byteCells_length b
    subst hes
    have e1 : numsD 4 j b = wordsD b := by simp [wordsD, ← hj]
    rw [e1]
    have hel : ((wordsD b).map encU).length = m := by rw [← e1]; simp [hm]
    refine ev_frzk [(83, _, _)] [4, 5, 0] [] ⟨rfl, (by first | rfl | (simp [Blk.pure, pureL, pureLL, AV.pure, *]; done) | fail), trivial⟩ ?_; repeat ((conv => whnf); first | refine And.intro (by first | rfl | omega | (simp [pureL, pureLL, AV.pure]; done) | (simp; omega) | (simp [pureL, pureLL, AV.pure, *]; done) | assumption | fail) ?_ | intro T H)
    refine ev_loop' (W_ok 300 _ _ _ _ ?_)
    repeat' ((conv => whnf); first | refine bslP (by first | rfl | (simp [pureL, pureLL, AV.pure]; done) | fail) rfl ?_ | refine TakeC.full (by first | rfl | omega | (simp; done) | (simp; omega) | fail) ?_ | refine zBs ?_ | refine zBn ?_ | refine zBv rfl rfl ?_ | refine zN ?_ | refine zC ?_ | refine zC4 ?_ | refine zOr16 ?_ | refine zC1 ?_ | refine zByte ?_ | refine zMaxL ?_ | refine zMaxR ?_ | refine zMinL ?_ | refine zMinR ?_ | refine zShr ?_ | refine zC8 ?_ | refine zQ ?_ | refine zR ?_ | refine zS ?_ | refine zA ?_ | refine zM ?_ | refine xr rfl ?_ | refine ai rfl ?_ | refine condT ?_ | refine condF ?_ | refine condG1 ?_ | refine condG0 ?_ | refine cD ?_ | refine dD ?_ | refine cB ?_ | refine dB ?_ | refine cN ?_ | refine dN ?_ | refine cV ?_ | refine dV ?_ | refine cE ?_ | refine dE ?_ | refine condX0 ?_ | refine condX1 ?_ | refine condNot ?_ | refine condAnd ?_ | refine condOr ?_ | refine aO ?_ | refine aB ?_ | refine aR ?_ | refine aR ?_ (by simp; omega) | refine xr (by assumption) ?_ | refine ai (by assumption) ?_ | refine condD (fun h => ?_) (fun h => ?_) | refine condB (fun h => ?_) (fun h => ?_) | refine condN (fun h => ?_) (fun h => ?_) | refine condE (fun h => ?_) (fun h => ?_) | refine condV (fun h => ?_) (fun h => ?_))
    all_goals ((first | refine ev_fin (And.intro (by first | rfl | (simp [AV.pure, pureL]; done) | fail) ?_) | refine ev_fin0 (And.intro (by first | rfl | (simp [AV.pure, pureL]; done) | fail) ?_)); exact rTB (by rw [wordsOk, Bool.eq_iff_iff]; simp; omega))
  | k + 1, j, T, H, c, g, m, es, i, hi, hj, hm, hes => by
    have hbl := byteCells_length b
    have hel : es.length = j := by simp [hes]
    have hget := get_gives93 b (by omega) i 4 (by omega) (by omega) (by omega) (by omega)
    rw [show (4 : Int).toNat = 4 from rfl] at hget
    have hr := rd_le (l := (b.drop i.toNat).take 4) (n := 4) (by simp; omega)
    refine ev_loop' (W_ok 300 _ _ _ _ ?_)
    repeat' ((conv => whnf); first | refine bslP (by first | rfl | (simp [pureL, pureLL, AV.pure]; done) | fail) rfl ?_ | refine TakeC.full (by first | rfl | omega | (simp; done) | (simp; omega) | fail) ?_ | refine zBs ?_ | refine zBn ?_ | refine zBv rfl rfl ?_ | refine zN ?_ | refine zC ?_ | refine zC4 ?_ | refine zOr16 ?_ | refine zC1 ?_ | refine zByte ?_ | refine zMaxL ?_ | refine zMaxR ?_ | refine zMinL ?_ | refine zMinR ?_ | refine zShr ?_ | refine zC8 ?_ | refine zQ ?_ | refine zR ?_ | refine zS ?_ | refine zA ?_ | refine zM ?_ | refine xr rfl ?_ | refine ai rfl ?_ | refine condT ?_ | refine condF ?_ | refine condG1 ?_ | refine condG0 ?_ | refine cD ?_ | refine dD ?_ | refine cB ?_ | refine dB ?_ | refine cN ?_ | refine dN ?_ | refine cV ?_ | refine dV ?_ | refine cE ?_ | refine dE ?_ | refine condX0 ?_ | refine condX1 ?_ | refine condNot ?_ | refine condAnd ?_ | refine condOr ?_ | refine aO ?_ | refine aB ?_ | refine aR ?_ | refine aR ?_ (by simp; omega) | refine xr (by assumption) ?_ | refine ai (by assumption) ?_ | refine kV (hget) ?_ | refine condD (fun h => ?_) (fun h => ?_) | refine condB (fun h => ?_) (fun h => ?_) | refine condN (fun h => ?_) (fun h => ?_) | refine condE (fun h => ?_) (fun h => ?_) | refine condV (fun h => ?_) (fun h => ?_))
    refine ev_keep [5, 0, 4] [83] ?_
    refine words_loop112 b hb k (j + 1) _ _ _ _ _ _ (i + 4) (by omega) (by omega) (by simp [hm]) ?_
    rw [hes, numsD_succ, show i.toNat = j * 4 from by omega]
    simp [encU]
theorem words_gives112 (b : List UInt8) (hb : b.length < 2 ^ 30) : Gives G 112 [.sl 1 (byteCells b)] [] (wordsR b) := by
  refine gives_code (F := f112) rfl rfl (W_ok 300 _ _ _ _ ?_)
  repeat' ((conv => whnf); first | refine bslP (by first | rfl | (simp [pureL, pureLL, AV.pure]; done) | fail) rfl ?_ | refine TakeC.full (by first | rfl | omega | (simp; done) | (simp; omega) | fail) ?_ | refine zBs ?_ | refine zBn ?_ | refine zBv rfl rfl ?_ | refine zN ?_ | refine zC ?_ | refine zC4 ?_ | refine zOr16 ?_ | refine zC1 ?_ | refine zByte ?_ | refine zMaxL ?_ | refine zMaxR ?_ | refine zMinL ?_ | refine zMinR ?_ | refine zShr ?_ | refine zC8 ?_ | refine zQ ?_ | refine zR ?_ | refine zS ?_ | refine zA ?_ | refine zM ?_ | refine xr rfl ?_ | refine ai rfl ?_ | refine condT ?_ | refine condF ?_ | refine condG1 ?_ | refine condG0 ?_ | refine cD ?_ | refine dD ?_ | refine cB ?_ | refine dB ?_ | refine cN ?_ | refine dN ?_ | refine cV ?_ | refine dV ?_ | refine cE ?_ | refine dE ?_ | refine condX0 ?_ | refine condX1 ?_ | refine condNot ?_ | refine condAnd ?_ | refine condOr ?_ | refine aO ?_ | refine aB ?_ | refine aR ?_ | refine aR ?_ (by simp; omega) | refine xr (by assumption) ?_ | refine ai (by assumption) ?_ | refine condD (fun h => ?_) (fun h => ?_) | refine condB (fun h => ?_) (fun h => ?_) | refine condN (fun h => ?_) (fun h => ?_) | refine condE (fun h => ?_) (fun h => ?_) | refine condV (fun h => ?_) (fun h => ?_))
  refine ev_nil 83 1 [(4, .vs 83 _ 0)] [] ⟨LeP.nilV _ _ _, trivial⟩ trivial ?_
  refine ev_keep [5, 0, 4] [83] ?_
  exact words_loop112 b hb (b.length / 4) 0 _ _ _ _ 0 _ 0 (by omega) (by omega) rfl rfl
theorem words_loop115 (b : List UInt8) (hb : b.length < 2 ^ 30) : ∀ (k j : Nat) (T : List (Nat × AV)) (H : Heap) (c g m : Nat) (es : List (List AV)) (i : Int) (hi : i = 4 * (j : Int)) (hj : j + k = b.length / 4) (hm : m = j) (hes : es = (numsD 4 j b).map encU),
   Ev G ⟨f115x6LH, ⟨(5, .int .i64 i) :: (0, .sl 1 (byteCells b)) :: (4, .vs 83 g m) :: T, (83, some (g, .vec 1 es)) :: H, c⟩, [.t 2, .t 3], 0⟩ (wordsR b)
  | 0, j, T, H, c, g, m, es, i, hi, hj, hm, hes => by
    have hbl := byteCells_length b
    subst hes
    have e1 : numsD 4 j b = wordsD b := by simp [wordsD, ← hj]
    rw [e1]
    have hel : ((wordsD b).map encU).length = m := by rw [← e1]; simp [hm]
    refine ev_frzk [(83, _, _)] [4, 5, 0] [] ⟨rfl, (by first | rfl | (simp [Blk.pure, pureL, pureLL, AV.pure, *]; done) | fail), trivial⟩ ?_; repeat ((conv => whnf); first | refine And.intro (by first | rfl | omega | (simp [pureL, pureLL, AV.pure]; done) | (simp; omega) | (simp [pureL, pureLL, AV.pure, *]; done) | assumption | fail) ?_ | intro T H)
    refine ev_loop' (W_ok 300 _ _ _ _ ?_)
    repeat' ((conv => whnf); first | refine bslP (by first | rfl | (simp [pureL, pureLL, AV.pure]; done) | fail) rfl ?_ | refine TakeC.full (by first | rfl | omega | (simp; done) | (simp; omega) | fail) ?_ | refine zBs ?_ | refine zBn ?_ | refine zBv rfl rfl ?_ | refine zN ?_ | refine zC ?_ | refine zC4 ?_ | refine zOr16 ?_ | refine zC1 ?_ | refine zByte ?_ | refine zMaxL ?_ | refine zMaxR ?_ | refine zMinL ?_ | refine zMinR ?_ | refine zShr ?_ | refine zC8 ?_ | refine zQ ?_ | refine zR ?_ | refine zS ?_ | refine zA ?_ | refine zM ?_ | refine xr rfl ?_ | refine ai rfl ?_ | refine condT ?_ | refine condF ?_ | refine condG1 ?_ | refine condG0 ?_ | refine cD ?_ | refine dD ?_ | refine cB ?_ | refine dB ?_ | refine cN ?_ | refine dN ?_ | refine cV ?_ | refine dV ?_ | refine cE ?_ | refine dE ?_ | refine condX0 ?_ | refine condX1 ?_ | refine condNot ?_ | refine condAnd ?_ | refine condOr ?_ | refine aO ?_ | refine aB ?_ | refine aR ?_ | refine aR ?_ (by simp; omega) | refine xr (by assumption) ?_ | refine ai (by assumption) ?_ | refine condD (fun h => ?_) (fun h => ?_) | refine condB (fun h => ?_) (fun h => ?_) | refine condN (fun h => ?_) (fun h => ?_) | refine condE (fun h => ?_) (fun h => ?_) | refine condV (fun h => ?_) (fun h => ?_))
    all_goals ((first | refine ev_fin (And.intro (by first | rfl | (simp [AV.pure, pureL]; done) | fail) ?_) | refine ev_fin0 (And.intro (by first | rfl | (simp [AV.pure, pureL]; done) | fail) ?_)); exact rTB (by rw [wordsOk, Bool.eq_iff_iff]; simp; omega))
  | k + 1, j, T, H, c, g, m, es, i, hi, hj, hm, hes => by
    have hbl := byteCells_length b
    have hel : es.length = j := by simp [hes]
    have hget := number_gives100 b (by omega) i 4 (by omega) (by omega) (by omega) (by omega)
    rw [show (4 : Int).toNat = 4 from rfl] at hget
    have hr := rd_le (l := (b.drop i.toNat).take 4) (n := 4) (by simp; omega)
    refine ev_loop' (W_ok 300 _ _ _ _ ?_)
    repeat' ((conv => whnf); first | refine bslP (by first | rfl | (simp [pureL, pureLL, AV.pure]; done) | fail) rfl ?_ | refine TakeC.full (by first | rfl | omega | (simp; done) | (simp; omega) | fail) ?_ | refine zBs ?_ | refine zBn ?_ | refine zBv rfl rfl ?_ | refine zN ?_ | refine zC ?_ | refine zC4 ?_ | refine zOr16 ?_ | refine zC1 ?_ | refine zByte ?_ | refine zMaxL ?_ | refine zMaxR ?_ | refine zMinL ?_ | refine zMinR ?_ | refine zShr ?_ | refine zC8 ?_ | refine zQ ?_ | refine zR ?_ | refine zS ?_ | refine zA ?_ | refine zM ?_ | refine xr rfl ?_ | refine ai rfl ?_ | refine condT ?_ | refine condF ?_ | refine condG1 ?_ | refine condG0 ?_ | refine cD ?_ | refine dD ?_ | refine cB ?_ | refine dB ?_ | refine cN ?_ | refine dN ?_ | refine cV ?_ | refine dV ?_ | refine cE ?_ | refine dE ?_ | refine condX0 ?_ | refine condX1 ?_ | refine condNot ?_ | refine condAnd ?_ | refine condOr ?_ | refine aO ?_ | refine aB ?_ | refine aR ?_ | refine aR ?_ (by simp; omega) | refine xr (by assumption) ?_ | refine ai (by assumption) ?_ | refine kV (hget) ?_ | refine condD (fun h => ?_) (fun h => ?_) | refine condB (fun h => ?_) (fun h => ?_) | refine condN (fun h => ?_) (fun h => ?_) | refine condE (fun h => ?_) (fun h => ?_) | refine condV (fun h => ?_) (fun h => ?_))
    refine ev_keep [5, 0, 4] [83] ?_
    refine words_loop115 b hb k (j + 1) _ _ _ _ _ _ (i + 4) (by omega) (by omega) (by simp [hm]) ?_
    rw [hes, numsD_succ, show i.toNat = j * 4 from by omega]
    simp [encU]
theorem words_gives115 (b : List UInt8) (hb : b.length < 2 ^ 30) : Gives G 115 [.sl 1 (byteCells b)] [] (wordsR b) := by
  refine gives_code (F := f115) rfl rfl (W_ok 300 _ _ _ _ ?_)
  repeat' ((conv => whnf); first | refine bslP (by first | rfl | (simp [pureL, pureLL, AV.pure]; done) | fail) rfl ?_ | refine TakeC.full (by first | rfl | omega | (simp; done) | (simp; omega) | fail) ?_ | refine zBs ?_ | refine zBn ?_ | refine zBv rfl rfl ?_ | refine zN ?_ | refine zC ?_ | refine zC4 ?_ | refine zOr16 ?_ | refine zC1 ?_ | refine zByte ?_ | refine zMaxL ?_ | refine zMaxR ?_ | refine zMinL ?_ | refine zMinR ?_ | refine zShr ?_ | refine zC8 ?_ | refine zQ ?_ | refine zR ?_ | refine zS ?_ | refine zA ?_ | refine zM ?_ | refine xr rfl ?_ | refine ai rfl ?_ | refine condT ?_ | refine condF ?_ | refine condG1 ?_ | refine condG0 ?_ | refine cD ?_ | refine dD ?_ | refine cB ?_ | refine dB ?_ | refine cN ?_ | refine dN ?_ | refine cV ?_ | refine dV ?_ | refine cE ?_ | refine dE ?_ | refine condX0 ?_ | refine condX1 ?_ | refine condNot ?_ | refine condAnd ?_ | refine condOr ?_ | refine aO ?_ | refine aB ?_ | refine aR ?_ | refine aR ?_ (by simp; omega) | refine xr (by assumption) ?_ | refine ai (by assumption) ?_ | refine condD (fun h => ?_) (fun h => ?_) | refine condB (fun h => ?_) (fun h => ?_) | refine condN (fun h => ?_) (fun h => ?_) | refine condE (fun h => ?_) (fun h => ?_) | refine condV (fun h => ?_) (fun h => ?_))
  refine ev_nil 83 1 [(4, .vs 83 _ 0)] [] ⟨LeP.nilV _ _ _, trivial⟩ trivial ?_
  refine ev_keep [5, 0, 4] [83] ?_
  exact words_loop115 b hb (b.length / 4) 0 _ _ _ _ 0 _ 0 (by omega) (by omega) rfl rfl
end Go.AM.IR
set_option maxHeartbeats 4000000
set_option maxRecDepth 20000
namespace Go.AM.IR
def segsF (w : Nat) : Nat → List UInt8 → Option (List Seg)
  | _, [] => some []
  | 0, _ :: _ => none
  | _ + 1, [_] => none
  | f + 1, k :: n :: r => if n.toNat = 0 ∨ r.length < n.toNat * w then none else (segsF w f (r.drop (n.toNat * w))).map fun l => ⟨(k.toNat : Int), numsD w n.toNat r⟩ :: l
def segsD (w : Nat) (b : List UInt8) : Option (List Seg) := segsF w b.length b
def pathR : Option (List Seg) → Ret
  | none => ⟨.tup [.con (.slice none 0 0), .bool false], []⟩
  | some l => ⟨.tup [.sl 2 (l.map Seg.enc), .bool true], []⟩
theorem tail_eq (b : List UInt8) (i n : Nat) (h : n = b.length) : ((byteCells b).drop i).take (n - i) = byteCells (b.drop i) := by
  subst h
  rw [List.take_of_length_le (by simp)]
  simp [byteCells]
theorem seg_loop111 (b r : List UInt8) (k n : UInt8) (hb : b = k :: n :: r) (w : Nat) (hw : w ≤ 4) (hl : b.length < 2 ^ 30) (hn : n.toNat * w ≤ r.length) (acc : List Seg) (ha : acc.length < 2 ^ 30) (R : Ret)
  (go : ∀ (T : List (Nat × AV)) (H : Heap) (c g m : Nat) (es : List (List AV)), m = acc.length + 1 → es = (acc ++ [(⟨(k.toNat : Int), numsD w n.toNat r⟩ : Seg)]).map Seg.enc → Ev G ⟨f111x15LH, ⟨(1, .int .i64 (w : Int)) :: (0, .sl 1 (byteCells (r.drop (n.toNat * w)))) :: (6, .vs 127 g m) :: T, (127, some (g, .vec 2 es)) :: H, c⟩, [.t 4, .t 5], 0⟩ R) :
  ∀ (j i : Nat) (T : List (Nat × AV)) (H : Heap) (c g1 g2 g3 m1 m2 : Nat) (es1 es2 : List (List AV)) (hij : i + j = n.toNat) (hm1 : m1 = i) (hes1 : es1 = (numsD w i r).map encI) (hm2 : m2 = acc.length) (hes2 : es2 = acc.map Seg.enc),
   Ev G ⟨f111x12LH, ⟨(44, .int .i64 (i : Int)) :: (7, .ref 71 g3 0) :: (1, .int .i64 (w : Int)) :: (0, .sl 1 (byteCells b)) :: (8, .int .i64 (n.toNat : Int)) :: (6, .vs 127 g2 m2) :: (43, .int .i64 (n.toNat : Int)) :: T, (71, some (g3, .cells [.int .i64 (k.toNat : Int), .vs 121 g1 m1])) :: (121, some (g1, .vec 1 es1)) :: (127, some (g2, .vec 2 es2)) :: H, c⟩, [.t 4, .t 5], 0⟩ R
  | 0, i, T, H, c, g1, g2, g3, m1, m2, es1, es2, hij, hm1, hes1, hm2, hes2 => by
    have hbl := byteCells_length b
    have hrl : b.length = r.length + 2 := by rw [hb]; simp
    have hnl := n.toNat_lt
    obtain rfl : i = n.toNat := by omega
    subst hes1 hes2 hm1 hm2
    have hel : ((numsD w n.toNat r).map encI).length = n.toNat := by simp
    have hnn : (n.toNat : Int) * (w : Int) = ((n.toNat * w : Nat) : Int) := by simp
    refine ev_frzk [(121, _, _)] [44, 7, 1, 0, 8, 6, 43] [71, 127] ⟨rfl, (by first | rfl | (simp [Blk.pure, pureL, pureLL, AV.pure, *]; done) | fail), trivial⟩ ?_; repeat ((conv => whnf); first | refine And.intro (by first | rfl | omega | (simp [pureL, pureLL, AV.pure]; done) | (simp; omega) | (simp [pureL, pureLL, AV.pure, *]; done) | assumption | fail) ?_ | intro T H)
    refine ev_loop' (W_ok 300 _ _ _ _ ?_)
    repeat' ((conv => whnf); first | refine bslP (by first | rfl | (simp [pureL, pureLL, AV.pure]; done) | fail) rfl ?_ | refine TakeC.full (by first | rfl | omega | (simp; done) | (simp; omega) | fail) ?_ | refine zBs ?_ | refine zBn ?_ | refine zBv rfl rfl ?_ | refine zN ?_ | refine zC ?_ | refine zC4 ?_ | refine zOr16 ?_ | refine zC1 ?_ | refine zByte ?_ | refine zMaxL ?_ | refine zMaxR ?_ | refine zMinL ?_ | refine zMinR ?_ | refine zShr ?_ | refine zC8 ?_ | refine zQ ?_ | refine zR ?_ | refine zS ?_ | refine zA ?_ | refine zM ?_ | refine xr rfl ?_ | refine ai rfl ?_ | refine condT ?_ | refine condF ?_ | refine condG1 ?_ | refine condG0 ?_ | refine cD ?_ | refine dD ?_ | refine cB ?_ | refine dB ?_ | refine cN ?_ | refine dN ?_ | refine cV ?_ | refine dV ?_ | refine cE ?_ | refine dE ?_ | refine condX0 ?_ | refine condX1 ?_ | refine condNot ?_ | refine condAnd ?_ | refine condOr ?_ | refine aO ?_ | refine aB ?_ | refine aR ?_ | refine aR ?_ (by simp; omega) | refine xr (by assumption) ?_ | refine ai (by assumption) ?_ | refine condD (fun h => ?_) (fun h => ?_) | refine condB (fun h => ?_) (fun h => ?_) | refine condN (fun h => ?_) (fun h => ?_) | refine condE (fun h => ?_) (fun h => ?_) | refine condV (fun h => ?_) (fun h => ?_))
    refine ev_keep [1, 0, 6] [127] ?_
    rw [tail_eq b _ _ (by omega), show b.drop (2 + (n.toNat : Int) * (w : Int)).toNat = r.drop (n.toNat * w) from by rw [show (2 + (n.toNat : Int) * (w : Int)).toNat = n.toNat * w + 2 from by omega, hb]; rfl]
    exact go _ _ _ _ _ _ (by simp) (by simp [Seg.enc])
  | j + 1, i, T, H, c, g1, g2, g3, m1, m2, es1, es2, hij, hm1, hes1, hm2, hes2 => by
    have hbl := byteCells_length b
    have hrl : b.length = r.length + 2 := by rw [hb]; simp
    have hnl := n.toNat_lt
    have hel : es1.length = i := by simp [hes1]
    have hnn : (i : Int) * (w : Int) = ((i * w : Nat) : Int) := by simp
    have h2 : (i + 1) * w ≤ n.toNat * w := Nat.mul_le_mul_right _ (by omega)
    rw [Nat.add_mul] at h2
    have hget := get_gives93 b (by omega) (2 + (i : Int) * (w : Int)) (w : Int) (by omega) (by omega) (by omega) (by omega)
    rw [show (2 + (i : Int) * (w : Int)).toNat = i * w + 2 from by omega, Int.toNat_natCast, show b.drop (i * w + 2) = r.drop (i * w) from by rw [hb]; rfl] at hget
    refine ev_loop' (W_ok 300 _ _ _ _ ?_)
    repeat' ((conv => whnf); first | refine bslP (by first | rfl | (simp [pureL, pureLL, AV.pure]; done) | fail) rfl ?_ | refine TakeC.full (by first | rfl | omega | (simp; done) | (simp; omega) | fail) ?_ | refine zBs ?_ | refine zBn ?_ | refine zBv rfl rfl ?_ | refine zN ?_ | refine zC ?_ | refine zC4 ?_ | refine zOr16 ?_ | refine zC1 ?_ | refine zByte ?_ | refine zMaxL ?_ | refine zMaxR ?_ | refine zMinL ?_ | refine zMinR ?_ | refine zShr ?_ | refine zC8 ?_ | refine zQ ?_ | refine zR ?_ | refine zS ?_ | refine zA ?_ | refine zM ?_ | refine xr rfl ?_ | refine ai rfl ?_ | refine condT ?_ | refine condF ?_ | refine condG1 ?_ | refine condG0 ?_ | refine cD ?_ | refine dD ?_ | refine cB ?_ | refine dB ?_ | refine cN ?_ | refine dN ?_ | refine cV ?_ | refine dV ?_ | refine cE ?_ | refine dE ?_ | refine condX0 ?_ | refine condX1 ?_ | refine condNot ?_ | refine condAnd ?_ | refine condOr ?_ | refine aO ?_ | refine aB ?_ | refine aR ?_ | refine aR ?_ (by simp; omega) | refine xr (by assumption) ?_ | refine ai (by assumption) ?_ | refine kV (hget) ?_ | refine condD (fun h => ?_) (fun h => ?_) | refine condB (fun h => ?_) (fun h => ?_) | refine condN (fun h => ?_) (fun h => ?_) | refine condE (fun h => ?_) (fun h => ?_) | refine condV (fun h => ?_) (fun h => ?_))
    refine ev_keep [44, 7, 1, 0, 8, 6, 43] [71, 121, 127] ?_
    exact seg_loop111 b r k n hb w hw hl hn acc ha R go j (i + 1) _ _ _ _ _ _ _ _ _ _ (by omega) (by simp [hm1]) (by rw [hes1, numsD_succ]; simp [encI]) hm2 hes2
theorem path_loop111 (w : Nat) (hw : w ≤ 4) : ∀ (f : Nat) (b : List UInt8) (acc : List Seg) (T : List (Nat × AV)) (H : Heap) (c g m : Nat) (es : List (List AV)) (hf : b.length ≤ f) (hl : b.length + acc.length < 2 ^ 30) (hm : m = acc.length) (hes : es = acc.map Seg.enc),
   Ev G ⟨f111x15LH, ⟨(1, .int .i64 (w : Int)) :: (0, .sl 1 (byteCells b)) :: (6, .vs 127 g m) :: T, (127, some (g, .vec 2 es)) :: H, c⟩, [.t 4, .t 5], 0⟩ (pathR ((segsF w f b).map fun l => acc ++ l))
  | f, [], acc, T, H, c, g, m, es, hf, hl, hm, hes => by
    subst hes
    have hel : (acc.map Seg.enc).length = m := by simp [hm]
    refine ev_frzk [(127, _, _)] [0, 6] [] ⟨rfl, (by first | rfl | (simp [Blk.pure, pureL, pureLL, AV.pure, *]; done) | fail), trivial⟩ ?_; repeat ((conv => whnf); first | refine And.intro (by first | rfl | omega | (simp [pureL, pureLL, AV.pure]; done) | (simp; omega) | (simp [pureL, pureLL, AV.pure, *]; done) | assumption | fail) ?_ | intro T H)
    refine ev_loop' (W_ok 300 _ _ _ _ ?_)
    repeat' ((conv => whnf); first | refine bslP (by first | rfl | (simp [pureL, pureLL, AV.pure]; done) | fail) rfl ?_ | refine TakeC.full (by first | rfl | omega | (simp; done) | (simp; omega) | fail) ?_ | refine zBs ?_ | refine zBn ?_ | refine zBv rfl rfl ?_ | refine zN ?_ | refine zC ?_ | refine zC4 ?_ | refine zOr16 ?_ | refine zC1 ?_ | refine zByte ?_ | refine zMaxL ?_ | refine zMaxR ?_ | refine zMinL ?_ | refine zMinR ?_ | refine zShr ?_ | refine zC8 ?_ | refine zQ ?_ | refine zR ?_ | refine zS ?_ | refine zA ?_ | refine zM ?_ | refine xr rfl ?_ | refine ai rfl ?_ | refine condT ?_ | refine condF ?_ | refine condG1 ?_ | refine condG0 ?_ | refine cD ?_ | refine dD ?_ | refine cB ?_ | refine dB ?_ | refine cN ?_ | refine dN ?_ | refine cV ?_ | refine dV ?_ | refine cE ?_ | refine dE ?_ | refine condX0 ?_ | refine condX1 ?_ | refine condNot ?_ | refine condAnd ?_ | refine condOr ?_ | refine aO ?_ | refine aB ?_ | refine aR ?_ | refine aR ?_ (by simp; omega) | refine xr (by assumption) ?_ | refine ai (by assumption) ?_ | refine condD (fun h => ?_) (fun h => ?_) | refine condB (fun h => ?_) (fun h => ?_) | refine condN (fun h => ?_) (fun h => ?_) | refine condE (fun h => ?_) (fun h => ?_) | refine condV (fun h => ?_) (fun h => ?_))
    all_goals ((first | refine ev_fin (And.intro (by first | rfl | (simp [AV.pure, pureL]; done) | fail) ?_) | refine ev_fin0 (And.intro (by first | rfl | (simp [AV.pure, pureL]; done) | fail) ?_)); cases f <;> simp [segsF, pathR])
  | f + 1, [k], acc, T, H, c, g, m, es, hf, hl, hm, hes => by
    refine ev_loop' (W_ok 300 _ _ _ _ ?_)
    repeat' ((conv => whnf); first | refine bslP (by first | rfl | (simp [pureL, pureLL, AV.pure]; done) | fail) rfl ?_ | refine TakeC.full (by first | rfl | omega | (simp; done) | (simp; omega) | fail) ?_ | refine zBs ?_ | refine zBn ?_ | refine zBv rfl rfl ?_ | refine zN ?_ | refine zC ?_ | refine zC4 ?_ | refine zOr16 ?_ | refine zC1 ?_ | refine zByte ?_ | refine zMaxL ?_ | refine zMaxR ?_ | refine zMinL ?_ | refine zMinR ?_ | refine zShr ?_ | refine zC8 ?_ | refine zQ ?_ | refine zR ?_ | refine zS ?_ | refine zA ?_ | refine zM ?_ | refine xr rfl ?_ | refine ai rfl ?_ | refine condT ?_ | refine condF ?_ | refine condG1 ?_ | refine condG0 ?_ | refine cD ?_ | refine dD ?_ | refine cB ?_ | refine dB ?_ | refine cN ?_ | refine dN ?_ | refine cV ?_ | refine dV ?_ | refine cE ?_ | refine dE ?_ | refine condX0 ?_ | refine condX1 ?_ | refine condNot ?_ | refine condAnd ?_ | refine condOr ?_ | refine aO ?_ | refine aB ?_ | refine aR ?_ | refine aR ?_ (by simp; omega) | refine xr (by assumption) ?_ | refine ai (by assumption) ?_ | refine condD (fun h => ?_) (fun h => ?_) | refine condB (fun h => ?_) (fun h => ?_) | refine condN (fun h => ?_) (fun h => ?_) | refine condE (fun h => ?_) (fun h => ?_) | refine condV (fun h => ?_) (fun h => ?_))
    all_goals ((first | refine ev_fin (And.intro (by first | rfl | (simp [AV.pure, pureL]; done) | fail) ?_) | refine ev_fin0 (And.intro (by first | rfl | (simp [AV.pure, pureL]; done) | fail) ?_)); simp [segsF, pathR])
  | f + 1, k :: n :: r, acc, T, H, c, g, m, es, hf, hl, hm, hes => by
    have hbl := byteCells_length (k :: n :: r)
    have hk := k.toNat_lt
    have hn := n.toNat_lt
    have hnn : (n.toNat : Int) * (w : Int) = ((n.toNat * w : Nat) : Int) := by simp
    have h2 : n.toNat * w ≤ 255 * 4 := Nat.mul_le_mul (by omega) hw
    simp only [List.length_cons] at hl hf hbl
    by_cases h0 : n.toNat = 0
    · have h0 : (n.toNat : Int) = 0 := by omega
      refine ev_loop' (W_ok 300 _ _ _ _ ?_)
      repeat' ((conv => whnf); first | refine bslP (by first | rfl | (simp [pureL, pureLL, AV.pure]; done) | fail) rfl ?_ | refine TakeC.full (by first | rfl | omega | (simp; done) | (simp; omega) | fail) ?_ | refine zBs ?_ | refine zBn ?_ | refine zBv rfl rfl ?_ | refine zN ?_ | refine zC ?_ | refine zC4 ?_ | refine zOr16 ?_ | refine zC1 ?_ | refine zByte ?_ | refine zMaxL ?_ | refine zMaxR ?_ | refine zMinL ?_ | refine zMinR ?_ | refine zShr ?_ | refine zC8 ?_ | refine zQ ?_ | refine zR ?_ | refine zS ?_ | refine zA ?_ | refine zM ?_ | refine xr rfl ?_ | refine ai rfl ?_ | refine condT ?_ | refine condF ?_ | refine condG1 ?_ | refine condG0 ?_ | refine cD ?_ | refine dD ?_ | refine cB ?_ | refine dB ?_ | refine cN ?_ | refine dN ?_ | refine cV ?_ | refine dV ?_ | refine cE ?_ | refine dE ?_ | refine condX0 ?_ | refine condX1 ?_ | refine condNot ?_ | refine condAnd ?_ | refine condOr ?_ | refine aO ?_ | refine aB ?_ | refine aR ?_ | refine aR ?_ (by simp; omega) | refine xr (by assumption) ?_ | refine ai (by assumption) ?_ | refine condD (fun h => ?_) (fun h => ?_) | refine condB (fun h => ?_) (fun h => ?_) | refine condN (fun h => ?_) (fun h => ?_) | refine condE (fun h => ?_) (fun h => ?_) | refine condV (fun h => ?_) (fun h => ?_))
      all_goals ((first | refine ev_fin (And.intro (by first | rfl | (simp [AV.pure, pureL]; done) | fail) ?_) | refine ev_fin0 (And.intro (by first | rfl | (simp [AV.pure, pureL]; done) | fail) ?_)); simp only [segsF, pathR]; rw [if_pos (.inl (by omega))]; rfl)
    · by_cases h1 : r.length < n.toNat * w
      · refine ev_loop' (W_ok 300 _ _ _ _ ?_)
        repeat' ((conv => whnf); first | refine bslP (by first | rfl | (simp [pureL, pureLL, AV.pure]; done) | fail) rfl ?_ | refine TakeC.full (by first | rfl | omega | (simp; done) | (simp; omega) | fail) ?_ | refine zBs ?_ | refine zBn ?_ | refine zBv rfl rfl ?_ | refine zN ?_ | refine zC ?_ | refine zC4 ?_ | refine zOr16 ?_ | refine zC1 ?_ | refine zByte ?_ | refine zMaxL ?_ | refine zMaxR ?_ | refine zMinL ?_ | refine zMinR ?_ | refine zShr ?_ | refine zC8 ?_ | refine zQ ?_ | refine zR ?_ | refine zS ?_ | refine zA ?_ | refine zM ?_ | refine xr rfl ?_ | refine ai rfl ?_ | refine condT ?_ | refine condF ?_ | refine condG1 ?_ | refine condG0 ?_ | refine cD ?_ | refine dD ?_ | refine cB ?_ | refine dB ?_ | refine cN ?_ | refine dN ?_ | refine cV ?_ | refine dV ?_ | refine cE ?_ | refine dE ?_ | refine condX0 ?_ | refine condX1 ?_ | refine condNot ?_ | refine condAnd ?_ | refine condOr ?_ | refine aO ?_ | refine aB ?_ | refine aR ?_ | refine aR ?_ (by simp; omega) | refine xr (by assumption) ?_ | refine ai (by assumption) ?_ | refine condD (fun h => ?_) (fun h => ?_) | refine condB (fun h => ?_) (fun h => ?_) | refine condN (fun h => ?_) (fun h => ?_) | refine condE (fun h => ?_) (fun h => ?_) | refine condV (fun h => ?_) (fun h => ?_))
        all_goals ((first | refine ev_fin (And.intro (by first | rfl | (simp [AV.pure, pureL]; done) | fail) ?_) | refine ev_fin0 (And.intro (by first | rfl | (simp [AV.pure, pureL]; done) | fail) ?_)); simp only [segsF, pathR]; rw [if_pos (.inr (by omega))]; rfl)
      · have hel : es.length = m := by simp [hes, hm]
        refine ev_loop' (W_ok 300 _ _ _ _ ?_)
        repeat' ((conv => whnf); first | refine bslP (by first | rfl | (simp [pureL, pureLL, AV.pure]; done) | fail) rfl ?_ | refine TakeC.full (by first | rfl | omega | (simp; done) | (simp; omega) | fail) ?_ | refine zBs ?_ | refine zBn ?_ | refine zBv rfl rfl ?_ | refine zN ?_ | refine zC ?_ | refine zC4 ?_ | refine zOr16 ?_ | refine zC1 ?_ | refine zByte ?_ | refine zMaxL ?_ | refine zMaxR ?_ | refine zMinL ?_ | refine zMinR ?_ | refine zShr ?_ | refine zC8 ?_ | refine zQ ?_ | refine zR ?_ | refine zS ?_ | refine zA ?_ | refine zM ?_ | refine xr rfl ?_ | refine ai rfl ?_ | refine condT ?_ | refine condF ?_ | refine condG1 ?_ | refine condG0 ?_ | refine cD ?_ | refine dD ?_ | refine cB ?_ | refine dB ?_ | refine cN ?_ | refine dN ?_ | refine cV ?_ | refine dV ?_ | refine cE ?_ | refine dE ?_ | refine condX0 ?_ | refine condX1 ?_ | refine condNot ?_ | refine condAnd ?_ | refine condOr ?_ | refine aO ?_ | refine aB ?_ | refine aR ?_ | refine aR ?_ (by simp; omega) | refine xr (by assumption) ?_ | refine ai (by assumption) ?_ | refine condD (fun h => ?_) (fun h => ?_) | refine condB (fun h => ?_) (fun h => ?_) | refine condN (fun h => ?_) (fun h => ?_) | refine condE (fun h => ?_) (fun h => ?_) | refine condV (fun h => ?_) (fun h => ?_))
        refine ev_nil 121 1 [] [(71, some (_, .cells [.int .i64 (k.toNat : Int), .vs 121 _ 0]))] trivial ⟨⟨rfl, LeP.refl _, LeP.nilV _ _ _, trivial⟩, trivial⟩ ?_
        refine ev_keep [44, 7, 1, 0, 8, 6, 43] [71, 121, 127] ?_
        refine seg_loop111 (k :: n :: r) r k n rfl w hw (by simp; omega) (by omega) acc (by omega) _ ?_ n.toNat 0 _ _ _ _ _ _ _ _ _ _ (by omega) rfl rfl hm hes
        intro T H c g m es q1 q2
        have := path_loop111 w hw f (r.drop (n.toNat * w)) (acc ++ [⟨(k.toNat : Int), numsD w n.toNat r⟩]) T H c g m es (by simp; omega) (by simp; omega) (by simp [q1]) q2
        simp only [segsF]
        rw [if_neg (by omega), Option.map_map]
        simpa [Function.comp_def] using this
theorem path_gives111 (b : List UInt8) (hl : b.length < 2 ^ 30) (w : Nat) (hw : w ≤ 4) : Gives G 111 [.sl 1 (byteCells b), .int .i64 (w : Int)] [] (pathR (segsD w b)) := by
  have h := path_loop111 w hw b.length b []
  refine gives_code (F := f111) rfl rfl (W_ok 300 _ _ _ _ ?_)
  repeat' ((conv => whnf); first | refine bslP (by first | rfl | (simp [pureL, pureLL, AV.pure]; done) | fail) rfl ?_ | refine TakeC.full (by first | rfl | omega | (simp; done) | (simp; omega) | fail) ?_ | refine zBs ?_ | refine zBn ?_ | refine zBv rfl rfl ?_ | refine zN ?_ | refine zC ?_ | refine zC4 ?_ | refine zOr16 ?_ | refine zC1 ?_ | refine zByte ?_ | refine zMaxL ?_ | refine zMaxR ?_ | refine zMinL ?_ | refine zMinR ?_ | refine zShr ?_ | refine zC8 ?_ | refine zQ ?_ | refine zR ?_ | refine zS ?_ | refine zA ?_ | refine zM ?_ | refine xr rfl ?_ | refine ai rfl ?_ | refine condT ?_ | refine condF ?_ | refine condG1 ?_ | refine condG0 ?_ | refine cD ?_ | refine dD ?_ | refine cB ?_ | refine dB ?_ | refine cN ?_ | refine dN ?_ | refine cV ?_ | refine dV ?_ | refine cE ?_ | refine dE ?_ | refine condX0 ?_ | refine condX1 ?_ | refine condNot ?_ | refine condAnd ?_ | refine condOr ?_ | refine aO ?_ | refine aB ?_ | refine aR ?_ | refine aR ?_ (by simp; omega) | refine xr (by assumption) ?_ | refine ai (by assumption) ?_ | refine condD (fun h => ?_) (fun h => ?_) | refine condB (fun h => ?_) (fun h => ?_) | refine condN (fun h => ?_) (fun h => ?_) | refine condE (fun h => ?_) (fun h => ?_) | refine condV (fun h => ?_) (fun h => ?_))
  refine ev_nil 127 2 [(6, .vs 127 _ 0)] [] ⟨LeP.nilV _ _ _, trivial⟩ trivial ?_
  refine ev_keep [1, 0, 6] [127] ?_
  have e : pathR ((segsF w b.length b).map fun l => [] ++ l) = pathR (segsD w b) := by simp [segsD]
  rw [← e]
  exact h _ _ _ _ 0 _ (Nat.le_refl _) (by simpa using hl) rfl rfl
end Go.AM.IR
set_option maxHeartbeats 4000000
set_option maxRecDepth 20000
namespace Go.AM.IR
def asB (w : Nat) (l : List Int) : List UInt8 := l.flatMap fun n => be w n.toNat
def segB (w : Nat) (s : Seg) : List UInt8 := UInt8.ofNat s.kind.toNat :: UInt8.ofNat s.as.length :: asB w s.as
def pathB (w : Nat) (p : List Seg) : List UInt8 := p.flatMap (segB w)
def badL (wide bad : Bool) (l : List Int) : Bool := l.foldl (badN wide) bad
def badP (wide bad : Bool) (p : List Seg) : Bool := p.foldl (fun b s => badL wide b s.as) bad
theorem asB_length (w : Nat) : ∀ l : List Int, (asB w l).length = w * l.length
  | [] => rfl
  | x :: r => by
    have := asB_length w r
    simp only [asB, List.flatMap_cons, List.length_append, be_length, List.length_cons, Nat.mul_add] at this ⊢
    omega
theorem u8_int {k : Int} (h : 0 ≤ k) (h2 : k ≤ 255) : ((UInt8.ofNat k.toNat).toNat : Int) = k := by simp; omega
theorem u8_nat {k : Nat} (h2 : k ≤ 255) : ((UInt8.ofNat k).toNat : Int) = k := by simp; omega
theorem wd_le (wide : Bool) : wd wide ≤ 4 := by unfold wd; split <;> omega
theorem wd_mul (wide : Bool) (n : Nat) : wd wide * n ≤ 4 * n := Nat.mul_le_mul_right _ (wd_le wide)
theorem as_loop84 (l : List Int) (p : List Seg) (lp i : Int) (wide : Bool) (b : List UInt8) (acc0 : List UInt8) (bd0 : Bool) (R : Ret) (h0 : ∀ x ∈ l, 0 ≤ x ∧ x < 2 ^ 63) (hB : acc0.length + 4 * l.length < 2 ^ 40) (h1 : 0 ≤ i) (h2 : i < 2 ^ 40) (go : ∀ (T : List (Nat × AV)) (H : Heap) (c g m : Nat) (es : List (List AV)) (bd : Bool), m = (acc0 ++ asB (wd wide) l).length → es = byteCells (acc0 ++ asB (wd wide) l) → bd = badL wide bd0 l → Ev G ⟨f84x13LH, ⟨(10, .sl 2 (p.map Seg.enc)) :: (11, .int .i64 lp) :: (12, .int .i64 (i + 1)) :: (0, .ref 0 0 0) :: (5, .vs 69 g m) :: T, (0, some (0, .cells [.vs 1 0 b.length, .bool wide, .bool bd])) :: (1, some (0, .vec 1 (byteCells b))) :: (69, some (g, .vec 1 es)) :: H, c⟩, [.t 4], 2⟩ R) (hl : l.length < 2 ^ 40) (ln : Int) (hln : ln = l.length) : ∀ (rest done : List Int) (g m : Nat) (es : List (List AV)) (bd : Bool) (T : List (Nat × AV)) (H : Heap) (c : Nat) (n : Int) (e : l = done ++ rest) (hn : n = done.length) (hm : m = (acc0 ++ asB (wd wide) done).length) (hes : es = byteCells (acc0 ++ asB (wd wide) done)) (hbd : bd = badL wide bd0 done), Ev G ⟨f84x11LH, ⟨(27, .sl 1 (l.map encI)) :: (28, .int .i64 ln) :: (29, .int .i64 n) :: (10, .sl 2 (p.map Seg.enc)) :: (11, .int .i64 lp) :: (12, .int .i64 i) :: (0, .ref 0 0 0) :: (5, .vs 69 g m) :: T, (0, some (0, .cells [.vs 1 0 b.length, .bool wide, .bool bd])) :: (1, some (0, .vec 1 (byteCells b))) :: (69, some (g, .vec 1 es)) :: H, c⟩, [.t 4], 2⟩ R
  | [], done, g, m, es, bd, T, H, c, n, e, hn, hm, hes, hbd => by
    have hd : l.length = done.length := by simp [e]
    have hll : (l.map encI).length = l.length := by simp
    obtain rfl : l = done := by simpa using e
    refine ev_loop' (W_ok 300 _ _ _ _ ?_)
    repeat' ((conv => whnf); first | refine bslP (by first | rfl | (simp [pureL, pureLL, AV.pure]; done) | fail) rfl ?_ | refine TakeC.full (by first | rfl | omega | (simp; done) | (simp; omega) | fail) ?_ | refine zBs ?_ | refine zBn ?_ | refine zBv rfl rfl ?_ | refine zN ?_ | refine zC ?_ | refine zC4 ?_ | refine zOr16 ?_ | refine zC1 ?_ | refine zByte ?_ | refine zMaxL ?_ | refine zMaxR ?_ | refine zMinL ?_ | refine zMinR ?_ | refine zShr ?_ | refine zC8 ?_ | refine zQ ?_ | refine zR ?_ | refine zS ?_ | refine zA ?_ | refine zM ?_ | refine xr rfl ?_ | refine ai rfl ?_ | refine condT ?_ | refine condF ?_ | refine condG1 ?_ | refine condG0 ?_ | refine cD ?_ | refine dD ?_ | refine cB ?_ | refine dB ?_ | refine cN ?_ | refine dN ?_ | refine cV ?_ | refine dV ?_ | refine cE ?_ | refine dE ?_ | refine condX0 ?_ | refine condX1 ?_ | refine condNot ?_ | refine condAnd ?_ | refine condOr ?_ | refine aO ?_ | refine aB ?_ | refine aR ?_ | refine aR ?_ (by simp; omega) | refine xr (by assumption) ?_ | refine ai (by assumption) ?_ | refine condD (fun h => ?_) (fun h => ?_) | refine condB (fun h => ?_) (fun h => ?_) | refine condN (fun h => ?_) (fun h => ?_) | refine condE (fun h => ?_) (fun h => ?_) | refine condV (fun h => ?_) (fun h => ?_))
    refine ev_keep [10, 11, 12, 0, 5] [0, 1, 69] ?_
    exact go _ _ _ g m es bd hm hes hbd
  | x :: r, done, g, m, es, bd, T, H, c, n, e, hn, hm, hes, hbd => by
    have hd : l.length = done.length + (r.length + 1) := by simp [e]
    have hll : (l.map encI).length = l.length := by simp
    have hx : (l.map encI)[n.toNat]? = some (encI x) := by simp [e, hn]
    have hx0 := h0 x (by simp [e])
    have hel : m = es.length := by rw [hm, hes]; simp
    have hw := wd_le wide
    have hml : m ≤ acc0.length + 4 * done.length := by
      have := wd_mul wide done.length
      rw [hm, List.length_append, asB_length]; omega
    have hbe : (byteCells (be (wd wide) x.toNat)).length = wd wide := by simp [be_length]
    have has : Gives G 86 [.ref 0 0 0, .int .i64 x] [.cells [.vs 1 0 b.length, .bool wide, .bool bd], .vec 1 (byteCells b)] ⟨.vs 2 0 (be (wd wide) x.toNat).length, [(true, .cells [.vs 1 0 b.length, .bool wide, .bool (badN wide bd x)]), (true, .vec 1 (byteCells b)), (false, .vec 1 (byteCells (be (wd wide) x.toNat)))]⟩ := by
      have h := as_gives86 x.toNat (by omega) wide bd b
      rwa [show ((x.toNat : Nat) : Int) = x from by omega] at h
    refine ev_loop' (W_ok 300 _ _ _ _ ?_)
    repeat' ((conv => whnf); first | refine bslP (by first | rfl | (simp [pureL, pureLL, AV.pure]; done) | fail) rfl ?_ | refine TakeC.full (by first | rfl | omega | (simp; done) | (simp; omega) | fail) ?_ | refine zBs ?_ | refine zBn ?_ | refine zBv rfl rfl ?_ | refine zN ?_ | refine zC ?_ | refine zC4 ?_ | refine zOr16 ?_ | refine zC1 ?_ | refine zByte ?_ | refine zMaxL ?_ | refine zMaxR ?_ | refine zMinL ?_ | refine zMinR ?_ | refine zShr ?_ | refine zC8 ?_ | refine zQ ?_ | refine zR ?_ | refine zS ?_ | refine zA ?_ | refine zM ?_ | refine xr rfl ?_ | refine ai rfl ?_ | refine condT ?_ | refine condF ?_ | refine condG1 ?_ | refine condG0 ?_ | refine cD ?_ | refine dD ?_ | refine cB ?_ | refine dB ?_ | refine cN ?_ | refine dN ?_ | refine cV ?_ | refine dV ?_ | refine cE ?_ | refine dE ?_ | refine condX0 ?_ | refine condX1 ?_ | refine condNot ?_ | refine condAnd ?_ | refine condOr ?_ | refine aO ?_ | refine aB ?_ | refine aR ?_ | refine aR ?_ (by simp; omega) | refine xr (by assumption) ?_ | refine ai (by assumption) ?_ | refine kX [(0, _, _), (1, _, _)] [] ⟨rfl, rfl, trivial⟩ trivial (has) ?_ | refine condD (fun h => ?_) (fun h => ?_) | refine condB (fun h => ?_) (fun h => ?_) | refine condN (fun h => ?_) (fun h => ?_) | refine condE (fun h => ?_) (fun h => ?_) | refine condV (fun h => ?_) (fun h => ?_))
    refine ev_keep [27, 28, 29, 10, 11, 12, 0, 5] [0, 1, 69] ?_; exact as_loop84 l p lp i wide b acc0 bd0 R h0 hB h1 h2 go hl ln hln r (done ++ [x]) _ _ _ _ _ _ _ (n + 1) (by simp [e]) (by simp [hn] <;> omega) (by simp [hm, asB]; omega) (by rw [hes]; simp [asB]) (by simp [hbd, badL])
theorem path_loop84 (l : List Seg) (wide : Bool) (b : List UInt8) (bd0 : Bool) (h0 : ∀ s ∈ l, (0 ≤ s.kind ∧ s.kind ≤ 255) ∧ s.as.length ≤ 255 ∧ ∀ x ∈ s.as, 0 ≤ x ∧ x < 2 ^ 63) (hlen : l.length < 2 ^ 20) (hl : l.length < 2 ^ 40) (ln : Int) (hln : ln = l.length) : ∀ (rest done : List Seg) (g m : Nat) (es : List (List AV)) (bd : Bool) (T : List (Nat × AV)) (H : Heap) (c : Nat) (n : Int) (e : l = done ++ rest) (hn : n = done.length) (hm : m = (pathB (wd wide) done).length) (hes : es = byteCells (pathB (wd wide) done)) (hbd : bd = badP wide bd0 done) (hml : m ≤ 2000 * done.length), Ev G ⟨f84x13LH, ⟨(10, .sl 2 (l.map Seg.enc)) :: (11, .int .i64 ln) :: (12, .int .i64 n) :: (0, .ref 0 0 0) :: (5, .vs 69 g m) :: T, (0, some (0, .cells [.vs 1 0 b.length, .bool wide, .bool bd])) :: (1, some (0, .vec 1 (byteCells b))) :: (69, some (g, .vec 1 es)) :: H, c⟩, [.t 4], 2⟩ ⟨.vs 2 0 (pathB (wd wide) l).length, [(true, .cells [.vs 1 0 b.length, .bool wide, .bool (badP wide bd0 l)]), (true, .vec 1 (byteCells b)), (false, .vec 1 (byteCells (pathB (wd wide) l)))]⟩
  | [], done, g, m, es, bd, T, H, c, n, e, hn, hm, hes, hbd, hml => by
    have hd : l.length = done.length := by simp [e]
    have hll : (l.map Seg.enc).length = l.length := by simp
    obtain rfl : l = done := by simpa using e
    subst hes hm hbd
    refine ev_loop' (W_ok 300 _ _ _ _ ?_)
    repeat' ((conv => whnf); first | refine bslP (by first | rfl | (simp [pureL, pureLL, AV.pure]; done) | fail) rfl ?_ | refine TakeC.full (by first | rfl | omega | (simp; done) | (simp; omega) | fail) ?_ | refine zBs ?_ | refine zBn ?_ | refine zBv rfl rfl ?_ | refine zN ?_ | refine zC ?_ | refine zC4 ?_ | refine zOr16 ?_ | refine zC1 ?_ | refine zByte ?_ | refine zMaxL ?_ | refine zMaxR ?_ | refine zMinL ?_ | refine zMinR ?_ | refine zShr ?_ | refine zC8 ?_ | refine zQ ?_ | refine zR ?_ | refine zS ?_ | refine zA ?_ | refine zM ?_ | refine xr rfl ?_ | refine ai rfl ?_ | refine condT ?_ | refine condF ?_ | refine condG1 ?_ | refine condG0 ?_ | refine cD ?_ | refine dD ?_ | refine cB ?_ | refine dB ?_ | refine cN ?_ | refine dN ?_ | refine cV ?_ | refine dV ?_ | refine cE ?_ | refine dE ?_ | refine condX0 ?_ | refine condX1 ?_ | refine condNot ?_ | refine condAnd ?_ | refine condOr ?_ | refine aO ?_ | refine aB ?_ | refine aR ?_ | refine aR ?_ (by simp; omega) | refine xr (by assumption) ?_ | refine ai (by assumption) ?_ | refine condD (fun h => ?_) (fun h => ?_) | refine condB (fun h => ?_) (fun h => ?_) | refine condN (fun h => ?_) (fun h => ?_) | refine condE (fun h => ?_) (fun h => ?_) | refine condV (fun h => ?_) (fun h => ?_))
    (conv => whnf); first | refine ev_finX [(0, _, _), (1, _, _)] [(69, _, _)] [true, true] (Nat.succ_pos _) ⟨rfl, rfl, rfl, trivial⟩ rfl (by repeat' (first | exact trivial | rfl | refine And.intro ?_ ?_ | (simp [pureL, pureLL, AV.pure, Blk.renS, Blk.okS, Blk.okX, AV.okS, AV.okX]; done) | omega | fail)) ⟨(by first | rfl | exact (decide_eq_false (by omega)).symm), (by first | rfl | exact (decide_eq_false (by omega)).symm), trivial⟩ ⟨rfl, (by repeat' (first | exact trivial | rfl | refine And.intro ?_ ?_ | (simp [pureL, pureLL, AV.pure, Blk.renS, Blk.okS, Blk.okX, AV.okS, AV.okX]; done) | omega | fail)), ?_⟩ | refine ev_finX0 [(0, _, _), (1, _, _)] [(69, _, _)] [true, true] (Nat.succ_pos _) ⟨rfl, rfl, rfl, trivial⟩ rfl (by repeat' (first | exact trivial | rfl | refine And.intro ?_ ?_ | (simp [pureL, pureLL, AV.pure, Blk.renS, Blk.okS, Blk.okX, AV.okS, AV.okX]; done) | omega | fail)) ⟨(by first | rfl | exact (decide_eq_false (by omega)).symm), (by first | rfl | exact (decide_eq_false (by omega)).symm), trivial⟩ ⟨rfl, (by repeat' (first | exact trivial | rfl | refine And.intro ?_ ?_ | (simp [pureL, pureLL, AV.pure, Blk.renS, Blk.okS, Blk.okX, AV.okS, AV.okX]; done) | omega | fail)), ?_⟩
    rfl
  | x :: r, done, g, m, es, bd, T, H, c, n, e, hn, hm, hes, hbd, hml => by
    have hd : l.length = done.length + (r.length + 1) := by simp [e]
    have hll : (l.map Seg.enc).length = l.length := by simp
    have hx : (l.map Seg.enc)[n.toNat]? = some (Seg.enc x) := by simp [e, hn]
    obtain ⟨⟨hk0, hk1⟩, hal, hx⟩ := h0 x (by simp [e])
    have hel : m = es.length := by rw [hm, hes]; simp
    have hxl : (x.as.map encI).length = x.as.length := by simp
    have e1 := u8_int hk0 hk1
    have e2 := u8_nat hal
    refine ev_loop' (W_ok 300 _ _ _ _ ?_)
    repeat' ((conv => whnf); first | refine bslP (by first | rfl | (simp [pureL, pureLL, AV.pure]; done) | fail) rfl ?_ | refine TakeC.full (by first | rfl | omega | (simp; done) | (simp; omega) | fail) ?_ | refine zBs ?_ | refine zBn ?_ | refine zBv rfl rfl ?_ | refine zN ?_ | refine zC ?_ | refine zC4 ?_ | refine zOr16 ?_ | refine zC1 ?_ | refine zByte ?_ | refine zMaxL ?_ | refine zMaxR ?_ | refine zMinL ?_ | refine zMinR ?_ | refine zShr ?_ | refine zC8 ?_ | refine zQ ?_ | refine zR ?_ | refine zS ?_ | refine zA ?_ | refine zM ?_ | refine xr rfl ?_ | refine ai rfl ?_ | refine condT ?_ | refine condF ?_ | refine condG1 ?_ | refine condG0 ?_ | refine cD ?_ | refine dD ?_ | refine cB ?_ | refine dB ?_ | refine cN ?_ | refine dN ?_ | refine cV ?_ | refine dV ?_ | refine cE ?_ | refine dE ?_ | refine condX0 ?_ | refine condX1 ?_ | refine condNot ?_ | refine condAnd ?_ | refine condOr ?_ | refine aO ?_ | refine aB ?_ | refine aR ?_ | refine aR ?_ (by simp; omega) | refine xr (by assumption) ?_ | refine ai (by assumption) ?_ | refine condD (fun h => ?_) (fun h => ?_) | refine condB (fun h => ?_) (fun h => ?_) | refine condN (fun h => ?_) (fun h => ?_) | refine condE (fun h => ?_) (fun h => ?_) | refine condV (fun h => ?_) (fun h => ?_))
    refine ev_keep [27, 28, 29, 10, 11, 12, 0, 5] [0, 1, 69] ?_
    have hps : (pathB (wd wide) (done ++ [x])) = (pathB (wd wide) done ++ [UInt8.ofNat x.kind.toNat, UInt8.ofNat x.as.length]) ++ asB (wd wide) x.as := by simp [pathB, segB]
    have hwm := wd_mul wide x.as.length
    refine as_loop84 x.as l ln n wide b (pathB (wd wide) done ++ [UInt8.ofNat x.kind.toNat, UInt8.ofNat x.as.length]) bd _ hx (by simp; omega) (by omega) (by omega) ?_ (by omega) _ (by simp) x.as [] _ _ _ _ _ _ _ 0 rfl rfl ?_ ?_ rfl
    · intro T H c g m es bd' q1 q2 q3
      refine path_loop84 l wide b bd0 h0 hlen hl ln hln r (done ++ [x]) g m es bd' T H c (n + 1) (by simp [e]) (by simp [hn]) ?_ ?_ ?_ ?_
      · rw [q1, hps]
      · rw [q2, hps]
      · rw [q3, hbd]; simp [badP]
      · rw [q1]; simp [asB_length]; omega
    · simp [hm, asB]
    · rw [hes]; simp only [asB, List.flatMap_nil, List.append_nil, byteCells_append]; simp only [byteCells, List.map_cons, List.map_nil, e1, e2, hxl]
theorem path_gives84 (p : List Seg) (wide bad : Bool) (b : List UInt8) (h0 : ∀ s ∈ p, (0 ≤ s.kind ∧ s.kind ≤ 255) ∧ s.as.length ≤ 255 ∧ ∀ x ∈ s.as, 0 ≤ x ∧ x < 2 ^ 63) (hlen : p.length < 2 ^ 20) : Gives G 84 [.ref 0 0 0, .sl 2 (p.map Seg.enc)] [.cells [.vs 1 0 b.length, .bool wide, .bool bad], .vec 1 (byteCells b)]
    ⟨.vs 2 0 (pathB (wd wide) p).length, [(true, .cells [.vs 1 0 b.length, .bool wide, .bool (badP wide bad p)]), (true, .vec 1 (byteCells b)), (false, .vec 1 (byteCells (pathB (wd wide) p)))]⟩ := by
  refine gives_code (F := f84) rfl rfl (W_ok 300 _ _ _ _ ?_)
  repeat' ((conv => whnf); first | refine bslP (by first | rfl | (simp [pureL, pureLL, AV.pure]; done) | fail) rfl ?_ | refine TakeC.full (by first | rfl | omega | (simp; done) | (simp; omega) | fail) ?_ | refine zBs ?_ | refine zBn ?_ | refine zBv rfl rfl ?_ | refine zN ?_ | refine zC ?_ | refine zC4 ?_ | refine zOr16 ?_ | refine zC1 ?_ | refine zByte ?_ | refine zMaxL ?_ | refine zMaxR ?_ | refine zMinL ?_ | refine zMinR ?_ | refine zShr ?_ | refine zC8 ?_ | refine zQ ?_ | refine zR ?_ | refine zS ?_ | refine zA ?_ | refine zM ?_ | refine xr rfl ?_ | refine ai rfl ?_ | refine condT ?_ | refine condF ?_ | refine condG1 ?_ | refine condG0 ?_ | refine cD ?_ | refine dD ?_ | refine cB ?_ | refine dB ?_ | refine cN ?_ | refine dN ?_ | refine cV ?_ | refine dV ?_ | refine cE ?_ | refine dE ?_ | refine condX0 ?_ | refine condX1 ?_ | refine condNot ?_ | refine condAnd ?_ | refine condOr ?_ | refine aO ?_ | refine aB ?_ | refine aR ?_ | refine aR ?_ (by simp; omega) | refine xr (by assumption) ?_ | refine ai (by assumption) ?_ | refine condD (fun h => ?_) (fun h => ?_) | refine condB (fun h => ?_) (fun h => ?_) | refine condN (fun h => ?_) (fun h => ?_) | refine condE (fun h => ?_) (fun h => ?_) | refine condV (fun h => ?_) (fun h => ?_))
  refine ev_nil 69 1 [(5, .vs 69 _ 0)] [] ⟨LeP.nilV _ _ _, trivial⟩ trivial ?_
  refine ev_keep [10, 11, 12, 0, 5] [0, 1, 69] ?_
  exact path_loop84 p wide b bad h0 hlen (by omega) _ (by simp) p [] _ 0 _ _ _ _ _ 0 rfl rfl rfl rfl rfl (by simp)
end Go.AM.IR
set_option maxHeartbeats 4000000
set_option maxRecDepth 20000
namespace Go.AM.IR
theorem drop_at {b r : List UInt8} {k : UInt8} {a : Nat} (h : b.drop a = k :: r) : (byteCells b)[a]? = some [.int .u8 (k.toNat : Int)] ∧ b.drop (a + 1) = r ∧ b.length = a + (r.length + 1) := by
  have h1 : b[a]? = some k := by
    have := List.getElem?_drop (xs := b) (i := a) (j := 0)
    rw [h] at this; simpa using this.symm
  have h2 : b.drop (a + 1) = r := by rw [← List.drop_drop, h]; rfl
  have h3 : (b.drop a).length = r.length + 1 := by rw [h]; rfl
  have h4 : a < b.length := by
    rcases Nat.lt_or_ge a b.length with q | q
    · exact q
    · rw [List.drop_eq_nil_of_le q] at h; cases h
  refine ⟨by simp [byteCells, h1], h2, by simp at h3; omega⟩
theorem seg_loop114 (b r : List UInt8) (k n : UInt8) (a : Nat) (hb : b.drop a = k :: n :: r) (wide : Bool) (w : Nat) (hwd : w = wd wide) (hl : b.length < 2 ^ 30) (hn : n.toNat * w ≤ r.length) (acc : List Seg) (ha : acc.length < 2 ^ 30) (R : Ret)
  (go : ∀ (T : List (Nat × AV)) (H : Heap) (c g m : Nat) (es : List (List AV)) (at_ : Int), at_ = ((a + 2 + n.toNat * w : Nat) : Int) → m = acc.length + 1 → es = (acc ++ [(⟨(k.toNat : Int), numsD w n.toNat r⟩ : Seg)]).map Seg.enc → Ev G ⟨f114x18LH, ⟨(0, .sl 1 (byteCells b)) :: (6, .vs 131 g m) :: (7, .int .i64 at_) :: (1, .bool wide) :: T, (131, some (g, .vec 2 es)) :: H, c⟩, [.t 4, .t 5], 0⟩ R) :
  ∀ (j i : Nat) (T : List (Nat × AV)) (H : Heap) (c g1 g2 g3 m1 m2 : Nat) (es1 es2 : List (List AV)) (at_ : Int) (hat : at_ = ((a + 2 + i * w : Nat) : Int)) (hij : i + j = n.toNat) (hm1 : m1 = i) (hes1 : es1 = (numsD w i r).map encI) (hm2 : m2 = acc.length) (hes2 : es2 = acc.map Seg.enc),
   Ev G ⟨f114x16LH, ⟨(49, .int .i64 (i : Int)) :: (10, .int .i64 (w : Int)) :: (7, .int .i64 at_) :: (8, .ref 72 g3 0) :: (0, .sl 1 (byteCells b)) :: (1, .bool wide) :: (6, .vs 131 g2 m2) :: (48, .int .i64 (n.toNat : Int)) :: T, (72, some (g3, .cells [.int .i64 (k.toNat : Int), .vs 122 g1 m1])) :: (122, some (g1, .vec 1 es1)) :: (131, some (g2, .vec 2 es2)) :: H, c⟩, [.t 4, .t 5], 0⟩ R
  | 0, i, T, H, c, g1, g2, g3, m1, m2, es1, es2, at_, hat, hij, hm1, hes1, hm2, hes2 => by
    have hbl := byteCells_length b
    have hnl := n.toNat_lt
    obtain rfl : i = n.toNat := by omega
    subst hes1 hes2 hm1 hm2
    have hel : ((numsD w n.toNat r).map encI).length = n.toNat := by simp
    refine ev_frzk [(122, _, _)] [49, 10, 7, 8, 0, 1, 6, 48] [72, 131] ⟨rfl, (by first | rfl | (simp [Blk.pure, pureL, pureLL, AV.pure, *]; done) | fail), trivial⟩ ?_; repeat ((conv => whnf); first | refine And.intro (by first | rfl | omega | (simp [pureL, pureLL, AV.pure]; done) | (simp; omega) | (simp [pureL, pureLL, AV.pure, *]; done) | assumption | fail) ?_ | intro T H)
    refine ev_loop' (W_ok 300 _ _ _ _ ?_)
    repeat' ((conv => whnf); first | refine bslP (by first | rfl | (simp [pureL, pureLL, AV.pure]; done) | fail) rfl ?_ | refine TakeC.full (by first | rfl | omega | (simp; done) | (simp; omega) | fail) ?_ | refine zBs ?_ | refine zBn ?_ | refine zBv rfl rfl ?_ | refine zN ?_ | refine zC ?_ | refine zC4 ?_ | refine zOr16 ?_ | refine zC1 ?_ | refine zByte ?_ | refine zMaxL ?_ | refine zMaxR ?_ | refine zMinL ?_ | refine zMinR ?_ | refine zShr ?_ | refine zC8 ?_ | refine zQ ?_ | refine zR ?_ | refine zS ?_ | refine zA ?_ | refine zM ?_ | refine xr rfl ?_ | refine ai rfl ?_ | refine condT ?_ | refine condF ?_ | refine condG1 ?_ | refine condG0 ?_ | refine cD ?_ | refine dD ?_ | refine cB ?_ | refine dB ?_ | refine cN ?_ | refine dN ?_ | refine cV ?_ | refine dV ?_ | refine cE ?_ | refine dE ?_ | refine condX0 ?_ | refine condX1 ?_ | refine condNot ?_ | refine condAnd ?_ | refine condOr ?_ | refine aO ?_ | refine aB ?_ | refine aR ?_ | refine aR ?_ (by simp; omega) | refine xr (by assumption) ?_ | refine ai (by assumption) ?_ | refine condD (fun h => ?_) (fun h => ?_) | refine condB (fun h => ?_) (fun h => ?_) | refine condN (fun h => ?_) (fun h => ?_) | refine condE (fun h => ?_) (fun h => ?_) | refine condV (fun h => ?_) (fun h => ?_))
    refine ev_keep [0, 6, 7, 1] [131] ?_
    exact go _ _ _ _ _ _ _ hat (by simp) (by simp [Seg.enc])
  | j + 1, i, T, H, c, g1, g2, g3, m1, m2, es1, es2, at_, hat, hij, hm1, hes1, hm2, hes2 => by
    have hbl := byteCells_length b
    have hrl : b.length = a + (r.length + 1 + 1) := by have := (drop_at hb).2.2; simpa using this
    have hnl := n.toNat_lt
    have hw := wd_le wide
    have hel : es1.length = i := by simp [hes1]
    have hnn : (i : Int) * (w : Int) = ((i * w : Nat) : Int) := by simp
    have h2 : (i + 1) * w ≤ n.toNat * w := Nat.mul_le_mul_right _ (by omega)
    rw [Nat.add_mul] at h2
    have hget := number_gives100 b (by omega) at_ (w : Int) (by omega) (by omega) (by omega) (by omega)
    rw [show at_.toNat = (a + 2) + i * w from by omega, Int.toNat_natCast, ← List.drop_drop, show b.drop (a + 2) = r from by rw [← List.drop_drop, hb]; rfl] at hget
    refine ev_loop' (W_ok 300 _ _ _ _ ?_)
    repeat' ((conv => whnf); first | refine bslP (by first | rfl | (simp [pureL, pureLL, AV.pure]; done) | fail) rfl ?_ | refine TakeC.full (by first | rfl | omega | (simp; done) | (simp; omega) | fail) ?_ | refine zBs ?_ | refine zBn ?_ | refine zBv rfl rfl ?_ | refine zN ?_ | refine zC ?_ | refine zC4 ?_ | refine zOr16 ?_ | refine zC1 ?_ | refine zByte ?_ | refine zMaxL ?_ | refine zMaxR ?_ | refine zMinL ?_ | refine zMinR ?_ | refine zShr ?_ | refine zC8 ?_ | refine zQ ?_ | refine zR ?_ | refine zS ?_ | refine zA ?_ | refine zM ?_ | refine xr rfl ?_ | refine ai rfl ?_ | refine condT ?_ | refine condF ?_ | refine condG1 ?_ | refine condG0 ?_ | refine cD ?_ | refine dD ?_ | refine cB ?_ | refine dB ?_ | refine cN ?_ | refine dN ?_ | refine cV ?_ | refine dV ?_ | refine cE ?_ | refine dE ?_ | refine condX0 ?_ | refine condX1 ?_ | refine condNot ?_ | refine condAnd ?_ | refine condOr ?_ | refine aO ?_ | refine aB ?_ | refine aR ?_ | refine aR ?_ (by simp; omega) | refine xr (by assumption) ?_ | refine ai (by assumption) ?_ | refine kV (hget) ?_ | refine condD (fun h => ?_) (fun h => ?_) | refine condB (fun h => ?_) (fun h => ?_) | refine condN (fun h => ?_) (fun h => ?_) | refine condE (fun h => ?_) (fun h => ?_) | refine condV (fun h => ?_) (fun h => ?_))
    refine ev_keep [49, 10, 7, 8, 0, 1, 6, 48] [72, 122, 131] ?_
    exact seg_loop114 b r k n a hb wide w hwd hl hn acc ha R go j (i + 1) _ _ _ _ _ _ _ _ _ _ _ (by rw [Nat.add_mul]; omega) (by omega) (by simp [hm1]) (by rw [hes1, numsD_succ]; simp [encI]) hm2 hes2
theorem path_loop114 (b : List UInt8) (hl : b.length < 2 ^ 29) (wide : Bool) : ∀ (f : Nat) (r : List UInt8) (a : Nat) (acc : List Seg) (T : List (Nat × AV)) (H : Heap) (c g m : Nat) (es : List (List AV)) (at_ : Int) (hat : at_ = (a : Int)) (ha : a ≤ b.length) (hb : b.drop a = r) (hf : r.length ≤ f) (hac : acc.length ≤ a) (hm : m = acc.length) (hes : es = acc.map Seg.enc),
   Ev G ⟨f114x18LH, ⟨(0, .sl 1 (byteCells b)) :: (6, .vs 131 g m) :: (7, .int .i64 at_) :: (1, .bool wide) :: T, (131, some (g, .vec 2 es)) :: H, c⟩, [.t 4, .t 5], 0⟩ (pathR ((segsF (wd wide) f r).map fun l => acc ++ l))
  | f, [], a, acc, T, H, c, g, m, es, at_, hat, ha, hb, hf, hac, hm, hes => by
    subst hes
    have hbl := byteCells_length b
    have hel : (acc.map Seg.enc).length = m := by simp [hm]
    have hal : b.length ≤ a := by simpa using hb
    refine ev_frzk [(131, _, _)] [0, 6, 7, 1] [] ⟨rfl, (by first | rfl | (simp [Blk.pure, pureL, pureLL, AV.pure, *]; done) | fail), trivial⟩ ?_; repeat ((conv => whnf); first | refine And.intro (by first | rfl | omega | (simp [pureL, pureLL, AV.pure]; done) | (simp; omega) | (simp [pureL, pureLL, AV.pure, *]; done) | assumption | fail) ?_ | intro T H)
    refine ev_loop' (W_ok 300 _ _ _ _ ?_)
    repeat' ((conv => whnf); first | refine bslP (by first | rfl | (simp [pureL, pureLL, AV.pure]; done) | fail) rfl ?_ | refine TakeC.full (by first | rfl | omega | (simp; done) | (simp; omega) | fail) ?_ | refine zBs ?_ | refine zBn ?_ | refine zBv rfl rfl ?_ | refine zN ?_ | refine zC ?_ | refine zC4 ?_ | refine zOr16 ?_ | refine zC1 ?_ | refine zByte ?_ | refine zMaxL ?_ | refine zMaxR ?_ | refine zMinL ?_ | refine zMinR ?_ | refine zShr ?_ | refine zC8 ?_ | refine zQ ?_ | refine zR ?_ | refine zS ?_ | refine zA ?_ | refine zM ?_ | refine xr rfl ?_ | refine ai rfl ?_ | refine condT ?_ | refine condF ?_ | refine condG1 ?_ | refine condG0 ?_ | refine cD ?_ | refine dD ?_ | refine cB ?_ | refine dB ?_ | refine cN ?_ | refine dN ?_ | refine cV ?_ | refine dV ?_ | refine cE ?_ | refine dE ?_ | refine condX0 ?_ | refine condX1 ?_ | refine condNot ?_ | refine condAnd ?_ | refine condOr ?_ | refine aO ?_ | refine aB ?_ | refine aR ?_ | refine aR ?_ (by simp; omega) | refine xr (by assumption) ?_ | refine ai (by assumption) ?_ | refine condD (fun h => ?_) (fun h => ?_) | refine condB (fun h => ?_) (fun h => ?_) | refine condN (fun h => ?_) (fun h => ?_) | refine condE (fun h => ?_) (fun h => ?_) | refine condV (fun h => ?_) (fun h => ?_))
    all_goals ((first | refine ev_fin (And.intro (by first | rfl | (simp [AV.pure, pureL]; done) | fail) ?_) | refine ev_fin0 (And.intro (by first | rfl | (simp [AV.pure, pureL]; done) | fail) ?_)); cases f <;> simp [segsF, pathR])
  | f + 1, [k], a, acc, T, H, c, g, m, es, at_, hat, ha, hb, hf, hac, hm, hes => by
    have hbl := byteCells_length b
    have hrl := (drop_at hb).2.2
    simp only [List.length_nil] at hrl
    refine ev_loop' (W_ok 300 _ _ _ _ ?_)
    repeat' ((conv => whnf); first | refine bslP (by first | rfl | (simp [pureL, pureLL, AV.pure]; done) | fail) rfl ?_ | refine TakeC.full (by first | rfl | omega | (simp; done) | (simp; omega) | fail) ?_ | refine zBs ?_ | refine zBn ?_ | refine zBv rfl rfl ?_ | refine zN ?_ | refine zC ?_ | refine zC4 ?_ | refine zOr16 ?_ | refine zC1 ?_ | refine zByte ?_ | refine zMaxL ?_ | refine zMaxR ?_ | refine zMinL ?_ | refine zMinR ?_ | refine zShr ?_ | refine zC8 ?_ | refine zQ ?_ | refine zR ?_ | refine zS ?_ | refine zA ?_ | refine zM ?_ | refine xr rfl ?_ | refine ai rfl ?_ | refine condT ?_ | refine condF ?_ | refine condG1 ?_ | refine condG0 ?_ | refine cD ?_ | refine dD ?_ | refine cB ?_ | refine dB ?_ | refine cN ?_ | refine dN ?_ | refine cV ?_ | refine dV ?_ | refine cE ?_ | refine dE ?_ | refine condX0 ?_ | refine condX1 ?_ | refine condNot ?_ | refine condAnd ?_ | refine condOr ?_ | refine aO ?_ | refine aB ?_ | refine aR ?_ | refine aR ?_ (by simp; omega) | refine xr (by assumption) ?_ | refine ai (by assumption) ?_ | refine condD (fun h => ?_) (fun h => ?_) | refine condB (fun h => ?_) (fun h => ?_) | refine condN (fun h => ?_) (fun h => ?_) | refine condE (fun h => ?_) (fun h => ?_) | refine condV (fun h => ?_) (fun h => ?_))
    all_goals ((first | refine ev_fin (And.intro (by first | rfl | (simp [AV.pure, pureL]; done) | fail) ?_) | refine ev_fin0 (And.intro (by first | rfl | (simp [AV.pure, pureL]; done) | fail) ?_)); simp [segsF, pathR])
  | f + 1, k :: n :: r, a, acc, T, H, c, g, m, es, at_, hat, ha, hb, hf, hac, hm, hes => by
    have hbl := byteCells_length b
    have hk := k.toNat_lt
    have hn := n.toNat_lt
    have hw := wd_le wide
    have hwg := width_gives92 wide
    obtain ⟨x1, x2, hrl⟩ := drop_at hb
    obtain ⟨x3, x4, _⟩ := drop_at x2
    have y1 : (byteCells b)[at_.toNat]? = some [.int .u8 (k.toNat : Int)] := by rw [hat]; exact x1
    have y3 : (byteCells b)[(at_ + 1).toNat]? = some [.int .u8 (n.toNat : Int)] := by rw [hat]; exact x3
    generalize hwd : wd wide = w at *
    have hnn : (n.toNat : Int) * (w : Int) = ((n.toNat * w : Nat) : Int) := by simp
    have h2 : n.toNat * w ≤ 255 * 4 := Nat.mul_le_mul (by omega) hw
    simp only [List.length_cons] at hf hrl
    by_cases h0 : n.toNat = 0
    · have h0 : (n.toNat : Int) = 0 := by omega
      refine ev_loop' (W_ok 300 _ _ _ _ ?_)
      repeat' ((conv => whnf); first | refine bslP (by first | rfl | (simp [pureL, pureLL, AV.pure]; done) | fail) rfl ?_ | refine TakeC.full (by first | rfl | omega | (simp; done) | (simp; omega) | fail) ?_ | refine zBs ?_ | refine zBn ?_ | refine zBv rfl rfl ?_ | refine zN ?_ | refine zC ?_ | refine zC4 ?_ | refine zOr16 ?_ | refine zC1 ?_ | refine zByte ?_ | refine zMaxL ?_ | refine zMaxR ?_ | refine zMinL ?_ | refine zMinR ?_ | refine zShr ?_ | refine zC8 ?_ | refine zQ ?_ | refine zR ?_ | refine zS ?_ | refine zA ?_ | refine zM ?_ | refine xr rfl ?_ | refine ai rfl ?_ | refine condT ?_ | refine condF ?_ | refine condG1 ?_ | refine condG0 ?_ | refine cD ?_ | refine dD ?_ | refine cB ?_ | refine dB ?_ | refine cN ?_ | refine dN ?_ | refine cV ?_ | refine dV ?_ | refine cE ?_ | refine dE ?_ | refine condX0 ?_ | refine condX1 ?_ | refine condNot ?_ | refine condAnd ?_ | refine condOr ?_ | refine aO ?_ | refine aB ?_ | refine aR ?_ | refine aR ?_ (by simp; omega) | refine xr (by assumption) ?_ | refine ai (by assumption) ?_ | refine kV (hwg) ?_ | refine condD (fun h => ?_) (fun h => ?_) | refine condB (fun h => ?_) (fun h => ?_) | refine condN (fun h => ?_) (fun h => ?_) | refine condE (fun h => ?_) (fun h => ?_) | refine condV (fun h => ?_) (fun h => ?_))
      all_goals ((first | refine ev_fin (And.intro (by first | rfl | (simp [AV.pure, pureL]; done) | fail) ?_) | refine ev_fin0 (And.intro (by first | rfl | (simp [AV.pure, pureL]; done) | fail) ?_)); simp only [segsF, pathR]; rw [if_pos (.inl (by omega))]; rfl)
    · by_cases h1 : r.length < n.toNat * w
      · refine ev_loop' (W_ok 300 _ _ _ _ ?_)
        repeat' ((conv => whnf); first | refine bslP (by first | rfl | (simp [pureL, pureLL, AV.pure]; done) | fail) rfl ?_ | refine TakeC.full (by first | rfl | omega | (simp; done) | (simp; omega) | fail) ?_ | refine zBs ?_ | refine zBn ?_ | refine zBv rfl rfl ?_ | refine zN ?_ | refine zC ?_ | refine zC4 ?_ | refine zOr16 ?_ | refine zC1 ?_ | refine zByte ?_ | refine zMaxL ?_ | refine zMaxR ?_ | refine zMinL ?_ | refine zMinR ?_ | refine zShr ?_ | refine zC8 ?_ | refine zQ ?_ | refine zR ?_ | refine zS ?_ | refine zA ?_ | refine zM ?_ | refine xr rfl ?_ | refine ai rfl ?_ | refine condT ?_ | refine condF ?_ | refine condG1 ?_ | refine condG0 ?_ | refine cD ?_ | refine dD ?_ | refine cB ?_ | refine dB ?_ | refine cN ?_ | refine dN ?_ | refine cV ?_ | refine dV ?_ | refine cE ?_ | refine dE ?_ | refine condX0 ?_ | refine condX1 ?_ | refine condNot ?_ | refine condAnd ?_ | refine condOr ?_ | refine aO ?_ | refine aB ?_ | refine aR ?_ | refine aR ?_ (by simp; omega) | refine xr (by assumption) ?_ | refine ai (by assumption) ?_ | refine kV (hwg) ?_ | refine condD (fun h => ?_) (fun h => ?_) | refine condB (fun h => ?_) (fun h => ?_) | refine condN (fun h => ?_) (fun h => ?_) | refine condE (fun h => ?_) (fun h => ?_) | refine condV (fun h => ?_) (fun h => ?_))
        all_goals ((first | refine ev_fin (And.intro (by first | rfl | (simp [AV.pure, pureL]; done) | fail) ?_) | refine ev_fin0 (And.intro (by first | rfl | (simp [AV.pure, pureL]; done) | fail) ?_)); simp only [segsF, pathR]; rw [if_pos (.inr (by omega))]; rfl)
      · have hel : es.length = m := by simp [hes, hm]
        refine ev_loop' (W_ok 300 _ _ _ _ ?_)
        repeat' ((conv => whnf); first | refine bslP (by first | rfl | (simp [pureL, pureLL, AV.pure]; done) | fail) rfl ?_ | refine TakeC.full (by first | rfl | omega | (simp; done) | (simp; omega) | fail) ?_ | refine zBs ?_ | refine zBn ?_ | refine zBv rfl rfl ?_ | refine zN ?_ | refine zC ?_ | refine zC4 ?_ | refine zOr16 ?_ | refine zC1 ?_ | refine zByte ?_ | refine zMaxL ?_ | refine zMaxR ?_ | refine zMinL ?_ | refine zMinR ?_ | refine zShr ?_ | refine zC8 ?_ | refine zQ ?_ | refine zR ?_ | refine zS ?_ | refine zA ?_ | refine zM ?_ | refine xr rfl ?_ | refine ai rfl ?_ | refine condT ?_ | refine condF ?_ | refine condG1 ?_ | refine condG0 ?_ | refine cD ?_ | refine dD ?_ | refine cB ?_ | refine dB ?_ | refine cN ?_ | refine dN ?_ | refine cV ?_ | refine dV ?_ | refine cE ?_ | refine dE ?_ | refine condX0 ?_ | refine condX1 ?_ | refine condNot ?_ | refine condAnd ?_ | refine condOr ?_ | refine aO ?_ | refine aB ?_ | refine aR ?_ | refine aR ?_ (by simp; omega) | refine xr (by assumption) ?_ | refine ai (by assumption) ?_ | refine kV (hwg) ?_ | refine condD (fun h => ?_) (fun h => ?_) | refine condB (fun h => ?_) (fun h => ?_) | refine condN (fun h => ?_) (fun h => ?_) | refine condE (fun h => ?_) (fun h => ?_) | refine condV (fun h => ?_) (fun h => ?_))
        refine ev_nil 122 1 [] [(72, some (_, .cells [.int .i64 (k.toNat : Int), .vs 122 _ 0]))] trivial ⟨⟨rfl, LeP.refl _, LeP.nilV _ _ _, trivial⟩, trivial⟩ ?_
        refine ev_keep [49, 10, 7, 8, 0, 1, 6, 48] [72, 122, 131] ?_
        refine seg_loop114 b r k n a hb wide w hwd.symm (by omega) (by omega) acc (by omega) _ ?_ n.toNat 0 _ _ _ _ _ _ _ _ _ _ _ (by omega) (by omega) rfl rfl hm hes
        intro T H c g m es at_ q0 q1 q2
        have h := path_loop114 b hl wide f (r.drop (n.toNat * w)) (a + 2 + n.toNat * w) (acc ++ [⟨(k.toNat : Int), numsD w n.toNat r⟩]) T H c g m es at_ q0 (by omega) (by rw [← x4, List.drop_drop]) (by simp; omega) (by simp; omega) (by simp [q1]) q2
        rw [hwd] at h
        simp only [segsF]
        rw [if_neg (by omega), Option.map_map]
        simpa [Function.comp_def] using h
theorem path_gives114 (b : List UInt8) (hl : b.length < 2 ^ 29) (wide : Bool) : Gives G 114 [.sl 1 (byteCells b), .bool wide] [] (pathR (segsD (wd wide) b)) := by
  have h := path_loop114 b hl wide b.length b 0 []
  refine gives_code (F := f114) rfl rfl (W_ok 300 _ _ _ _ ?_)
  repeat' ((conv => whnf); first | refine bslP (by first | rfl | (simp [pureL, pureLL, AV.pure]; done) | fail) rfl ?_ | refine TakeC.full (by first | rfl | omega | (simp; done) | (simp; omega) | fail) ?_ | refine zBs ?_ | refine zBn ?_ | refine zBv rfl rfl ?_ | refine zN ?_ | refine zC ?_ | refine zC4 ?_ | refine zOr16 ?_ | refine zC1 ?_ | refine zByte ?_ | refine zMaxL ?_ | refine zMaxR ?_ | refine zMinL ?_ | refine zMinR ?_ | refine zShr ?_ | refine zC8 ?_ | refine zQ ?_ | refine zR ?_ | refine zS ?_ | refine zA ?_ | refine zM ?_ | refine xr rfl ?_ | refine ai rfl ?_ | refine condT ?_ | refine condF ?_ | refine condG1 ?_ | refine condG0 ?_ | refine cD ?_ | refine dD ?_ | refine cB ?_ | refine dB ?_ | refine cN ?_ | refine dN ?_ | refine cV ?_ | refine dV ?_ | refine cE ?_ | refine dE ?_ | refine condX0 ?_ | refine condX1 ?_ | refine condNot ?_ | refine condAnd ?_ | refine condOr ?_ | refine aO ?_ | refine aB ?_ | refine aR ?_ | refine aR ?_ (by simp; omega) | refine xr (by assumption) ?_ | refine ai (by assumption) ?_ | refine condD (fun h => ?_) (fun h => ?_) | refine condB (fun h => ?_) (fun h => ?_) | refine condN (fun h => ?_) (fun h => ?_) | refine condE (fun h => ?_) (fun h => ?_) | refine condV (fun h => ?_) (fun h => ?_))
  refine ev_nil 131 2 [(6, .vs 131 _ 0)] [] ⟨LeP.nilV _ _ _, trivial⟩ trivial ?_
  refine ev_keep [0, 6, 7, 1] [131] ?_
  have e : pathR ((segsF (wd wide) b.length b).map fun l => [] ++ l) = pathR (segsD (wd wide) b) := by simp [segsD]
  rw [← e]
  exact h _ _ _ _ 0 _ 0 rfl (by omega) rfl (Nat.le_refl _) (by simp) rfl rfl
end Go.AM.IR
