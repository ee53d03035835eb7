/- What the functions of this program give, on the abstract machine. -/
import Derived.Test.YtcieamgbfameoaaGreatDoorMachineC
set_option linter.unusedVariables false
set_option linter.unusedSimpArgs false
set_option maxRecDepth 100000
namespace Go.AM.IR
open Go Go.AM
def f350x0 : List AOper := [
  Op 2 (.box (.t 0)),
  Mc 4 (.bool false)]
def f350x1 : List AOper := [
  Ls 9 27 2,
  Ct 10 130 [9]]
def f350x2 : List AOper := [
  Ct 11 192 [],
  Mv 4 11]
def f350x3 : List AOper := [
  Ls 13 27 2,
  Mv 14 1,
  Ct 15 193 [13, 14],
  Mv 12 15,
  Ex 16 12 0,
  Ex 17 12 1,
  Mv 5 16,
  Mv 6 17]
def f350x4 : List AOper := [
  Ls 19 27 2,
  Mv 20 1,
  Ct 21 353 [19, 20],
  Mv 18 21,
  Ex 22 18 0,
  Ex 23 18 1,
  Mv 7 22,
  Mv 8 23]
def f350x5 : List AOper := [
  Mv 24 6,
  Mv 25 8,
  Bi 26 .eql 24 25,
  Mv 27 26,
  Gt 27 (Mv 28 5),
  Gt 27 (Op 29 (.b2s (.t 28))),
  Gt 27 (Mv 30 7),
  Gt 27 (Op 31 (.b2s (.t 30))),
  Gt 27 (Bi 32 .eql 29 31),
  Pa 33 27 32,
  Mv 34 33,
  Gt 34 (Ct 35 192 []),
  Pa 36 34 35,
  Mv 4 36]
def f350 : AFunc := ⟨37, 2, false, [.t 4], (.seq (.region f350x0 false) (.seq (.seq (.region f350x1 false) (.cond (.t 10) (.seq (.region f350x2 false) .ret) .skip)) (.seq (.region f350x3 false) (.seq (.region f350x4 false) (.seq (.region f350x5 false) .ret)))))⟩
def f351x0 : List AOper := [
  Mc 4 (.bool false)]
def f351x1 : List AOper := [
  Mv 15 0,
  Ln 16 0 15,
  Bc 17 .gtr 16 5000]
def f351x2 : List AOper := [
  Ct 18 192 [],
  Mv 4 18]
def f351x3 : List AOper := [
  Mv 20 0,
  Mv 21 1,
  Ct 22 194 [20, 21],
  Mv 19 22,
  Ex 23 19 0,
  Ex 24 19 1,
  Ex 25 19 2,
  Ex 26 19 3,
  Op 5 (.alloc (.agg [.int .i64 0, .int .i64 0, .int .i64 0, .int .i64 0, .int .u32 0, .con (.slice none 0 0), .con (.slice none 0 0), .int .i64 0, .con (.slice none 0 0), .int .u32 0, .bool false, .int .i64 0, .bool false, .int .i64 0, .bool false, .bool false, .int .i64 0, .int .u32 0, .con (.slice none 0 0), .bool false, .int .u32 0, .con (.slice none 0 0), .con (.slice none 0 0), .con (.slice none 0 0), .int .i64 0, .int .i64 0, .con (.slice none 0 0)])),
  Op 7 (.alloc (.agg [.int .i64 0, .int .i64 0, .int .i64 0, .int .i64 0, .int .u32 0, .con (.slice none 0 0), .con (.slice none 0 0), .int .i64 0, .con (.slice none 0 0), .int .u32 0, .bool false, .int .i64 0, .bool false, .int .i64 0, .bool false, .bool false, .int .i64 0, .int .u32 0, .con (.slice none 0 0), .bool false, .int .u32 0, .con (.slice none 0 0), .con (.slice none 0 0), .con (.slice none 0 0), .int .i64 0, .int .i64 0, .con (.slice none 0 0)])),
  St 27 5 23,
  Mv 6 24,
  St 27 7 25,
  Mv 8 26]
def f351x4 : List AOper := [
  Mv 28 0,
  Mv 29 1,
  Ct 30 354 [28, 29],
  Mv 27 30,
  Ex 31 27 0,
  Ex 32 27 1,
  Ex 33 27 2,
  Ex 34 27 3,
  Op 9 (.alloc (.agg [.int .i64 0, .int .i64 0, .int .i64 0, .int .i64 0, .int .u32 0, .con (.slice none 0 0), .con (.slice none 0 0), .int .i64 0, .con (.slice none 0 0), .int .u32 0, .bool false, .int .i64 0, .bool false, .int .i64 0, .bool false, .bool false, .int .i64 0, .int .u32 0, .con (.slice none 0 0), .bool false, .int .u32 0, .con (.slice none 0 0), .con (.slice none 0 0), .con (.slice none 0 0), .int .i64 0, .int .i64 0, .con (.slice none 0 0)])),
  Op 11 (.alloc (.agg [.int .i64 0, .int .i64 0, .int .i64 0, .int .i64 0, .int .u32 0, .con (.slice none 0 0), .con (.slice none 0 0), .int .i64 0, .con (.slice none 0 0), .int .u32 0, .bool false, .int .i64 0, .bool false, .int .i64 0, .bool false, .bool false, .int .i64 0, .int .u32 0, .con (.slice none 0 0), .bool false, .int .u32 0, .con (.slice none 0 0), .con (.slice none 0 0), .con (.slice none 0 0), .int .i64 0, .int .i64 0, .con (.slice none 0 0)])),
  St 27 9 31,
  Mv 10 32,
  St 27 11 33,
  Mv 12 34]
def f351x5 : List AOper := [
  Mv 35 8,
  Mv 36 12,
  Bi 37 .neq 35 36,
  Mv 38 37,
  Gf 38 (Mv 39 6),
  Gf 38 (Mv 40 10),
  Gf 38 (Bi 41 .neq 39 40),
  Po 42 38 41,
  Mv 43 42,
  Gf 43 (Ls 44 27 5),
  Gf 43 (Ls 45 27 9),
  Gf 43 (Ct 46 126 [44, 45]),
  Gf 43 (Un 47 .not 46),
  Po 48 43 47,
  Mv 49 48,
  Gf 49 (Ls 50 27 7),
  Gf 49 (Ls 51 27 11),
  Gf 49 (Ct 52 126 [50, 51]),
  Gf 49 (Un 53 .not 52),
  Po 54 49 53]
def f351x6 : List AOper := [
  Mc 4 (.bool false)]
def f351x7 : List AOper := [
  Mv 55 8,
  Bc 56 .neq 55 0]
def f351x8 : List AOper := [
  Ct 57 192 [],
  Mv 4 57]
def f351x9 : List AOper := [
  Ls 59 27 5,
  Mv 60 1,
  Ct 61 193 [59, 60],
  Mv 58 61,
  Ex 62 58 0,
  Ex 63 58 1,
  Mv 13 62,
  Mv 14 63]
def f351x10 : List AOper := [
  Mv 64 14,
  Bc 65 .eql 64 0,
  Mv 66 65,
  Gt 66 (Mv 67 6),
  Gt 66 (Mv 68 0),
  Gt 66 (Ln 69 0 68),
  Gt 66 (Bi 70 .leq 67 69),
  Pa 71 66 70,
  Mv 72 71,
  Gt 72 (Mv 73 13),
  Af [5] (Gt 72 (Op 74 (.b2s (.t 73)))),
  Gt 72 (Mv 75 0),
  Gt 72 (Mv 76 6),
  Af [5] (Gt 72 (Op 77 (.slc 1 (.t 75) none (some (.t 76)) none))),
  Af [13, 5] (Gt 72 (Op 78 (.b2s (.t 77)))),
  Gt 72 (Bi 79 .eql 74 78),
  Pa 80 72 79,
  Mv 81 80,
  Af [10, 14, 13, 5] (Gt 81 (Ct 82 192 [])),
  Pa 83 81 82,
  Mv 4 83]
def f351 : AFunc := ⟨84, 2, false, [.t 4], (.seq (.region f351x0 false) (.seq (.seq (.region f351x1 false) (.cond (.t 17) (.seq (.region f351x2 false) .ret) .skip)) (.seq (.region f351x3 false) (.seq (.region f351x4 false) (.seq (.seq (.region f351x5 false) (.cond (.t 54) (.seq (.region f351x6 false) .ret) .skip)) (.seq (.seq (.region f351x7 false) (.cond (.t 56) (.seq (.region f351x8 false) .ret) .skip)) (.seq (.region f351x9 false) (.seq (.region f351x10 true) .ret))))))))⟩
def f352x0 : List AOper := [
  Op 2 (.box (.t 0)),
  Mc 4 (.bool false)]
def f352x1 : List AOper := [
  Ls 10 27 2,
  Ct 11 130 [10]]
def f352x2 : List AOper := [
  Ct 12 192 [],
  Mv 4 12]
def f352x3 : List AOper := [
  Ls 14 27 2,
  Mv 15 1,
  Ct 16 195 [14, 15],
  Mv 13 16,
  Ex 17 13 0,
  Ex 18 13 1,
  Mv 5 17,
  Mv 6 18]
def f352x4 : List AOper := [
  Ls 20 27 2,
  Mv 21 1,
  Ct 22 355 [20, 21],
  Mv 19 22,
  Ex 23 19 0,
  Ex 24 19 1,
  Mv 7 23,
  Mv 8 24]
def f352x5 : List AOper := [
  Mv 25 6,
  Mv 26 8,
  Bi 27 .neq 25 26,
  Mv 28 27,
  Gf 28 (Mv 29 5),
  Gf 28 (Ln 30 0 29),
  Gf 28 (Mv 31 7),
  Gf 28 (Ln 32 0 31),
  Gf 28 (Bi 33 .neq 30 32),
  Po 34 28 33]
def f352x6 : List AOper := [
  Mc 4 (.bool false)]
def f352x7 : List AOper := [
  Mv 35 5,
  Ln 36 0 35,
  Mc 37 (.int .i64 0)]
def f352x8 : List AOper := [
  Bi 38 .lss 37 36]
def f352x9 : List AOper := [
  Mv 39 37,
  Mv 9 39]
def f352x10 : List AOper := [
  Mv 40 5,
  Mv 41 9,
  Ia 42 27 40 41,
  Af [2] (Ls 43 27 42),
  Mv 44 7,
  Mv 45 9,
  Ia 46 27 44 45,
  Af [6] (Ls 47 27 46),
  Af [3, 7, 2, 6] (Ct 48 126 [43, 47]),
  Un 49 .not 48]
def f352x11 : List AOper := [
  Mc 4 (.bool false)]
def f352x12 : List AOper := [
  Bc 50 .add 37 1,
  Mv 37 50]
def f352x13L : ACode := (.seq (.region f352x8 false) (.seq (.cond (.t 38) .skip (.exit 0)) (.seq (.block 1 (.seq (.region f352x9 false) (.seq (.region f352x10 true) (.cond (.t 49) (.seq (.region f352x11 false) .ret) .skip)))) (.region f352x12 false))))
def f352x14 : List AOper := [
  Ct 51 192 [],
  Mv 4 51]
def f352 : AFunc := ⟨52, 2, false, [.t 4], (.seq (.region f352x0 false) (.seq (.seq (.region f352x1 false) (.cond (.t 11) (.seq (.region f352x2 false) .ret) .skip)) (.seq (.region f352x3 false) (.seq (.region f352x4 false) (.seq (.seq (.region f352x5 false) (.cond (.t 34) (.seq (.region f352x6 false) .ret) .skip)) (.seq (.seq (.region f352x7 false) (.block 0 (.loop f352x13L))) (.seq (.region f352x14 false) .ret)))))))⟩
def f130x0 : List AOper := [
  Op 1 (.box (.t 0)),
  Mc 2 (.bool false)]
def f130x1 : List AOper := [
  Fa 3 7 1,
  Ls 4 16 3,
  Ct 5 21 [4],
  Mv 6 5,
  Gf 6 (Fa 7 6 1),
  Gf 6 (Ld 8 7),
  Gf 6 (Ln 9 0 8),
  Gf 6 (Bc 10 .gtr 9 30000),
  Po 11 6 10,
  Mv 12 11,
  Gf 12 (Fa 13 23 1),
  Gf 12 (Ld 14 13),
  Gf 12 (Ln 15 0 14),
  Gf 12 (Bc 16 .gtr 15 30000),
  Po 17 12 16,
  Mv 18 17,
  Gf 18 (Fa 19 5 1),
  Gf 18 (Ld 20 19),
  Gf 18 (Ln 21 0 20),
  Gf 18 (Bc 22 .gtr 21 400),
  Po 23 18 22,
  Mv 24 23,
  Gf 24 (Fa 25 26 1),
  Gf 24 (Ld 26 25),
  Gf 24 (Ln 27 0 26),
  Gf 24 (Bc 28 .gtr 27 70000),
  Po 29 24 28,
  Mv 2 29]
def f130 : AFunc := ⟨30, 1, false, [.t 2], (.seq (.region f130x0 false) (.seq (.region f130x1 false) .ret))⟩
def f192x0 : List AOper := [
  Mc 0 (.bool false)]
def f192x1 : List AOper := [
  Op 24 (.build [.int .i64 0, .int .i64 0, .int .i64 0, .int .i64 0, .int .u32 0, .con (.slice none 0 0), .con (.slice none 0 0), .int .i64 0, .con (.slice none 0 0), .int .u32 0, .bool false, .int .i64 0, .bool false, .int .i64 0, .bool false, .bool false, .int .i64 0, .int .u32 0, .con (.slice none 0 0), .bool false, .int .u32 0, .con (.slice none 0 0), .con (.slice none 0 0), .con (.slice none 0 0), .int .i64 0, .int .i64 0, .con (.slice none 0 0)] [(0, 1)] [(.c (.int .i64 4))]),
  Ca 25 193 [(.t 24), (.c (.bool true))],
  Mv 23 25,
  Ex 26 23 0,
  Ex 27 23 1,
  Mv 1 26,
  Mv 2 27]
def f192x2 : List AOper := [
  Op 29 (.build [.int .i64 0, .int .i64 0, .int .i64 0, .int .i64 0, .int .u32 0, .con (.slice none 0 0), .con (.slice none 0 0), .int .i64 0, .con (.slice none 0 0), .int .u32 0, .bool false, .int .i64 0, .bool false, .int .i64 0, .bool false, .bool false, .int .i64 0, .int .u32 0, .con (.slice none 0 0), .bool false, .int .u32 0, .con (.slice none 0 0), .con (.slice none 0 0), .con (.slice none 0 0), .int .i64 0, .int .i64 0, .con (.slice none 0 0)] [(0, 1)] [(.c (.int .i64 2))]),
  Ca 30 193 [(.t 29), (.c (.bool true))],
  Mv 28 30,
  Ex 31 28 0,
  Ex 32 28 1,
  Mv 3 31,
  Mv 4 32]
def f192x3 : List AOper := [
  Mv 33 2,
  Bc 34 .neq 33 0,
  Mv 35 34,
  Gf 35 (Mv 36 4),
  Gf 35 (Bc 37 .neq 36 0),
  Po 38 35 37,
  Mv 39 38,
  Gf 39 (Mv 40 1),
  Gf 39 (Ln 41 0 40),
  Gf 39 (Bc 42 .neq 41 19),
  Po 43 39 42,
  Mv 44 43,
  Gf 44 (Mv 45 1),
  Gf 44 (Op 46 (.iadr 1 (.t 45) (.c (.int .i64 17)))),
  Gf 44 (Ld 47 46),
  Gf 44 (Op 48 (.bin .neq (.t 47) (.c (.int .u8 19)))),
  Po 49 44 48,
  Mv 50 49,
  Gf 50 (Mv 51 1),
  Gf 50 (Op 52 (.iadr 1 (.t 51) (.c (.int .i64 18)))),
  Gf 50 (Ld 53 52),
  Gf 50 (Op 54 (.bin .neq (.t 53) (.c (.int .u8 4)))),
  Po 55 50 54,
  Mv 56 55,
  Gf 56 (Mv 57 3),
  Gf 56 (Ln 58 0 57),
  Gf 56 (Bc 59 .neq 58 23),
  Po 60 56 59,
  Mv 61 60,
  Gf 61 (Mv 62 3),
  Gf 61 (Op 63 (.iadr 1 (.t 62) (.c (.int .i64 18)))),
  Gf 61 (Ld 64 63),
  Gf 61 (Op 65 (.bin .neq (.t 64) (.c (.int .u8 2)))),
  Po 66 61 65]
def f192x4 : List AOper := [
  Mc 0 (.bool false)]
def f192x5 : List AOper := [
  Op 67 (.bsl 1 [.int .u8 0] 0 [] []),
  Mv 68 1,
  Ap 69 1 1 67 68,
  Mv 5 69]
def f192x6 : List AOper := [
  Mv 70 5,
  Op 71 (.bsl 1 [.int .u8 0] 1 [0] [(.c (.int .u8 7))]),
  Ap 72 1 1 70 71,
  Mv 5 72]
def f192x7 : List AOper := [
  Mv 74 5,
  Ca 75 194 [(.t 74), (.c (.bool true))],
  Mv 73 75,
  Ex 76 73 0,
  Ex 77 73 1,
  Ex 78 73 2,
  Ex 79 73 3,
  Op 6 (.alloc (.agg [.int .i64 0, .int .i64 0, .int .i64 0, .int .i64 0, .int .u32 0, .con (.slice none 0 0), .con (.slice none 0 0), .int .i64 0, .con (.slice none 0 0), .int .u32 0, .bool false, .int .i64 0, .bool false, .int .i64 0, .bool false, .bool false, .int .i64 0, .int .u32 0, .con (.slice none 0 0), .bool false, .int .u32 0, .con (.slice none 0 0), .con (.slice none 0 0), .con (.slice none 0 0), .int .i64 0, .int .i64 0, .con (.slice none 0 0)])),
  Op 8 (.alloc (.agg [.int .i64 0, .int .i64 0, .int .i64 0, .int .i64 0, .int .u32 0, .con (.slice none 0 0), .con (.slice none 0 0), .int .i64 0, .con (.slice none 0 0), .int .u32 0, .bool false, .int .i64 0, .bool false, .int .i64 0, .bool false, .bool false, .int .i64 0, .int .u32 0, .con (.slice none 0 0), .bool false, .int .u32 0, .con (.slice none 0 0), .con (.slice none 0 0), .con (.slice none 0 0), .int .i64 0, .int .i64 0, .con (.slice none 0 0)])),
  St 27 6 76,
  Mv 7 77,
  St 27 8 78,
  Mv 9 79]
def f192x8 : List AOper := [
  Mv 81 3,
  Op 82 (.slc 1 (.t 81) (some (.c (.int .i64 1))) none none),
  Ca 83 194 [(.t 82), (.c (.bool true))],
  Mv 80 83,
  Ex 84 80 0,
  Ex 85 80 1,
  Ex 86 80 2,
  Ex 87 80 3,
  Op 10 (.alloc (.agg [.int .i64 0, .int .i64 0, .int .i64 0, .int .i64 0, .int .u32 0, .con (.slice none 0 0), .con (.slice none 0 0), .int .i64 0, .con (.slice none 0 0), .int .u32 0, .bool false, .int .i64 0, .bool false, .int .i64 0, .bool false, .bool false, .int .i64 0, .int .u32 0, .con (.slice none 0 0), .bool false, .int .u32 0, .con (.slice none 0 0), .con (.slice none 0 0), .con (.slice none 0 0), .int .i64 0, .int .i64 0, .con (.slice none 0 0)])),
  Op 12 (.alloc (.agg [.int .i64 0, .int .i64 0, .int .i64 0, .int .i64 0, .int .u32 0, .con (.slice none 0 0), .con (.slice none 0 0), .int .i64 0, .con (.slice none 0 0), .int .u32 0, .bool false, .int .i64 0, .bool false, .int .i64 0, .bool false, .bool false, .int .i64 0, .int .u32 0, .con (.slice none 0 0), .bool false, .int .u32 0, .con (.slice none 0 0), .con (.slice none 0 0), .con (.slice none 0 0), .int .i64 0, .int .i64 0, .con (.slice none 0 0)])),
  St 27 10 84,
  Mv 11 85,
  St 27 12 86,
  Mv 13 87]
def f192x9 : List AOper := [
  Op 89 (.mksl 1 1 [.int .u8 0] (.c (.int .i64 19)) (.c (.int .i64 19))),
  Ca 90 194 [(.t 89), (.c (.bool true))],
  Mv 88 90,
  Ex 91 88 0,
  Ex 92 88 1,
  Ex 93 88 2,
  Ex 94 88 3,
  Op 14 (.alloc (.agg [.int .i64 0, .int .i64 0, .int .i64 0, .int .i64 0, .int .u32 0, .con (.slice none 0 0), .con (.slice none 0 0), .int .i64 0, .con (.slice none 0 0), .int .u32 0, .bool false, .int .i64 0, .bool false, .int .i64 0, .bool false, .bool false, .int .i64 0, .int .u32 0, .con (.slice none 0 0), .bool false, .int .u32 0, .con (.slice none 0 0), .con (.slice none 0 0), .con (.slice none 0 0), .int .i64 0, .int .i64 0, .con (.slice none 0 0)])),
  Op 16 (.alloc (.agg [.int .i64 0, .int .i64 0, .int .i64 0, .int .i64 0, .int .u32 0, .con (.slice none 0 0), .con (.slice none 0 0), .int .i64 0, .con (.slice none 0 0), .int .u32 0, .bool false, .int .i64 0, .bool false, .int .i64 0, .bool false, .bool false, .int .i64 0, .int .u32 0, .con (.slice none 0 0), .bool false, .int .u32 0, .con (.slice none 0 0), .con (.slice none 0 0), .con (.slice none 0 0), .int .i64 0, .int .i64 0, .con (.slice none 0 0)])),
  St 27 14 91,
  Mv 15 92,
  St 27 16 93,
  Mv 17 94]
def f192x10 : List AOper := [
  Mv 95 9,
  Bc 96 .neq 95 0,
  Mv 97 96,
  Gf 97 (Mv 98 7),
  Gf 97 (Bc 99 .neq 98 19),
  Po 100 97 99,
  Mv 101 100,
  Gf 101 (Fa 102 0 6),
  Gf 101 (Ld 103 102),
  Gf 101 (Bc 104 .neq 103 4),
  Po 105 101 104,
  Mv 106 105,
  Gf 106 (Mv 107 13),
  Gf 106 (Bc 108 .neq 107 2),
  Gf 106 (Mv 109 108),
  Gt 109 (Mv 110 13),
  Gt 109 (Bc 111 .neq 110 3),
  Gf 106 (Pa 112 109 111),
  Po 113 106 112,
  Mv 114 113,
  Gf 114 (Fa 115 0 12),
  Gf 114 (Ld 116 115),
  Gf 114 (Bc 117 .neq 116 3),
  Po 118 114 117,
  Mv 119 118,
  Gf 119 (Mv 120 17),
  Gf 119 (Bc 121 .neq 120 2),
  Po 122 119 121,
  Mv 123 122,
  Gf 123 (Fa 124 24 16),
  Gf 123 (Ld 125 124),
  Gf 123 (Bc 126 .neq 125 1),
  Po 127 123 126,
  Mv 128 127,
  Gf 128 (Fa 129 25 16),
  Gf 128 (Ld 130 129),
  Gf 128 (Bc 131 .neq 130 1),
  Po 132 128 131]
def f192x11 : List AOper := [
  Mc 0 (.bool false)]
def f192x12 : List AOper := [
  Op 133 (.build [.int .u32 0, .int .i64 0] [(0, 1), (1, 1)] [(.c (.int .u32 167837696)), (.c (.int .i64 20))]),
  Op 134 (.bsl 2 [.int .u32 0, .int .i64 0] 1 [0] [(.t 133)]),
  Op 135 (.build [.int .i64 0, .int .i64 0, .int .i64 0, .int .i64 0, .int .u32 0, .con (.slice none 0 0), .con (.slice none 0 0), .int .i64 0, .con (.slice none 0 0), .int .u32 0, .bool false, .int .i64 0, .bool false, .int .i64 0, .bool false, .bool false, .int .i64 0, .int .u32 0, .con (.slice none 0 0), .bool false, .int .u32 0, .con (.slice none 0 0), .con (.slice none 0 0), .con (.slice none 0 0), .int .i64 0, .int .i64 0, .con (.slice none 0 0)] [(0, 1), (6, 1)] [(.c (.int .i64 2)), (.t 134)]),
  Op 18 (.alloc (.agg [.int .i64 0, .int .i64 0, .int .i64 0, .int .i64 0, .int .u32 0, .con (.slice none 0 0), .con (.slice none 0 0), .int .i64 0, .con (.slice none 0 0), .int .u32 0, .bool false, .int .i64 0, .bool false, .int .i64 0, .bool false, .bool false, .int .i64 0, .int .u32 0, .con (.slice none 0 0), .bool false, .int .u32 0, .con (.slice none 0 0), .con (.slice none 0 0), .con (.slice none 0 0), .int .i64 0, .int .i64 0, .con (.slice none 0 0)])),
  St 27 18 135]
def f192x13 : List AOper := [
  Ls 137 27 18,
  Ca 138 193 [(.t 137), (.c (.bool false))],
  Mv 136 138,
  Ex 139 136 0,
  Ex 140 136 1,
  Mv 19 139,
  Mv 20 140]
def f192x14 : List AOper := [
  Ls 142 27 18,
  Ca 143 195 [(.t 142), (.c (.bool false))],
  Mv 141 143,
  Ex 144 141 0,
  Ex 145 141 1,
  Mv 21 144,
  Mv 22 145]
def f192x15 : List AOper := [
  Mv 146 20,
  Bc 147 .eql 146 0,
  Mv 148 147,
  Gt 148 (Mv 149 19),
  Gt 148 (Ln 150 0 149),
  Gt 148 (Bc 151 .eql 150 27),
  Pa 152 148 151,
  Mv 153 152,
  Gt 153 (Mv 154 19),
  Af [4] (Gt 153 (Op 155 (.iadr 1 (.t 154) (.c (.int .i64 21))))),
  Af [9, 4] (Gt 153 (Ld 156 155)),
  Gt 153 (Op 157 (.bin .eql (.t 156) (.c (.int .u8 20)))),
  Pa 158 153 157,
  Mv 159 158,
  Gt 159 (Mv 160 19),
  Af [10, 9, 4] (Gt 159 (Op 161 (.iadr 1 (.t 160) (.c (.int .i64 24))))),
  Af [15, 10, 9, 4] (Gt 159 (Ld 162 161)),
  Gt 159 (Op 163 (.bin .eql (.t 162) (.c (.int .u8 0)))),
  Pa 164 159 163,
  Mv 165 164,
  Gt 165 (Mv 166 22),
  Gt 165 (Bc 167 .eql 166 0),
  Pa 168 165 167,
  Mv 169 168,
  Gt 169 (Mv 170 21),
  Af [16, 15, 10, 9, 4] (Gt 169 (Ln 171 0 170)),
  Gt 169 (Bc 172 .eql 171 1),
  Pa 173 169 172,
  Mv 174 173,
  Gt 174 (Mv 175 21),
  Af [25, 16, 15, 10, 9, 4] (Gt 174 (Op 176 (.iadr 27 (.t 175) (.c (.int .i64 0))))),
  Af [30, 25, 16, 15, 10, 9, 4] (Gt 174 (Ls 177 27 176)),
  Af [25, 16, 15, 10, 9, 4] (Gt 174 (Ls 178 27 18)),
  Af [31, 32, 30, 25, 16, 15, 10, 9, 4] (Gt 174 (Ct 179 156 [177, 178])),
  Pa 180 174 179,
  Mv 181 180,
  Af [33, 31, 32, 30, 25, 16, 15, 10, 9, 4] (Gt 181 (Ls 182 27 18)),
  Af [33, 31, 32, 30, 25, 16, 15, 10, 9, 4] (Gt 181 (Ls 183 27 6)),
  Af [36, 37, 33, 31, 32, 30, 25, 16, 15, 10, 9, 4] (Gt 181 (Ct 184 156 [182, 183])),
  Gt 181 (Un 185 .not 184),
  Pa 186 181 185,
  Mv 187 186,
  Af [38, 36, 37, 33, 31, 32, 30, 25, 16, 15, 10, 9, 4] (Gt 187 (Ls 188 27 18)),
  Af [42, 38, 36, 37, 33, 31, 32, 30, 25, 16, 15, 10, 9, 4] (Gt 187 (Ct 189 144 [188])),
  Gt 187 (Bc 190 .eql 189 0),
  Pa 191 187 190,
  Mv 192 191,
  Gt 192 (Op 193 (.build [.int .i64 0, .int .i64 0, .int .i64 0, .int .i64 0, .int .u32 0, .con (.slice none 0 0), .con (.slice none 0 0), .int .i64 0, .con (.slice none 0 0), .int .u32 0, .bool false, .int .i64 0, .bool false, .int .i64 0, .bool false, .bool false, .int .i64 0, .int .u32 0, .con (.slice none 0 0), .bool false, .int .u32 0, .con (.slice none 0 0), .con (.slice none 0 0), .con (.slice none 0 0), .int .i64 0, .int .i64 0, .con (.slice none 0 0)] [] [])),
  Af [43, 42, 38, 36, 37, 33, 31, 32, 30, 25, 16, 15, 10, 9, 4] (Gt 192 (Ct 194 144 [193])),
  Gt 192 (Bc 195 .eql 194 15),
  Pa 196 192 195,
  Mv 0 196]
def f192 : AFunc := ⟨197, 0, false, [.t 0], (.seq (.region f192x0 false) (.seq (.region f192x1 false) (.seq (.region f192x2 false) (.seq (.seq (.region f192x3 false) (.cond (.t 66) (.seq (.region f192x4 false) .ret) .skip)) (.seq (.region f192x5 false) (.seq (.region f192x6 false) (.seq (.region f192x7 false) (.seq (.region f192x8 false) (.seq (.region f192x9 false) (.seq (.seq (.region f192x10 false) (.cond (.t 132) (.seq (.region f192x11 false) .ret) .skip)) (.seq (.region f192x12 false) (.seq (.region f192x13 false) (.seq (.region f192x14 false) (.seq (.region f192x15 true) .ret))))))))))))))⟩
def f193x0 : List AOper := [
  Op 2 (.box (.t 0)),
  Mc 4 (.con (.slice none 0 0)),
  Mc 5 (.int .i64 0)]
def f193x1 : List AOper := [
  Ls 12 27 2,
  Ct 13 144 [12],
  Mv 6 13]
def f193x2 : List AOper := [
  Mv 14 6,
  Bc 15 .neq 14 0]
def f193x3 : List AOper := [
  Mv 16 6,
  Mc 4 (.con (.slice none 0 0)),
  Mv 5 16]
def f193x4 : List AOper := [
  Mc 7 (.con (.slice none 0 0))]
def f193x5 : List AOper := [
  Fa 17 0 2,
  Ld 18 17]
def f193x6 : List AOper := [
  Bc 20 .eql 18 1,
  Mv 19 20]
def f193x7 : List AOper := [
  Ls 21 27 2,
  Ct 22 196 [21],
  Mv 7 22]
def f193x8 : List AOper := [
  Bc 24 .eql 18 2,
  Mv 23 24]
def f193x9 : List AOper := [
  Ls 26 27 2,
  Mv 27 1,
  Ct 28 197 [26, 27],
  Mv 25 28,
  Ex 29 25 0,
  Ex 30 25 1,
  Mv 8 29,
  Mv 9 30]
def f193x10 : List AOper := [
  Mv 31 9,
  Bc 32 .neq 31 0]
def f193x11 : List AOper := [
  Mv 33 9,
  Mc 4 (.con (.slice none 0 0)),
  Mv 5 33]
def f193x12 : List AOper := [
  Mv 34 8,
  Mv 7 34]
def f193x13 : List AOper := [
  Bc 36 .eql 18 3,
  Mv 35 36]
def f193x14 : List AOper := [
  Fa 37 24 2,
  Ld 38 37,
  Cv 39 .u8 38,
  Fa 40 25 2,
  Ld 41 40,
  Cv 42 .u8 41,
  Op 43 (.bsl 1 [.int .u8 0] 2 [0, 1] [(.t 39), (.t 42)]),
  Fa 44 26 2,
  Ld 45 44,
  Ap 46 1 1 43 45,
  Mv 7 46]
def f193x15 : List AOper := [
  Bc 48 .eql 18 5,
  Mv 47 48]
def f193x16 : List AOper := [
  Op 49 (.bsl 1 [.int .u8 0] 4 [0, 1, 2, 3] [(.c (.int .u8 0)), (.c (.int .u8 1)), (.c (.int .u8 0)), (.c (.int .u8 1))]),
  Mv 7 49]
def f193x17 : List AOper := [
  Mv 50 7,
  Ln 51 0 50,
  Op 52 (.bin .add (.c (.int .i64 19)) (.t 51)),
  Bc 53 .gtr 52 65535]
def f193x18 : List AOper := [
  Mc 4 (.con (.slice none 0 0)),
  Mc 5 (.int .i64 4)]
def f193x19 : List AOper := [
  Mv 54 7,
  Ln 55 0 54,
  Op 56 (.bin .add (.c (.int .i64 19)) (.t 55)),
  Op 57 (.mksl 1 1 [.int .u8 0] (.c (.int .i64 16)) (.t 56)),
  Mv 10 57]
def f193x20 : List AOper := [
  Mv 58 10,
  Ln 59 0 58,
  Mc 60 (.int .i64 0)]
def f193x21 : List AOper := [
  Bi 61 .lss 60 59]
def f193x22 : List AOper := [
  Mv 62 60,
  Mv 11 62]
def f193x23 : List AOper := [
  Mv 63 10,
  Mv 64 11,
  Ia 65 1 63 64,
  ⟨none, .store 1 (.t 65) (.c (.int .u8 255)), none, []⟩]
def f193x24 : List AOper := [
  Bc 66 .add 60 1,
  Mv 60 66]
def f193x25L : ACode := (.seq (.region f193x21 false) (.seq (.cond (.t 61) .skip (.exit 1)) (.seq (.block 2 (.seq (.region f193x22 false) (.region f193x23 false))) (.region f193x24 false))))
def f193x26 : List AOper := [
  Mv 67 10,
  Mv 68 7,
  Ln 69 0 68,
  Op 70 (.bin .add (.c (.int .i64 19)) (.t 69)),
  Cv 71 .u64 70,
  Ca 72 109 [(.t 67), (.c (.int .i64 2)), (.t 71)],
  Mv 10 72]
def f193x27 : List AOper := [
  Mv 73 10,
  Fa 74 0 2,
  Ld 75 74,
  Cv 76 .u8 75,
  Op 77 (.bsl 1 [.int .u8 0] 1 [0] [(.t 76)]),
  Ap 78 1 1 73 77,
  Mv 10 78]
def f193x28 : List AOper := [
  Mv 79 10,
  Mv 80 7,
  Ap 81 1 1 79 80,
  Mv 4 81,
  Mc 5 (.int .i64 0)]
def f193 : AFunc := ⟨82, 2, false, [.t 4, .t 5], (.seq (.region f193x0 false) (.seq (.seq (.region f193x1 false) (.seq (.region f193x2 false) (.cond (.t 15) (.seq (.region f193x3 false) .ret) .skip))) (.seq (.region f193x4 false) (.seq (.seq (.region f193x5 false) (.block 0 (.seq (.region f193x6 false) (.cond (.t 19) (.region f193x7 false) (.seq (.region f193x8 false) (.cond (.t 23) (.seq (.region f193x9 false) (.seq (.seq (.region f193x10 false) (.cond (.t 32) (.seq (.region f193x11 false) .ret) .skip)) (.region f193x12 false))) (.seq (.region f193x13 false) (.cond (.t 35) (.region f193x14 false) (.seq (.region f193x15 false) (.cond (.t 47) (.region f193x16 false) .skip)))))))))) (.seq (.seq (.region f193x17 false) (.cond (.t 53) (.seq (.region f193x18 false) .ret) .skip)) (.seq (.region f193x19 false) (.seq (.seq (.region f193x20 false) (.block 1 (.loop f193x25L))) (.seq (.region f193x26 false) (.seq (.region f193x27 false) (.seq (.region f193x28 false) .ret))))))))))⟩
def f193x25LH : List AItem := [.inLoop f193x25L, .inBlock 1, .code (.seq (.region f193x26 false) (.seq (.region f193x27 false) (.seq (.region f193x28 false) .ret)))]
def f353x0 : List AOper := [
  Op 2 (.box (.t 0)),
  Mc 4 (.con (.slice none 0 0)),
  Mc 5 (.int .i64 0)]
def f353x1 : List AOper := [
  Ls 14 27 2,
  Ct 15 148 [14],
  Mv 6 15]
def f353x2 : List AOper := [
  Mv 16 6,
  Bc 17 .neq 16 0]
def f353x3 : List AOper := [
  Mv 18 6,
  Mc 4 (.con (.slice none 0 0)),
  Mv 5 18]
def f353x4 : List AOper := [
  Mc 7 (.con (.slice none 0 0))]
def f353x5 : List AOper := [
  Fa 19 0 2,
  Ld 20 19]
def f353x6 : List AOper := [
  Bc 22 .eql 20 1,
  Mv 21 22]
def f353x7 : List AOper := [
  Ls 23 27 2,
  Ct 24 356 [23],
  Mv 7 24]
def f353x8 : List AOper := [
  Bc 26 .eql 20 2,
  Mv 25 26]
def f353x9 : List AOper := [
  Mc 8 (.con (.slice none 0 0))]
def f353x10 : List AOper := [
  Fa 27 23 2,
  Ld 28 27,
  Ln 29 0 28,
  Bc 30 .gtr 29 0]
def f353x11 : List AOper := [
  Fa 32 7 2,
  Ls 33 16 32,
  Mv 34 1,
  Ct 35 68 [33, 34],
  Mv 31 35,
  Ex 36 31 0,
  Ex 37 31 1,
  Mv 9 36,
  Mv 10 37]
def f353x12 : List AOper := [
  Mv 38 10,
  Bc 39 .neq 38 0]
def f353x13 : List AOper := [
  Mv 40 10,
  Mc 4 (.con (.slice none 0 0)),
  Mv 5 40]
def f353x14 : List AOper := [
  Mv 41 9,
  Mv 8 41]
def f353x15 : List AOper := [
  Fa 42 6 2,
  Ld 43 42,
  Af [1] (Ct 44 357 [43]),
  Fa 45 23 2,
  Ld 46 45,
  Af [4, 2, 1] (Ct 47 357 [46]),
  Mv 11 44,
  Mv 12 47]
def f353x16 : List AOper := [
  Mv 48 11,
  Ln 49 0 48,
  Mv 50 8,
  Ln 51 0 50,
  Bi 52 .add 49 51,
  Mv 53 12,
  Ln 54 0 53,
  Bi 55 .add 52 54,
  Bc 56 .add 55 23,
  Bc 57 .gtr 56 65535]
def f353x17 : List AOper := [
  Mc 4 (.con (.slice none 0 0)),
  Mc 5 (.int .i64 4)]
def f353x18 : List AOper := [
  Mv 58 7,
  Mv 59 11,
  Ln 60 0 59,
  Cv 61 .u64 60,
  Ca 62 91 [(.t 58), (.c (.int .i64 2)), (.t 61)],
  Mv 7 62]
def f353x19 : List AOper := [
  Mv 63 7,
  Mv 64 11,
  Ap 65 1 1 63 64,
  Mv 7 65]
def f353x20 : List AOper := [
  Mv 66 7,
  Mv 67 8,
  Ln 68 0 67,
  Cv 69 .u64 68,
  Ca 70 91 [(.t 66), (.c (.int .i64 2)), (.t 69)],
  Mv 7 70]
def f353x21 : List AOper := [
  Mv 71 7,
  Mv 72 8,
  Ap 73 1 1 71 72,
  Mv 7 73]
def f353x22 : List AOper := [
  Mv 74 7,
  Mv 75 12,
  Ap 76 1 1 74 75,
  Mv 7 76]
def f353x23 : List AOper := [
  Bc 78 .eql 20 3,
  Mv 77 78]
def f353x24 : List AOper := [
  Fa 79 24 2,
  Ld 80 79,
  Cv 81 .u8 80,
  Fa 82 25 2,
  Ld 83 82,
  Cv 84 .u8 83,
  Op 85 (.bsl 1 [.int .u8 0] 2 [0, 1] [(.t 81), (.t 84)]),
  Fa 86 26 2,
  Ld 87 86,
  Ap 88 1 1 85 87,
  Mv 7 88]
def f353x25 : List AOper := [
  Bc 90 .eql 20 5,
  Mv 89 90]
def f353x26 : List AOper := [
  Op 91 (.bsl 1 [.int .u8 0] 4 [0, 1, 2, 3] [(.c (.int .u8 0)), (.c (.int .u8 1)), (.c (.int .u8 0)), (.c (.int .u8 1))]),
  Mv 7 91]
def f353x27 : List AOper := [
  Mv 92 7,
  Ln 93 0 92,
  Op 94 (.bin .add (.c (.int .i64 19)) (.t 93)),
  Fa 95 0 2,
  Ld 96 95,
  Ct 97 358 [94, 96],
  Mv 13 97]
def f353x28 : List AOper := [
  Mv 98 13,
  Mv 99 7,
  Ap 100 1 1 98 99,
  Mv 13 100]
def f353x29 : List AOper := [
  Mv 101 13,
  Mv 4 101,
  Mc 5 (.int .i64 0)]
def f353 : AFunc := ⟨102, 2, false, [.t 4, .t 5], (.seq (.region f353x0 false) (.seq (.seq (.region f353x1 false) (.seq (.region f353x2 false) (.cond (.t 17) (.seq (.region f353x3 false) .ret) .skip))) (.seq (.region f353x4 false) (.seq (.seq (.region f353x5 false) (.block 0 (.seq (.region f353x6 false) (.cond (.t 21) (.region f353x7 false) (.seq (.region f353x8 false) (.cond (.t 25) (.seq (.region f353x9 false) (.seq (.seq (.region f353x10 false) (.cond (.t 30) (.seq (.region f353x11 false) (.seq (.seq (.region f353x12 false) (.cond (.t 39) (.seq (.region f353x13 false) .ret) .skip)) (.region f353x14 false))) .skip)) (.seq (.region f353x15 true) (.seq (.seq (.region f353x16 false) (.cond (.t 57) (.seq (.region f353x17 false) .ret) .skip)) (.seq (.region f353x18 false) (.seq (.region f353x19 false) (.seq (.region f353x20 false) (.seq (.region f353x21 false) (.region f353x22 false))))))))) (.seq (.region f353x23 false) (.cond (.t 77) (.region f353x24 false) (.seq (.region f353x25 false) (.cond (.t 89) (.region f353x26 false) .skip)))))))))) (.seq (.region f353x27 false) (.seq (.region f353x28 false) (.seq (.region f353x29 false) .ret)))))))⟩
def f194x0 : List AOper := [
  Op 4 (.alloc (.agg [.int .i64 0, .int .i64 0, .int .i64 0, .int .i64 0, .int .u32 0, .con (.slice none 0 0), .con (.slice none 0 0), .int .i64 0, .con (.slice none 0 0), .int .u32 0, .bool false, .int .i64 0, .bool false, .int .i64 0, .bool false, .bool false, .int .i64 0, .int .u32 0, .con (.slice none 0 0), .bool false, .int .u32 0, .con (.slice none 0 0), .con (.slice none 0 0), .con (.slice none 0 0), .int .i64 0, .int .i64 0, .con (.slice none 0 0)])),
  Mc 5 (.int .i64 0),
  Op 6 (.alloc (.agg [.int .i64 0, .int .i64 0, .int .i64 0, .int .i64 0, .int .u32 0, .con (.slice none 0 0), .con (.slice none 0 0), .int .i64 0, .con (.slice none 0 0), .int .u32 0, .bool false, .int .i64 0, .bool false, .int .i64 0, .bool false, .bool false, .int .i64 0, .int .u32 0, .con (.slice none 0 0), .bool false, .int .u32 0, .con (.slice none 0 0), .con (.slice none 0 0), .con (.slice none 0 0), .int .i64 0, .int .i64 0, .con (.slice none 0 0)])),
  Mc 7 (.int .i64 0)]
def f194x1 : List AOper := [
  Mv 15 0,
  Ln 16 0 15,
  Bc 17 .lss 16 19]
def f194x2 : List AOper := [
  Op 18 (.build [.int .i64 0, .int .i64 0, .int .i64 0, .int .i64 0, .int .u32 0, .con (.slice none 0 0), .con (.slice none 0 0), .int .i64 0, .con (.slice none 0 0), .int .u32 0, .bool false, .int .i64 0, .bool false, .int .i64 0, .bool false, .bool false, .int .i64 0, .int .u32 0, .con (.slice none 0 0), .bool false, .int .u32 0, .con (.slice none 0 0), .con (.slice none 0 0), .con (.slice none 0 0), .int .i64 0, .int .i64 0, .con (.slice none 0 0)] [] []),
  Op 19 (.build [.int .i64 0, .int .i64 0, .int .i64 0, .int .i64 0, .int .u32 0, .con (.slice none 0 0), .con (.slice none 0 0), .int .i64 0, .con (.slice none 0 0), .int .u32 0, .bool false, .int .i64 0, .bool false, .int .i64 0, .bool false, .bool false, .int .i64 0, .int .u32 0, .con (.slice none 0 0), .bool false, .int .u32 0, .con (.slice none 0 0), .con (.slice none 0 0), .con (.slice none 0 0), .int .i64 0, .int .i64 0, .con (.slice none 0 0)] [] []),
  St 27 4 18,
  Mc 5 (.int .i64 0),
  St 27 6 19,
  Mc 7 (.int .i64 3)]
def f194x3 : List AOper := [
  Mv 20 0,
  Op 21 (.slc 1 (.t 20) none (some (.c (.int .i64 16))) none),
  Ln 22 0 21,
  Mc 23 (.int .i64 0)]
def f194x4 : List AOper := [
  Bi 24 .lss 23 22]
def f194x5 : List AOper := [
  Ia 25 1 21 23,
  Ld 26 25,
  Mv 9 26]
def f194x6 : List AOper := [
  Mv 27 9,
  Op 28 (.bin .neq (.t 27) (.c (.int .u8 255)))]
def f194x7 : List AOper := [
  Op 29 (.build [.int .i64 0, .int .i64 0, .int .i64 0, .int .i64 0, .int .u32 0, .con (.slice none 0 0), .con (.slice none 0 0), .int .i64 0, .con (.slice none 0 0), .int .u32 0, .bool false, .int .i64 0, .bool false, .int .i64 0, .bool false, .bool false, .int .i64 0, .int .u32 0, .con (.slice none 0 0), .bool false, .int .u32 0, .con (.slice none 0 0), .con (.slice none 0 0), .con (.slice none 0 0), .int .i64 0, .int .i64 0, .con (.slice none 0 0)] [] []),
  Ca 30 198 [(.c (.int .i64 1)), (.c (.int .i64 1)), (.c (.con (.slice none 0 0)))],
  St 27 4 29,
  Mc 5 (.int .i64 0),
  St 27 6 30,
  Mc 7 (.int .i64 2)]
def f194x8 : List AOper := [
  Bc 31 .add 23 1,
  Mv 23 31]
def f194x9L : ACode := (.seq (.region f194x4 false) (.seq (.cond (.t 24) .skip (.exit 0)) (.seq (.block 1 (.seq (.region f194x5 false) (.seq (.region f194x6 false) (.cond (.t 28) (.seq (.region f194x7 false) .ret) .skip)))) (.region f194x8 false))))
def f194x10 : List AOper := [
  Mv 33 0,
  Ca 34 110 [(.t 33), (.c (.int .i64 16)), (.c (.int .i64 2))],
  Mv 32 34,
  Ex 35 32 0,
  Ex 36 32 1,
  Mv 10 35,
  Mv 11 36]
def f194x11 : List AOper := [
  Mv 37 10,
  Cv 38 .i64 37,
  Mv 5 38]
def f194x12 : List AOper := [
  Mv 39 0,
  Op 40 (.iadr 1 (.t 39) (.c (.int .i64 18))),
  Ld 41 40,
  Cv 42 .i64 41,
  Mv 12 42]
def f194x13 : List AOper := [
  Mv 43 0,
  Op 44 (.iadr 1 (.t 43) (.c (.int .i64 16))),
  Af [1] (Ld 45 44),
  Mv 46 0,
  Op 47 (.iadr 1 (.t 46) (.c (.int .i64 17))),
  Af [4] (Ld 48 47),
  Af [2, 5, 1, 4] (Op 49 (.bsl 1 [.int .u8 0] 2 [0, 1] [(.t 45), (.t 48)])),
  Af [6, 2, 5, 1, 4] (Ca 50 198 [(.c (.int .i64 1)), (.c (.int .i64 2)), (.t 49)]),
  Op 13 (.alloc (.agg [.int .i64 0, .int .i64 0, .int .i64 0, .int .i64 0, .int .u32 0, .con (.slice none 0 0), .con (.slice none 0 0), .int .i64 0, .con (.slice none 0 0), .int .u32 0, .bool false, .int .i64 0, .bool false, .int .i64 0, .bool false, .bool false, .int .i64 0, .int .u32 0, .con (.slice none 0 0), .bool false, .int .u32 0, .con (.slice none 0 0), .con (.slice none 0 0), .con (.slice none 0 0), .int .i64 0, .int .i64 0, .con (.slice none 0 0)])),
  Af [7, 8, 6, 2, 5, 1, 4] (St 27 13 50)]
def f194x14 : List AOper := [
  Mv 52 5,
  Bc 53 .lss 52 19,
  Mv 51 53]
def f194x15 : List AOper := [
  Op 54 (.build [.int .i64 0, .int .i64 0, .int .i64 0, .int .i64 0, .int .u32 0, .con (.slice none 0 0), .con (.slice none 0 0), .int .i64 0, .con (.slice none 0 0), .int .u32 0, .bool false, .int .i64 0, .bool false, .int .i64 0, .bool false, .bool false, .int .i64 0, .int .u32 0, .con (.slice none 0 0), .bool false, .int .u32 0, .con (.slice none 0 0), .con (.slice none 0 0), .con (.slice none 0 0), .int .i64 0, .int .i64 0, .con (.slice none 0 0)] [] []),
  Ls 55 27 13,
  St 27 4 54,
  Mc 5 (.int .i64 0),
  Af [1, 2] (St 27 6 55),
  Mc 7 (.int .i64 2)]
def f194x16 : List AOper := [
  Mv 57 12,
  Bc 58 .lss 57 1,
  Mv 59 58,
  Gf 59 (Mv 60 12),
  Gf 59 (Bc 61 .gtr 60 5),
  Po 62 59 61,
  Mv 56 62]
def f194x17 : List AOper := [
  Op 63 (.build [.int .i64 0, .int .i64 0, .int .i64 0, .int .i64 0, .int .u32 0, .con (.slice none 0 0), .con (.slice none 0 0), .int .i64 0, .con (.slice none 0 0), .int .u32 0, .bool false, .int .i64 0, .bool false, .int .i64 0, .bool false, .bool false, .int .i64 0, .int .u32 0, .con (.slice none 0 0), .bool false, .int .u32 0, .con (.slice none 0 0), .con (.slice none 0 0), .con (.slice none 0 0), .int .i64 0, .int .i64 0, .con (.slice none 0 0)] [] []),
  Mv 64 0,
  Op 65 (.iadr 1 (.t 64) (.c (.int .i64 18))),
  Ld 66 65,
  Op 67 (.bsl 1 [.int .u8 0] 1 [0] [(.t 66)]),
  Ca 68 198 [(.c (.int .i64 1)), (.c (.int .i64 3)), (.t 67)],
  St 27 4 63,
  Mc 5 (.int .i64 0),
  St 27 6 68,
  Mc 7 (.int .i64 15)]
def f194x18 : List AOper := [
  Mv 70 12,
  Mv 71 5,
  Ct 72 199 [70, 71],
  Mv 69 72]
def f194x19 : List AOper := [
  Op 73 (.build [.int .i64 0, .int .i64 0, .int .i64 0, .int .i64 0, .int .u32 0, .con (.slice none 0 0), .con (.slice none 0 0), .int .i64 0, .con (.slice none 0 0), .int .u32 0, .bool false, .int .i64 0, .bool false, .int .i64 0, .bool false, .bool false, .int .i64 0, .int .u32 0, .con (.slice none 0 0), .bool false, .int .u32 0, .con (.slice none 0 0), .con (.slice none 0 0), .con (.slice none 0 0), .int .i64 0, .int .i64 0, .con (.slice none 0 0)] [] []),
  Ls 74 27 13,
  St 27 4 73,
  Mc 5 (.int .i64 0),
  Af [1, 2] (St 27 6 74),
  Mc 7 (.int .i64 2)]
def f194x20 : List AOper := [
  Mv 76 0,
  Ln 77 0 76,
  Mv 78 5,
  Bi 79 .lss 77 78,
  Mv 75 79]
def f194x21 : List AOper := [
  Op 80 (.build [.int .i64 0, .int .i64 0, .int .i64 0, .int .i64 0, .int .u32 0, .con (.slice none 0 0), .con (.slice none 0 0), .int .i64 0, .con (.slice none 0 0), .int .u32 0, .bool false, .int .i64 0, .bool false, .int .i64 0, .bool false, .bool false, .int .i64 0, .int .u32 0, .con (.slice none 0 0), .bool false, .int .u32 0, .con (.slice none 0 0), .con (.slice none 0 0), .con (.slice none 0 0), .int .i64 0, .int .i64 0, .con (.slice none 0 0)] [] []),
  Op 81 (.build [.int .i64 0, .int .i64 0, .int .i64 0, .int .i64 0, .int .u32 0, .con (.slice none 0 0), .con (.slice none 0 0), .int .i64 0, .con (.slice none 0 0), .int .u32 0, .bool false, .int .i64 0, .bool false, .int .i64 0, .bool false, .bool false, .int .i64 0, .int .u32 0, .con (.slice none 0 0), .bool false, .int .u32 0, .con (.slice none 0 0), .con (.slice none 0 0), .con (.slice none 0 0), .int .i64 0, .int .i64 0, .con (.slice none 0 0)] [] []),
  St 27 4 80,
  Mc 5 (.int .i64 0),
  St 27 6 81,
  Mc 7 (.int .i64 3)]
def f194x22 : List AOper := [
  Mv 82 0,
  Mv 83 5,
  Op 84 (.slc 1 (.t 82) (some (.c (.int .i64 19))) (some (.t 83)) none),
  Mv 14 84]
def f194x23 : List AOper := [
  Mv 85 12,
  Op 86 (.build [.int .i64 0, .int .i64 0, .int .i64 0, .int .i64 0, .int .u32 0, .con (.slice none 0 0), .con (.slice none 0 0), .int .i64 0, .con (.slice none 0 0), .int .u32 0, .bool false, .int .i64 0, .bool false, .int .i64 0, .bool false, .bool false, .int .i64 0, .int .u32 0, .con (.slice none 0 0), .bool false, .int .u32 0, .con (.slice none 0 0), .con (.slice none 0 0), .con (.slice none 0 0), .int .i64 0, .int .i64 0, .con (.slice none 0 0)] [(0, 1)] [(.t 85)]),
  St 27 4 86]
def f194x24 : List AOper := [
  Mv 87 12]
def f194x25 : List AOper := [
  Bc 89 .eql 87 1,
  Mv 88 89]
def f194x26 : List AOper := [
  Mv 91 14,
  Ct 92 200 [91],
  Mv 90 92,
  Ex 93 90 0,
  Ex 94 90 1,
  Ex 95 90 2,
  St 27 4 93,
  St 27 6 94,
  Mv 7 95]
def f194x27 : List AOper := [
  Bc 97 .eql 87 2,
  Mv 96 97]
def f194x28 : List AOper := [
  Mv 99 14,
  Mv 100 1,
  Ct 101 201 [99, 100],
  Mv 98 101,
  Ex 102 98 0,
  Ex 103 98 1,
  Ex 104 98 2,
  St 27 4 102,
  St 27 6 103,
  Mv 7 104]
def f194x29 : List AOper := [
  Bc 106 .eql 87 3,
  Mv 105 106]
def f194x30 : List AOper := [
  Mv 107 14,
  Op 108 (.iadr 1 (.t 107) (.c (.int .i64 0))),
  Af [1] (Ld 109 108),
  Cv 110 .i64 109,
  Mv 111 14,
  Op 112 (.iadr 1 (.t 111) (.c (.int .i64 1))),
  Af [5] (Ld 113 112),
  Cv 114 .i64 113,
  Op 115 (.bsl 1 [.int .u8 0] 0 [] []),
  Mv 116 14,
  Op 117 (.slc 1 (.t 116) (some (.c (.int .i64 2))) none none),
  Af [8, 10] (Ap 118 1 1 115 117),
  Fa 119 24 4,
  Af [11, 8, 10, 2, 1] (St 1 119 110),
  Fa 120 25 4,
  Af [13, 6, 5, 11, 8, 10, 2, 1] (St 1 120 114),
  Fa 121 26 4,
  Af [15, 13, 6, 5, 11, 8, 10, 2, 1] (St 1 121 118)]
def f194x31 : List AOper := [
  Ls 122 27 4,
  Ct 123 144 [122],
  Mv 7 123]
def f194x32 : List AOper := [
  Mv 124 7,
  Bc 125 .neq 124 0]
def f194x33 : List AOper := [
  Ls 126 27 13,
  St 27 6 126]
def f194x34 : List AOper := [
  Bc 128 .eql 87 5,
  Mv 127 128]
def f194x35 : List AOper := [
  Mv 129 14,
  Op 130 (.b2s (.t 129)),
  Op 131 (.bsl 1 [.int .u8 0] 4 [0, 1, 2, 3] [(.c (.int .u8 0)), (.c (.int .u8 1)), (.c (.int .u8 0)), (.c (.int .u8 1))]),
  Op 132 (.b2s (.t 131)),
  Bi 133 .neq 130 132]
def f194x36 : List AOper := [
  Ls 134 27 13,
  St 27 6 134,
  Mc 7 (.int .i64 2)]
def f194x37 : List AOper := [
  Mv 135 7,
  Bc 136 .neq 135 0]
def f194x38 : List AOper := [
  Op 137 (.build [.int .i64 0, .int .i64 0, .int .i64 0, .int .i64 0, .int .u32 0, .con (.slice none 0 0), .con (.slice none 0 0), .int .i64 0, .con (.slice none 0 0), .int .u32 0, .bool false, .int .i64 0, .bool false, .int .i64 0, .bool false, .bool false, .int .i64 0, .int .u32 0, .con (.slice none 0 0), .bool false, .int .u32 0, .con (.slice none 0 0), .con (.slice none 0 0), .con (.slice none 0 0), .int .i64 0, .int .i64 0, .con (.slice none 0 0)] [] []),
  Ls 138 27 6,
  Mv 139 7,
  St 27 4 137,
  Mc 5 (.int .i64 0),
  Af [1, 3] (St 27 6 138),
  Mv 7 139]
def f194x39 : List AOper := [
  Ls 140 27 4,
  Mv 141 5,
  Op 142 (.build [.int .i64 0, .int .i64 0, .int .i64 0, .int .i64 0, .int .u32 0, .con (.slice none 0 0), .con (.slice none 0 0), .int .i64 0, .con (.slice none 0 0), .int .u32 0, .bool false, .int .i64 0, .bool false, .int .i64 0, .bool false, .bool false, .int .i64 0, .int .u32 0, .con (.slice none 0 0), .bool false, .int .u32 0, .con (.slice none 0 0), .con (.slice none 0 0), .con (.slice none 0 0), .int .i64 0, .int .i64 0, .con (.slice none 0 0)] [] []),
  St 27 4 140,
  Mv 5 141,
  St 27 6 142,
  Mc 7 (.int .i64 0)]
def f194 : AFunc := ⟨143, 2, false, [.cell 4 (some 27), .t 5, .cell 6 (some 27), .t 7], (.seq (.region f194x0 false) (.seq (.seq (.region f194x1 false) (.cond (.t 17) (.seq (.region f194x2 false) .ret) .skip)) (.seq (.seq (.region f194x3 false) (.block 0 (.loop f194x9L))) (.seq (.region f194x10 false) (.seq (.region f194x11 false) (.seq (.region f194x12 false) (.seq (.region f194x13 true) (.seq (.block 2 (.seq (.region f194x14 false) (.cond (.t 51) (.seq (.region f194x15 true) .ret) (.seq (.region f194x16 false) (.cond (.t 56) (.seq (.region f194x17 false) .ret) (.seq (.region f194x18 false) (.cond (.t 69) (.seq (.region f194x19 true) .ret) (.seq (.region f194x20 false) (.cond (.t 75) (.seq (.region f194x21 false) .ret) .skip))))))))) (.seq (.region f194x22 false) (.seq (.region f194x23 false) (.seq (.seq (.region f194x24 false) (.block 3 (.seq (.region f194x25 false) (.cond (.t 88) (.region f194x26 false) (.seq (.region f194x27 false) (.cond (.t 96) (.region f194x28 false) (.seq (.region f194x29 false) (.cond (.t 105) (.seq (.region f194x30 true) (.seq (.region f194x31 false) (.seq (.region f194x32 false) (.cond (.t 125) (.region f194x33 false) .skip)))) (.seq (.region f194x34 false) (.cond (.t 127) (.seq (.region f194x35 false) (.cond (.t 133) (.region f194x36 false) .skip)) .skip)))))))))) (.seq (.seq (.region f194x37 false) (.cond (.t 136) (.seq (.region f194x38 true) .ret) .skip)) (.seq (.region f194x39 false) .ret)))))))))))))⟩
def f354x0 : List AOper := [
  Op 4 (.alloc (.agg [.int .i64 0, .int .i64 0, .int .i64 0, .int .i64 0, .int .u32 0, .con (.slice none 0 0), .con (.slice none 0 0), .int .i64 0, .con (.slice none 0 0), .int .u32 0, .bool false, .int .i64 0, .bool false, .int .i64 0, .bool false, .bool false, .int .i64 0, .int .u32 0, .con (.slice none 0 0), .bool false, .int .u32 0, .con (.slice none 0 0), .con (.slice none 0 0), .con (.slice none 0 0), .int .i64 0, .int .i64 0, .con (.slice none 0 0)])),
  Mc 5 (.int .i64 0),
  Op 6 (.alloc (.agg [.int .i64 0, .int .i64 0, .int .i64 0, .int .i64 0, .int .u32 0, .con (.slice none 0 0), .con (.slice none 0 0), .int .i64 0, .con (.slice none 0 0), .int .u32 0, .bool false, .int .i64 0, .bool false, .int .i64 0, .bool false, .bool false, .int .i64 0, .int .u32 0, .con (.slice none 0 0), .bool false, .int .u32 0, .con (.slice none 0 0), .con (.slice none 0 0), .con (.slice none 0 0), .int .i64 0, .int .i64 0, .con (.slice none 0 0)])),
  Mc 7 (.int .i64 0)]
def f354x1 : List AOper := [
  Op 17 (.build [.int .i64 0, .int .i64 0, .int .i64 0, .int .i64 0, .int .u32 0, .con (.slice none 0 0), .con (.slice none 0 0), .int .i64 0, .con (.slice none 0 0), .int .u32 0, .bool false, .int .i64 0, .bool false, .int .i64 0, .bool false, .bool false, .int .i64 0, .int .u32 0, .con (.slice none 0 0), .bool false, .int .u32 0, .con (.slice none 0 0), .con (.slice none 0 0), .con (.slice none 0 0), .int .i64 0, .int .i64 0, .con (.slice none 0 0)] [] []),
  Op 8 (.alloc (.agg [.int .i64 0, .int .i64 0, .int .i64 0, .int .i64 0, .int .u32 0, .con (.slice none 0 0), .con (.slice none 0 0), .int .i64 0, .con (.slice none 0 0), .int .u32 0, .bool false, .int .i64 0, .bool false, .int .i64 0, .bool false, .bool false, .int .i64 0, .int .u32 0, .con (.slice none 0 0), .bool false, .int .u32 0, .con (.slice none 0 0), .con (.slice none 0 0), .con (.slice none 0 0), .int .i64 0, .int .i64 0, .con (.slice none 0 0)])),
  St 27 8 17]
def f354x2 : List AOper := [
  Mv 18 0,
  Ln 19 0 18,
  Bc 20 .lss 19 19]
def f354x3 : List AOper := [
  Ls 21 27 8,
  Ls 22 27 8,
  Af [0] (St 27 4 21),
  Mc 5 (.int .i64 0),
  Af [1, 2, 0] (St 27 6 22),
  Mc 7 (.int .i64 3)]
def f354x4 : List AOper := [
  Mv 23 0,
  Op 24 (.slc 1 (.t 23) none (some (.c (.int .i64 16))) none),
  Ln 25 0 24,
  Mc 26 (.int .i64 0)]
def f354x5 : List AOper := [
  Bi 27 .lss 26 25]
def f354x6 : List AOper := [
  Ia 28 1 24 26,
  Ld 29 28,
  Mv 10 29]
def f354x7 : List AOper := [
  Mv 30 10,
  Op 31 (.bin .neq (.t 30) (.c (.int .u8 255)))]
def f354x8 : List AOper := [
  Ls 32 27 8,
  Ca 33 359 [(.c (.int .i64 1)), (.c (.int .i64 1)), (.c (.con (.slice none 0 0)))],
  Af [1, 0] (St 27 4 32),
  Mc 5 (.int .i64 0),
  Af [2, 1, 0] (St 27 6 33),
  Mc 7 (.int .i64 2)]
def f354x9 : List AOper := [
  Bc 34 .add 26 1,
  Mv 26 34]
def f354x10L : ACode := (.seq (.region f354x5 false) (.seq (.cond (.t 27) .skip (.exit 0)) (.seq (.block 1 (.seq (.region f354x6 false) (.seq (.region f354x7 false) (.cond (.t 31) (.seq (.region f354x8 true) .ret) .skip)))) (.region f354x9 false))))
def f354x11 : List AOper := [
  Mv 35 0,
  Ca 36 360 [(.t 35), (.c (.int .i64 16)), (.c (.int .i64 2))],
  Mv 37 0,
  Op 38 (.iadr 1 (.t 37) (.c (.int .i64 18))),
  Af [3] (Ld 39 38),
  Cv 40 .i64 39,
  Mv 11 36,
  Mv 12 40]
def f354x12 : List AOper := [
  Mv 41 0,
  Op 42 (.slc 1 (.t 41) (some (.c (.int .i64 16))) (some (.c (.int .i64 18))) none),
  Ca 43 359 [(.c (.int .i64 1)), (.c (.int .i64 2)), (.t 42)],
  Op 13 (.alloc (.agg [.int .i64 0, .int .i64 0, .int .i64 0, .int .i64 0, .int .u32 0, .con (.slice none 0 0), .con (.slice none 0 0), .int .i64 0, .con (.slice none 0 0), .int .u32 0, .bool false, .int .i64 0, .bool false, .int .i64 0, .bool false, .bool false, .int .i64 0, .int .u32 0, .con (.slice none 0 0), .bool false, .int .u32 0, .con (.slice none 0 0), .con (.slice none 0 0), .con (.slice none 0 0), .int .i64 0, .int .i64 0, .con (.slice none 0 0)])),
  St 27 13 43]
def f354x13 : List AOper := [
  Mv 44 11,
  Bc 45 .lss 44 19]
def f354x14 : List AOper := [
  Ls 46 27 8,
  Ls 47 27 13,
  Af [0] (St 27 4 46),
  Mc 5 (.int .i64 0),
  Af [1, 2, 0] (St 27 6 47),
  Mc 7 (.int .i64 2)]
def f354x15 : List AOper := [
  Mv 48 12,
  Bc 49 .lss 48 1,
  Mv 50 49,
  Gf 50 (Mv 51 12),
  Gf 50 (Bc 52 .gtr 51 5),
  Po 53 50 52]
def f354x16 : List AOper := [
  Ls 54 27 8,
  Mv 55 0,
  Op 56 (.slc 1 (.t 55) (some (.c (.int .i64 18))) (some (.c (.int .i64 19))) none),
  Af [2] (Ca 57 359 [(.c (.int .i64 1)), (.c (.int .i64 3)), (.t 56)]),
  Af [3, 0, 2] (St 27 4 54),
  Mc 5 (.int .i64 0),
  Af [4, 3, 0, 2] (St 27 6 57),
  Mc 7 (.int .i64 15)]
def f354x17 : List AOper := [
  Mv 58 11,
  Mv 59 12,
  Ct 60 361 [59],
  Bi 61 .lss 58 60,
  Mv 62 61,
  Gf 62 (Mv 63 12),
  Gf 62 (Bc 64 .eql 63 4),
  Gf 62 (Mv 65 64),
  Gf 65 (Mv 66 12),
  Gf 65 (Bc 67 .eql 66 5),
  Gf 62 (Po 68 65 67),
  Gf 62 (Mv 69 68),
  Gt 69 (Mv 70 11),
  Gt 69 (Mv 71 12),
  Gt 69 (Ct 72 361 [71]),
  Gt 69 (Bi 73 .neq 70 72),
  Gf 62 (Pa 74 69 73),
  Po 75 62 74]
def f354x18 : List AOper := [
  Ls 76 27 8,
  Ls 77 27 13,
  Af [0] (St 27 4 76),
  Mc 5 (.int .i64 0),
  Af [1, 2, 0] (St 27 6 77),
  Mc 7 (.int .i64 2)]
def f354x19 : List AOper := [
  Mv 78 0,
  Ln 79 0 78,
  Mv 80 11,
  Bi 81 .lss 79 80]
def f354x20 : List AOper := [
  Ls 82 27 8,
  Ls 83 27 8,
  Af [0] (St 27 4 82),
  Mc 5 (.int .i64 0),
  Af [1, 2, 0] (St 27 6 83),
  Mc 7 (.int .i64 3)]
def f354x21 : List AOper := [
  Mv 84 0,
  Mv 85 11,
  Op 86 (.slc 1 (.t 84) none (some (.t 85)) none),
  Mv 0 86]
def f354x22 : List AOper := [
  Mv 87 12,
  Op 88 (.build [.int .i64 0, .int .i64 0, .int .i64 0, .int .i64 0, .int .u32 0, .con (.slice none 0 0), .con (.slice none 0 0), .int .i64 0, .con (.slice none 0 0), .int .u32 0, .bool false, .int .i64 0, .bool false, .int .i64 0, .bool false, .bool false, .int .i64 0, .int .u32 0, .con (.slice none 0 0), .bool false, .int .u32 0, .con (.slice none 0 0), .con (.slice none 0 0), .con (.slice none 0 0), .int .i64 0, .int .i64 0, .con (.slice none 0 0)] [(0, 1)] [(.t 87)]),
  Ls 89 27 8,
  Op 14 (.alloc (.agg [.int .i64 0, .int .i64 0, .int .i64 0, .int .i64 0, .int .u32 0, .con (.slice none 0 0), .con (.slice none 0 0), .int .i64 0, .con (.slice none 0 0), .int .u32 0, .bool false, .int .i64 0, .bool false, .int .i64 0, .bool false, .bool false, .int .i64 0, .int .u32 0, .con (.slice none 0 0), .bool false, .int .u32 0, .con (.slice none 0 0), .con (.slice none 0 0), .con (.slice none 0 0), .int .i64 0, .int .i64 0, .con (.slice none 0 0)])),
  Op 15 (.alloc (.agg [.int .i64 0, .int .i64 0, .int .i64 0, .int .i64 0, .int .u32 0, .con (.slice none 0 0), .con (.slice none 0 0), .int .i64 0, .con (.slice none 0 0), .int .u32 0, .bool false, .int .i64 0, .bool false, .int .i64 0, .bool false, .bool false, .int .i64 0, .int .u32 0, .con (.slice none 0 0), .bool false, .int .u32 0, .con (.slice none 0 0), .con (.slice none 0 0), .con (.slice none 0 0), .int .i64 0, .int .i64 0, .con (.slice none 0 0)])),
  Af [3, 4] (St 27 14 88),
  Af [2, 5, 3, 4] (St 27 15 89),
  Mc 16 (.int .i64 0)]
def f354x23 : List AOper := [
  Mv 90 12]
def f354x24 : List AOper := [
  Bc 92 .eql 90 1,
  Mv 91 92]
def f354x25 : List AOper := [
  Mv 94 0,
  Ct 95 362 [94],
  Mv 93 95,
  Ex 96 93 0,
  Ex 97 93 1,
  Ex 98 93 2,
  St 27 14 96,
  St 27 15 97,
  Mv 16 98]
def f354x26 : List AOper := [
  Bc 100 .eql 90 2,
  Mv 99 100]
def f354x27 : List AOper := [
  Mv 102 0,
  Mv 103 1,
  Ct 104 363 [102, 103],
  Mv 101 104,
  Ex 105 101 0,
  Ex 106 101 1,
  Ex 107 101 2,
  St 27 14 105,
  St 27 15 106,
  Mv 16 107]
def f354x28 : List AOper := [
  Bc 109 .eql 90 3,
  Mv 108 109]
def f354x29 : List AOper := [
  Mv 110 0,
  Op 111 (.iadr 1 (.t 110) (.c (.int .i64 19))),
  Ld 112 111,
  Cv 113 .i64 112,
  Fa 114 24 14,
  St 1 114 113]
def f354x30 : List AOper := [
  Mv 115 0,
  Op 116 (.iadr 1 (.t 115) (.c (.int .i64 20))),
  Ld 117 116,
  Cv 118 .i64 117,
  Fa 119 25 14,
  St 1 119 118]
def f354x31 : List AOper := [
  Op 120 (.bsl 1 [.int .u8 0] 0 [] []),
  Mv 121 0,
  Op 122 (.slc 1 (.t 121) (some (.c (.int .i64 21))) none none),
  Ap 123 1 1 120 122,
  Fa 124 26 14,
  St 1 124 123]
def f354x32 : List AOper := [
  Ls 125 27 14,
  Ct 126 148 [125],
  Mv 16 126]
def f354x33 : List AOper := [
  Ls 127 27 13,
  St 27 15 127]
def f354x34 : List AOper := [
  Bc 129 .eql 90 5,
  Mv 128 129]
def f354x35 : List AOper := [
  Mv 130 0,
  Op 131 (.slc 1 (.t 130) (some (.c (.int .i64 19))) none none),
  Af [1] (Op 132 (.b2s (.t 131))),
  Op 133 (.bsl 1 [.int .u8 0] 4 [0, 1, 2, 3] [(.c (.int .u8 0)), (.c (.int .u8 1)), (.c (.int .u8 0)), (.c (.int .u8 1))]),
  Af [3] (Op 134 (.b2s (.t 133))),
  Bi 135 .neq 132 134]
def f354x36 : List AOper := [
  Mc 16 (.int .i64 2)]
def f354x37 : List AOper := [
  Ls 136 27 13,
  St 27 15 136]
def f354x38 : List AOper := [
  Mv 137 16,
  Bc 138 .neq 137 0]
def f354x39 : List AOper := [
  Ls 139 27 8,
  Ls 140 27 15,
  Mv 141 16,
  Af [0] (St 27 4 139),
  Mc 5 (.int .i64 0),
  Af [1, 3, 0] (St 27 6 140),
  Mv 7 141]
def f354x40 : List AOper := [
  Ls 142 27 14,
  Mv 143 11,
  Ls 144 27 8,
  Af [0] (St 27 4 142),
  Mv 5 143,
  Af [2, 3, 0] (St 27 6 144),
  Mc 7 (.int .i64 0)]
def f354 : AFunc := ⟨145, 2, false, [.cell 4 (some 27), .t 5, .cell 6 (some 27), .t 7], (.seq (.region f354x0 false) (.seq (.region f354x1 false) (.seq (.seq (.region f354x2 false) (.cond (.t 20) (.seq (.region f354x3 true) .ret) .skip)) (.seq (.seq (.region f354x4 false) (.block 0 (.loop f354x10L))) (.seq (.region f354x11 true) (.seq (.region f354x12 false) (.seq (.seq (.region f354x13 false) (.cond (.t 45) (.seq (.region f354x14 true) .ret) .skip)) (.seq (.seq (.region f354x15 false) (.cond (.t 53) (.seq (.region f354x16 true) .ret) .skip)) (.seq (.seq (.region f354x17 false) (.cond (.t 75) (.seq (.region f354x18 true) .ret) .skip)) (.seq (.seq (.region f354x19 false) (.cond (.t 81) (.seq (.region f354x20 true) .ret) .skip)) (.seq (.region f354x21 false) (.seq (.region f354x22 true) (.seq (.seq (.region f354x23 false) (.block 2 (.seq (.region f354x24 false) (.cond (.t 91) (.region f354x25 false) (.seq (.region f354x26 false) (.cond (.t 99) (.region f354x27 false) (.seq (.region f354x28 false) (.cond (.t 108) (.seq (.region f354x29 false) (.seq (.region f354x30 false) (.seq (.region f354x31 false) (.seq (.region f354x32 false) (.region f354x33 false))))) (.seq (.region f354x34 false) (.cond (.t 128) (.seq (.seq (.region f354x35 true) (.cond (.t 135) (.region f354x36 false) .skip)) (.region f354x37 false)) .skip)))))))))) (.seq (.seq (.region f354x38 false) (.cond (.t 138) (.seq (.region f354x39 true) .ret) .skip)) (.seq (.region f354x40 true) .ret)))))))))))))))⟩
def f126x0 : List AOper := [
  Op 2 (.box (.t 0)),
  Op 3 (.box (.t 1)),
  Mc 4 (.bool false)]
def f126x1 : List AOper := [
  Fa 5 0 2,
  Ld 6 5,
  Fa 7 0 3,
  Ld 8 7,
  Bi 9 .neq 6 8,
  Mv 10 9,
  Gf 10 (Fa 11 1 2),
  Gf 10 (Ld 12 11),
  Gf 10 (Fa 13 1 3),
  Gf 10 (Ld 14 13),
  Gf 10 (Bi 15 .neq 12 14),
  Po 16 10 15,
  Mv 17 16,
  Gf 17 (Fa 18 2 2),
  Gf 17 (Ld 19 18),
  Gf 17 (Fa 20 2 3),
  Gf 17 (Ld 21 20),
  Gf 17 (Bi 22 .neq 19 21),
  Po 23 17 22,
  Mv 24 23,
  Gf 24 (Fa 25 3 2),
  Gf 24 (Ld 26 25),
  Gf 24 (Fa 27 3 3),
  Gf 24 (Ld 28 27),
  Gf 24 (Bi 29 .neq 26 28),
  Po 30 24 29,
  Mv 31 30,
  Gf 31 (Fa 32 4 2),
  Gf 31 (Ld 33 32),
  Gf 31 (Fa 34 4 3),
  Gf 31 (Ld 35 34),
  Gf 31 (Bi 36 .neq 33 35),
  Po 37 31 36,
  Mv 38 37,
  Gf 38 (Fa 39 24 2),
  Gf 38 (Ld 40 39),
  Gf 38 (Fa 41 24 3),
  Gf 38 (Ld 42 41),
  Gf 38 (Bi 43 .neq 40 42),
  Po 44 38 43,
  Mv 45 44,
  Gf 45 (Fa 46 25 2),
  Gf 45 (Ld 47 46),
  Gf 45 (Fa 48 25 3),
  Gf 45 (Ld 49 48),
  Gf 45 (Bi 50 .neq 47 49),
  Po 51 45 50,
  Mv 52 51,
  Gf 52 (Fa 53 26 2),
  Gf 52 (Ld 54 53),
  Gf 52 (Op 55 (.b2s (.t 54))),
  Gf 52 (Fa 56 26 3),
  Gf 52 (Ld 57 56),
  Gf 52 (Op 58 (.b2s (.t 57))),
  Gf 52 (Bi 59 .neq 55 58),
  Po 60 52 59]
def f126x2 : List AOper := [
  Mc 4 (.bool false)]
def f126x3 : List AOper := [
  Fa 61 5 2,
  Ld 62 61,
  Fa 63 5 3,
  Ld 64 63,
  Ct 65 138 [62, 64],
  Mv 66 65,
  Gt 66 (Fa 67 6 2),
  Gt 66 (Ld 68 67),
  Gt 66 (Fa 69 6 3),
  Gt 66 (Ld 70 69),
  Gt 66 (Ct 71 139 [68, 70]),
  Pa 72 66 71,
  Mv 73 72,
  Gt 73 (Fa 74 23 2),
  Gt 73 (Ld 75 74),
  Gt 73 (Fa 76 23 3),
  Gt 73 (Ld 77 76),
  Gt 73 (Ct 78 139 [75, 77]),
  Pa 79 73 78,
  Mv 80 79,
  Gt 80 (Fa 81 7 2),
  Gt 80 (Ls 82 16 81),
  Gt 80 (Fa 83 7 3),
  Gt 80 (Ls 84 16 83),
  Gt 80 (Ct 85 70 [82, 84]),
  Pa 86 80 85,
  Mv 4 86]
def f126 : AFunc := ⟨87, 2, false, [.t 4], (.seq (.region f126x0 false) (.seq (.seq (.region f126x1 false) (.cond (.t 60) (.seq (.region f126x2 false) .ret) .skip)) (.seq (.region f126x3 false) .ret)))⟩
def f195x0 : List AOper := [
  Op 2 (.box (.t 0)),
  Mc 4 (.con (.slice none 0 0)),
  Mc 5 (.int .i64 0)]
def f195x1 : List AOper := [
  Fa 18 0 2,
  Ld 19 18,
  Bc 20 .neq 19 2]
def f195x2 : List AOper := [
  Mc 4 (.con (.slice none 0 0)),
  Mc 5 (.int .i64 15)]
def f195x3 : List AOper := [
  Ls 22 27 2,
  Mv 23 1,
  Ct 24 193 [22, 23],
  Mv 21 24,
  Ex 25 21 0,
  Ex 26 21 1,
  Mv 6 25,
  Mv 7 26]
def f195x4 : List AOper := [
  Mv 27 7,
  Bc 28 .eql 27 0]
def f195x5 : List AOper := [
  Ls 29 27 2,
  Ct 30 202 [29],
  Op 31 (.bsl 27 [.int .i64 0, .int .i64 0, .int .i64 0, .int .i64 0, .int .u32 0, .con (.slice none 0 0), .con (.slice none 0 0), .int .i64 0, .con (.slice none 0 0), .int .u32 0, .bool false, .int .i64 0, .bool false, .int .i64 0, .bool false, .bool false, .int .i64 0, .int .u32 0, .con (.slice none 0 0), .bool false, .int .u32 0, .con (.slice none 0 0), .con (.slice none 0 0), .con (.slice none 0 0), .int .i64 0, .int .i64 0, .con (.slice none 0 0)] 1 [0] [(.t 30)]),
  Mv 4 31,
  Mc 5 (.int .i64 0)]
def f195x6 : List AOper := [
  Ls 32 27 2,
  Ct 33 144 [32],
  Mv 8 33]
def f195x7 : List AOper := [
  Mv 34 8,
  Bc 35 .neq 34 0]
def f195x8 : List AOper := [
  Mv 36 8,
  Mc 4 (.con (.slice none 0 0)),
  Mv 5 36]
def f195x9 : List AOper := [
  Mc 9 (.int .i64 0)]
def f195x10 : List AOper := [
  Fa 37 23 2,
  Ld 38 37,
  Ln 39 0 38,
  Bc 40 .gtr 39 0]
def f195x11 : List AOper := [
  Fa 42 7 2,
  Ls 43 16 42,
  Mv 44 1,
  Ct 45 67 [43, 44],
  Mv 41 45,
  Ex 46 41 0,
  Ex 47 41 1,
  Mv 10 46,
  Mv 11 47]
def f195x12 : List AOper := [
  Mv 48 11,
  Bc 49 .neq 48 0]
def f195x13 : List AOper := [
  Mv 50 11,
  Mc 4 (.con (.slice none 0 0)),
  Mv 5 50]
def f195x14 : List AOper := [
  Mv 51 10,
  Ln 52 0 51,
  Mv 9 52]
def f195x15 : List AOper := [
  Mc 12 (.con (.slice none 0 0))]
def f195x16 : List AOper := [
  Fa 53 6 2,
  Ld 54 53,
  Mv 13 54]
def f195x17 : List AOper := [
  Mv 55 13,
  Ln 56 0 55,
  Bc 57 .gtr 56 0]
def f195x18 : List AOper := [
  Mv 58 13,
  Ca 59 203 [(.t 58), (.c (.int .i64 65512))],
  Mv 14 59]
def f195x19 : List AOper := [
  Mv 60 12,
  Op 61 (.bsl 2 [.int .u32 0, .int .i64 0] 0 [] []),
  Mv 62 13,
  Mv 63 14,
  Op 64 (.slc 2 (.t 62) none (some (.t 63)) none),
  Ap 65 2 16 61 64,
  Op 66 (.build [.int .i64 0, .int .i64 0, .int .i64 0, .int .i64 0, .int .u32 0, .con (.slice none 0 0), .con (.slice none 0 0), .int .i64 0, .con (.slice none 0 0), .int .u32 0, .bool false, .int .i64 0, .bool false, .int .i64 0, .bool false, .bool false, .int .i64 0, .int .u32 0, .con (.slice none 0 0), .bool false, .int .u32 0, .con (.slice none 0 0), .con (.slice none 0 0), .con (.slice none 0 0), .int .i64 0, .int .i64 0, .con (.slice none 0 0)] [(0, 1), (6, 1)] [(.c (.int .i64 2)), (.t 65)]),
  Op 67 (.bsl 27 [.int .i64 0, .int .i64 0, .int .i64 0, .int .i64 0, .int .u32 0, .con (.slice none 0 0), .con (.slice none 0 0), .int .i64 0, .con (.slice none 0 0), .int .u32 0, .bool false, .int .i64 0, .bool false, .int .i64 0, .bool false, .bool false, .int .i64 0, .int .u32 0, .con (.slice none 0 0), .bool false, .int .u32 0, .con (.slice none 0 0), .con (.slice none 0 0), .con (.slice none 0 0), .int .i64 0, .int .i64 0, .con (.slice none 0 0)] 1 [0] [(.t 66)]),
  Ap 68 27 320 60 67,
  Mv 12 68]
def f195x20 : List AOper := [
  Mv 69 13,
  Mv 70 14,
  Op 71 (.slc 2 (.t 69) (some (.t 70)) none none),
  Mv 13 71]
def f195x21L : ACode := (.seq (.seq (.region f195x17 false) (.cond (.t 57) .skip (.exit 0))) (.block 1 (.seq (.region f195x18 false) (.seq (.region f195x19 false) (.region f195x20 false)))))
def f195x22 : List AOper := [
  Fa 72 23 2,
  Ld 73 72,
  Mv 15 73]
def f195x23 : List AOper := [
  Mv 74 15,
  Ln 75 0 74,
  Bc 76 .gtr 75 0]
def f195x24 : List AOper := [
  Mv 77 15,
  Mv 78 9,
  Op 79 (.bin .sub (.c (.int .i64 65512)) (.t 78)),
  Ct 80 203 [77, 79],
  Mv 16 80]
def f195x25 : List AOper := [
  Mv 81 16,
  Bc 82 .eql 81 0]
def f195x26 : List AOper := [
  Mc 4 (.con (.slice none 0 0)),
  Mc 5 (.int .i64 4)]
def f195x27 : List AOper := [
  Fa 83 7 2,
  Ls 84 16 83,
  Mv 85 15,
  Op 86 (.slc 2 (.t 85) none (some (.c (.int .i64 1))) (some (.c (.int .i64 1)))),
  Op 87 (.build [.int .i64 0, .int .i64 0, .int .i64 0, .int .i64 0, .int .u32 0, .con (.slice none 0 0), .con (.slice none 0 0), .int .i64 0, .con (.slice none 0 0), .int .u32 0, .bool false, .int .i64 0, .bool false, .int .i64 0, .bool false, .bool false, .int .i64 0, .int .u32 0, .con (.slice none 0 0), .bool false, .int .u32 0, .con (.slice none 0 0), .con (.slice none 0 0), .con (.slice none 0 0), .int .i64 0, .int .i64 0, .con (.slice none 0 0)] [(0, 1), (7, 16), (23, 1)] [(.c (.int .i64 2)), (.t 84), (.t 86)]),
  Af [1, 3] (Ct 88 202 [87]),
  Op 17 (.alloc (.agg [.int .i64 0, .int .i64 0, .int .i64 0, .int .i64 0, .int .u32 0, .con (.slice none 0 0), .con (.slice none 0 0), .int .i64 0, .con (.slice none 0 0), .int .u32 0, .bool false, .int .i64 0, .bool false, .int .i64 0, .bool false, .bool false, .int .i64 0, .int .u32 0, .con (.slice none 0 0), .bool false, .int .u32 0, .con (.slice none 0 0), .con (.slice none 0 0), .con (.slice none 0 0), .int .i64 0, .int .i64 0, .con (.slice none 0 0)])),
  Af [5, 6, 1, 3] (St 27 17 88)]
def f195x28 : List AOper := [
  Op 89 (.bsl 2 [.int .u32 0, .int .i64 0] 0 [] []),
  Mv 90 15,
  Mv 91 16,
  Op 92 (.slc 2 (.t 90) none (some (.t 91)) none),
  Ap 93 2 16 89 92,
  Fa 94 23 17,
  St 1 94 93]
def f195x29 : List AOper := [
  Mv 95 12,
  Ls 96 27 17,
  Op 97 (.bsl 27 [.int .i64 0, .int .i64 0, .int .i64 0, .int .i64 0, .int .u32 0, .con (.slice none 0 0), .con (.slice none 0 0), .int .i64 0, .con (.slice none 0 0), .int .u32 0, .bool false, .int .i64 0, .bool false, .int .i64 0, .bool false, .bool false, .int .i64 0, .int .u32 0, .con (.slice none 0 0), .bool false, .int .u32 0, .con (.slice none 0 0), .con (.slice none 0 0), .con (.slice none 0 0), .int .i64 0, .int .i64 0, .con (.slice none 0 0)] 1 [0] [(.t 96)]),
  Ap 98 27 320 95 97,
  Mv 12 98]
def f195x30 : List AOper := [
  Mv 99 15,
  Mv 100 16,
  Op 101 (.slc 2 (.t 99) (some (.t 100)) none none),
  Mv 15 101]
def f195x31L : ACode := (.seq (.seq (.region f195x23 false) (.cond (.t 76) .skip (.exit 2))) (.block 3 (.seq (.region f195x24 false) (.seq (.seq (.region f195x25 false) (.cond (.t 82) (.seq (.region f195x26 false) .ret) .skip)) (.seq (.region f195x27 true) (.seq (.region f195x28 false) (.seq (.region f195x29 false) (.region f195x30 false))))))))
def f195x32 : List AOper := [
  Mv 102 12,
  Mv 4 102,
  Mc 5 (.int .i64 0)]
def f195 : AFunc := ⟨103, 2, false, [.t 4, .t 5], (.seq (.region f195x0 false) (.seq (.seq (.region f195x1 false) (.cond (.t 20) (.seq (.region f195x2 false) .ret) .skip)) (.seq (.region f195x3 false) (.seq (.seq (.region f195x4 false) (.cond (.t 28) (.seq (.region f195x5 false) .ret) .skip)) (.seq (.seq (.region f195x6 false) (.seq (.region f195x7 false) (.cond (.t 35) (.seq (.region f195x8 false) .ret) .skip))) (.seq (.region f195x9 false) (.seq (.seq (.region f195x10 false) (.cond (.t 40) (.seq (.region f195x11 false) (.seq (.seq (.region f195x12 false) (.cond (.t 49) (.seq (.region f195x13 false) .ret) .skip)) (.region f195x14 false))) .skip)) (.seq (.region f195x15 false) (.seq (.seq (.region f195x16 false) (.block 0 (.loop f195x21L))) (.seq (.seq (.region f195x22 false) (.block 2 (.loop f195x31L))) (.seq (.region f195x32 false) .ret)))))))))))⟩
def f355x0 : List AOper := [
  Op 2 (.box (.t 0)),
  Mc 4 (.con (.slice none 0 0)),
  Mc 5 (.int .i64 0)]
def f355x1 : List AOper := [
  Fa 16 0 2,
  Ld 17 16,
  Bc 18 .neq 17 2]
def f355x2 : List AOper := [
  Mc 4 (.con (.slice none 0 0)),
  Mc 5 (.int .i64 15)]
def f355x3 : List AOper := [
  Ls 20 27 2,
  Mv 21 1,
  Ct 22 353 [20, 21],
  Mv 19 22,
  Ex 23 19 0,
  Ex 24 19 1,
  Mv 6 23,
  Mv 7 24]
def f355x4 : List AOper := [
  Mv 25 7,
  Bc 26 .eql 25 0]
def f355x5 : List AOper := [
  Ls 27 27 2,
  Op 28 (.bsl 27 [.int .i64 0, .int .i64 0, .int .i64 0, .int .i64 0, .int .u32 0, .con (.slice none 0 0), .con (.slice none 0 0), .int .i64 0, .con (.slice none 0 0), .int .u32 0, .bool false, .int .i64 0, .bool false, .int .i64 0, .bool false, .bool false, .int .i64 0, .int .u32 0, .con (.slice none 0 0), .bool false, .int .u32 0, .con (.slice none 0 0), .con (.slice none 0 0), .con (.slice none 0 0), .int .i64 0, .int .i64 0, .con (.slice none 0 0)] 1 [0] [(.t 27)]),
  Mv 4 28,
  Mc 5 (.int .i64 0)]
def f355x6 : List AOper := [
  Mv 29 7,
  Bc 30 .neq 29 4,
  Mv 31 30,
  Gf 31 (Ls 32 27 2),
  Gf 31 (Ct 33 148 [32]),
  Gf 31 (Bc 34 .neq 33 0),
  Po 35 31 34]
def f355x7 : List AOper := [
  Mv 36 7,
  Mc 4 (.con (.slice none 0 0)),
  Mv 5 36]
def f355x8 : List AOper := [
  Mc 8 (.con (.slice none 0 0))]
def f355x9 : List AOper := [
  Fa 37 23 2,
  Ld 38 37,
  Ln 39 0 38,
  Bc 40 .gtr 39 0]
def f355x10 : List AOper := [
  Fa 42 7 2,
  Ls 43 16 42,
  Mv 44 1,
  Ct 45 68 [43, 44],
  Mv 41 45,
  Ex 46 41 0,
  Ex 47 41 1,
  Mv 8 46]
def f355x11 : List AOper := [
  Fa 48 23 2,
  Ld 49 48,
  Ln 50 0 49,
  Mc 51 (.int .i64 0)]
def f355x12 : List AOper := [
  Bi 52 .lss 51 50]
def f355x13 : List AOper := [
  Ia 53 2 49 51,
  Ls 54 2 53,
  Op 10 (.alloc (.agg [.int .u32 0, .int .i64 0])),
  St 2 10 54]
def f355x14 : List AOper := [
  Mv 55 8,
  Ln 56 0 55,
  Op 57 (.bin .add (.c (.int .i64 23)) (.t 56)),
  Bc 58 .add 57 1,
  Fa 59 1 10,
  Ld 60 59,
  Bc 61 .add 60 7,
  Bc 62 .quo 61 8,
  Bi 63 .add 58 62,
  Bc 64 .gtr 63 65535]
def f355x15 : List AOper := [
  Mc 4 (.con (.slice none 0 0)),
  Mc 5 (.int .i64 4)]
def f355x16 : List AOper := [
  Bc 65 .add 51 1,
  Mv 51 65]
def f355x17L : ACode := (.seq (.region f355x12 false) (.seq (.cond (.t 52) .skip (.exit 0)) (.seq (.block 1 (.seq (.region f355x13 false) (.seq (.region f355x14 false) (.cond (.t 64) (.seq (.region f355x15 false) .ret) .skip)))) (.region f355x16 false))))
def f355x18 : List AOper := [
  Mc 11 (.con (.slice none 0 0))]
def f355x19 : List AOper := [
  Fa 66 6 2,
  Ld 67 66,
  Ca 68 364 [(.t 67), (.c (.int .i64 65512))],
  Ln 69 0 68,
  Mc 70 (.int .i64 0)]
def f355x20 : List AOper := [
  Bi 71 .lss 70 69]
def f355x21 : List AOper := [
  Ia 72 1 68 70,
  Ld 73 72,
  Mv 13 73]
def f355x22 : List AOper := [
  Mv 74 11,
  Mv 75 13,
  Op 76 (.build [.int .i64 0, .int .i64 0, .int .i64 0, .int .i64 0, .int .u32 0, .con (.slice none 0 0), .con (.slice none 0 0), .int .i64 0, .con (.slice none 0 0), .int .u32 0, .bool false, .int .i64 0, .bool false, .int .i64 0, .bool false, .bool false, .int .i64 0, .int .u32 0, .con (.slice none 0 0), .bool false, .int .u32 0, .con (.slice none 0 0), .con (.slice none 0 0), .con (.slice none 0 0), .int .i64 0, .int .i64 0, .con (.slice none 0 0)] [(0, 1), (6, 1)] [(.c (.int .i64 2)), (.t 75)]),
  Op 77 (.bsl 27 [.int .i64 0, .int .i64 0, .int .i64 0, .int .i64 0, .int .u32 0, .con (.slice none 0 0), .con (.slice none 0 0), .int .i64 0, .con (.slice none 0 0), .int .u32 0, .bool false, .int .i64 0, .bool false, .int .i64 0, .bool false, .bool false, .int .i64 0, .int .u32 0, .con (.slice none 0 0), .bool false, .int .u32 0, .con (.slice none 0 0), .con (.slice none 0 0), .con (.slice none 0 0), .int .i64 0, .int .i64 0, .con (.slice none 0 0)] 1 [0] [(.t 76)]),
  Ap 78 27 320 74 77,
  Mv 11 78]
def f355x23 : List AOper := [
  Bc 79 .add 70 1,
  Mv 70 79]
def f355x24L : ACode := (.seq (.region f355x20 false) (.seq (.cond (.t 71) .skip (.exit 2)) (.seq (.block 3 (.seq (.region f355x21 false) (.region f355x22 false))) (.region f355x23 false))))
def f355x25 : List AOper := [
  Fa 80 23 2,
  Ld 81 80,
  Mv 82 8,
  Ln 83 0 82,
  Op 84 (.bin .sub (.c (.int .i64 65512)) (.t 83)),
  Ct 85 364 [81, 84],
  Ln 86 0 85,
  Mc 87 (.int .i64 0)]
def f355x26 : List AOper := [
  Bi 88 .lss 87 86]
def f355x27 : List AOper := [
  Ia 89 1 85 87,
  Ld 90 89,
  Mv 15 90]
def f355x28 : List AOper := [
  Mv 91 11,
  Fa 92 7 2,
  Ls 93 16 92,
  Ct 94 365 [93],
  Mv 95 15,
  Op 96 (.build [.int .i64 0, .int .i64 0, .int .i64 0, .int .i64 0, .int .u32 0, .con (.slice none 0 0), .con (.slice none 0 0), .int .i64 0, .con (.slice none 0 0), .int .u32 0, .bool false, .int .i64 0, .bool false, .int .i64 0, .bool false, .bool false, .int .i64 0, .int .u32 0, .con (.slice none 0 0), .bool false, .int .u32 0, .con (.slice none 0 0), .con (.slice none 0 0), .con (.slice none 0 0), .int .i64 0, .int .i64 0, .con (.slice none 0 0)] [(0, 1), (7, 16), (23, 1)] [(.c (.int .i64 2)), (.t 94), (.t 95)]),
  Op 97 (.bsl 27 [.int .i64 0, .int .i64 0, .int .i64 0, .int .i64 0, .int .u32 0, .con (.slice none 0 0), .con (.slice none 0 0), .int .i64 0, .con (.slice none 0 0), .int .u32 0, .bool false, .int .i64 0, .bool false, .int .i64 0, .bool false, .bool false, .int .i64 0, .int .u32 0, .con (.slice none 0 0), .bool false, .int .u32 0, .con (.slice none 0 0), .con (.slice none 0 0), .con (.slice none 0 0), .int .i64 0, .int .i64 0, .con (.slice none 0 0)] 1 [0] [(.t 96)]),
  Ap 98 27 320 91 97,
  Mv 11 98]
def f355x29 : List AOper := [
  Bc 99 .add 87 1,
  Mv 87 99]
def f355x30L : ACode := (.seq (.region f355x26 false) (.seq (.cond (.t 88) .skip (.exit 4)) (.seq (.block 5 (.seq (.region f355x27 false) (.region f355x28 false))) (.region f355x29 false))))
def f355x31 : List AOper := [
  Mv 100 11,
  Mv 4 100,
  Mc 5 (.int .i64 0)]
def f355 : AFunc := ⟨101, 2, false, [.t 4, .t 5], (.seq (.region f355x0 false) (.seq (.seq (.region f355x1 false) (.cond (.t 18) (.seq (.region f355x2 false) .ret) .skip)) (.seq (.region f355x3 false) (.seq (.seq (.region f355x4 false) (.cond (.t 26) (.seq (.region f355x5 false) .ret) .skip)) (.seq (.seq (.region f355x6 false) (.cond (.t 35) (.seq (.region f355x7 false) .ret) .skip)) (.seq (.region f355x8 false) (.seq (.seq (.region f355x9 false) (.cond (.t 40) (.region f355x10 false) .skip)) (.seq (.seq (.region f355x11 false) (.block 0 (.loop f355x17L))) (.seq (.region f355x18 false) (.seq (.seq (.region f355x19 false) (.block 2 (.loop f355x24L))) (.seq (.seq (.region f355x25 false) (.block 4 (.loop f355x30L))) (.seq (.region f355x31 false) .ret))))))))))))⟩
def f21x0 : List AOper := [
  Op 1 (.box (.t 0)),
  Mc 2 (.bool false)]
def f21x1 : List AOper := [
  Ls 3 16 1,
  Ct 4 26 [3],
  Bc 5 .gtr 4 3000,
  Mv 2 5]
def f21 : AFunc := ⟨6, 1, false, [.t 2], (.seq (.region f21x0 false) (.seq (.region f21x1 false) .ret))⟩
def f156x0 : List AOper := [
  Op 2 (.box (.t 0)),
  Op 3 (.box (.t 1)),
  Mc 4 (.bool false)]
def f156x1 : List AOper := [
  Fa 6 0 2,
  Ld 7 6,
  Fa 8 0 3,
  Ld 9 8,
  Bi 10 .neq 7 9,
  Mv 11 10,
  Gf 11 (Fa 12 1 2),
  Gf 11 (Ld 13 12),
  Gf 11 (Fa 14 1 3),
  Gf 11 (Ld 15 14),
  Gf 11 (Bi 16 .neq 13 15),
  Po 17 11 16,
  Mv 18 17,
  Gf 18 (Fa 19 2 2),
  Gf 18 (Ld 20 19),
  Gf 18 (Fa 21 2 3),
  Gf 18 (Ld 22 21),
  Gf 18 (Bi 23 .neq 20 22),
  Po 24 18 23,
  Mv 25 24,
  Gf 25 (Fa 26 3 2),
  Gf 25 (Ld 27 26),
  Gf 25 (Fa 28 3 3),
  Gf 25 (Ld 29 28),
  Gf 25 (Bi 30 .neq 27 29),
  Po 31 25 30,
  Mv 32 31,
  Gf 32 (Fa 33 4 2),
  Gf 32 (Ld 34 33),
  Gf 32 (Fa 35 4 3),
  Gf 32 (Ld 36 35),
  Gf 32 (Bi 37 .neq 34 36),
  Po 38 32 37,
  Mv 39 38,
  Gf 39 (Fa 40 5 2),
  Gf 39 (Ld 41 40),
  Gf 39 (Ln 42 0 41),
  Gf 39 (Fa 43 5 3),
  Gf 39 (Ld 44 43),
  Gf 39 (Ln 45 0 44),
  Gf 39 (Bi 46 .neq 42 45),
  Po 47 39 46,
  Mv 48 47,
  Gf 48 (Fa 49 24 2),
  Gf 48 (Ld 50 49),
  Gf 48 (Fa 51 24 3),
  Gf 48 (Ld 52 51),
  Gf 48 (Bi 53 .neq 50 52),
  Po 54 48 53,
  Mv 55 54,
  Gf 55 (Fa 56 25 2),
  Gf 55 (Ld 57 56),
  Gf 55 (Fa 58 25 3),
  Gf 55 (Ld 59 58),
  Gf 55 (Bi 60 .neq 57 59),
  Po 61 55 60,
  Mv 62 61,
  Gf 62 (Fa 63 26 2),
  Gf 62 (Ld 64 63),
  Gf 62 (Op 65 (.b2s (.t 64))),
  Gf 62 (Fa 66 26 3),
  Gf 62 (Ld 67 66),
  Gf 62 (Op 68 (.b2s (.t 67))),
  Gf 62 (Bi 69 .neq 65 68),
  Po 70 62 69]
def f156x2 : List AOper := [
  Mc 4 (.bool false)]
def f156x3 : List AOper := [
  Fa 71 5 2,
  Ld 72 71,
  Ln 73 0 72,
  Mc 74 (.int .i64 0)]
def f156x4 : List AOper := [
  Bi 75 .lss 74 73]
def f156x5 : List AOper := [
  Mv 76 74,
  Mv 5 76]
def f156x6 : List AOper := [
  Fa 77 5 2,
  Ld 78 77,
  Mv 79 5,
  Af [1] (Ia 80 2 78 79),
  Fa 81 0 80,
  Af [3, 1] (Ld 82 81),
  Fa 83 5 3,
  Ld 84 83,
  Mv 85 5,
  Af [7] (Ia 86 2 84 85),
  Fa 87 0 86,
  Af [9, 7] (Ld 88 87),
  Bi 89 .neq 82 88,
  Mv 90 89,
  Gf 90 (Fa 91 5 2),
  Af [5, 11, 3, 1, 9, 7] (Gf 90 (Ld 92 91)),
  Gf 90 (Mv 93 5),
  Af [15, 5, 11, 3, 1, 9, 7] (Gf 90 (Ia 94 2 92 93)),
  Gf 90 (Fa 95 1 94),
  Af [17, 15, 5, 11, 3, 1, 9, 7] (Gf 90 (Ld 96 95)),
  Af [19, 17, 15, 5, 11, 3, 1, 9, 7] (Gf 90 (Op 97 (.b2s (.t 96)))),
  Gf 90 (Fa 98 5 3),
  Af [5, 11, 3, 1, 9, 7] (Gf 90 (Ld 99 98)),
  Gf 90 (Mv 100 5),
  Af [22, 5, 11, 3, 1, 9, 7] (Gf 90 (Ia 101 2 99 100)),
  Gf 90 (Fa 102 1 101),
  Af [24, 22, 5, 11, 3, 1, 9, 7] (Gf 90 (Ld 103 102)),
  Af [26, 24, 22, 5, 11, 3, 1, 9, 7] (Gf 90 (Op 104 (.b2s (.t 103)))),
  Gf 90 (Bi 105 .neq 97 104),
  Po 106 90 105]
def f156x7 : List AOper := [
  Mc 4 (.bool false)]
def f156x8 : List AOper := [
  Bc 107 .add 74 1,
  Mv 74 107]
def f156x9L : ACode := (.seq (.region f156x4 false) (.seq (.cond (.t 75) .skip (.exit 0)) (.seq (.block 1 (.seq (.region f156x5 false) (.seq (.region f156x6 true) (.cond (.t 106) (.seq (.region f156x7 false) .ret) .skip)))) (.region f156x8 false))))
def f156x10 : List AOper := [
  Fa 108 6 2,
  Ld 109 108,
  Fa 110 6 3,
  Ld 111 110,
  Ct 112 169 [109, 111],
  Mv 113 112,
  Gt 113 (Fa 114 7 2),
  Gt 113 (Ls 115 16 114),
  Gt 113 (Fa 116 7 3),
  Gt 113 (Ls 117 16 116),
  Gt 113 (Ct 118 72 [115, 117]),
  Pa 119 113 118,
  Mv 120 119,
  Gt 120 (Fa 121 23 2),
  Gt 120 (Ld 122 121),
  Gt 120 (Fa 123 23 3),
  Gt 120 (Ld 124 123),
  Gt 120 (Ct 125 169 [122, 124]),
  Pa 126 120 125,
  Mv 4 126]
def f156 : AFunc := ⟨127, 2, false, [.t 4], (.seq (.region f156x0 false) (.seq (.seq (.region f156x1 false) (.cond (.t 70) (.seq (.region f156x2 false) .ret) .skip)) (.seq (.seq (.region f156x3 false) (.block 0 (.loop f156x9L))) (.seq (.region f156x10 false) .ret))))⟩
def f156x9LH : List AItem := [.inLoop f156x9L, .inBlock 0, .code (.seq (.region f156x10 false) .ret)]
def f144x0 : List AOper := [
  Op 1 (.box (.t 0)),
  Mc 2 (.int .i64 0)]
def f144x1 : List AOper := [
  Fa 3 0 1,
  Ld 4 3,
  Bc 5 .lss 4 1,
  Mv 6 5,
  Gf 6 (Fa 7 0 1),
  Gf 6 (Ld 8 7),
  Gf 6 (Bc 9 .gtr 8 5),
  Po 10 6 9]
def f144x2 : List AOper := [
  Mc 2 (.int .i64 15)]
def f144x3 : List AOper := [
  Ls 11 27 1,
  Ls 12 27 1,
  Af [1] (Ct 13 157 [12]),
  Af [0, 2, 1] (Ct 14 156 [11, 13]),
  Un 15 .not 14]
def f144x4 : List AOper := [
  Mc 2 (.int .i64 1)]
def f144x5 : List AOper := [
  Fa 16 0 1,
  Ld 17 16]
def f144x6 : List AOper := [
  Bc 19 .eql 17 1,
  Mv 18 19]
def f144x7 : List AOper := [
  Ls 20 27 1,
  Ct 21 158 [20],
  Mv 2 21]
def f144x8 : List AOper := [
  Bc 23 .eql 17 2,
  Mv 22 23]
def f144x9 : List AOper := [
  Ls 24 27 1,
  Ct 25 159 [24],
  Mv 2 25]
def f144x10 : List AOper := [
  Bc 27 .eql 17 3,
  Mv 26 27]
def f144x11 : List AOper := [
  Fa 29 24 1,
  Ld 30 29,
  Bc 31 .lss 30 1,
  Mv 32 31,
  Gf 32 (Fa 33 24 1),
  Gf 32 (Ld 34 33),
  Gf 32 (Bc 35 .gtr 34 6),
  Po 36 32 35,
  Mv 37 36,
  Gf 37 (Fa 38 25 1),
  Gf 37 (Ld 39 38),
  Gf 37 (Bc 40 .lss 39 0),
  Po 41 37 40,
  Mv 42 41,
  Gf 42 (Fa 43 25 1),
  Gf 42 (Ld 44 43),
  Gf 42 (Bc 45 .gtr 44 255),
  Po 46 42 45,
  Mv 28 46]
def f144x12 : List AOper := [
  Mc 2 (.int .i64 5)]
def f144x13 : List AOper := [
  Fa 48 26 1,
  Ld 49 48,
  Ln 50 0 49,
  Bc 51 .gtr 50 65514,
  Mv 47 51]
def f144x14 : List AOper := [
  Mc 2 (.int .i64 4)]
def f144x15 : List AOper := [
  Mc 2 (.int .i64 0)]
def f144 : AFunc := ⟨52, 1, false, [.t 2], (.seq (.region f144x0 false) (.seq (.seq (.region f144x1 false) (.cond (.t 10) (.seq (.region f144x2 false) .ret) .skip)) (.seq (.seq (.region f144x3 true) (.cond (.t 15) (.seq (.region f144x4 false) .ret) .skip)) (.seq (.seq (.region f144x5 false) (.block 0 (.seq (.region f144x6 false) (.cond (.t 18) (.seq (.region f144x7 false) .ret) (.seq (.region f144x8 false) (.cond (.t 22) (.seq (.region f144x9 false) .ret) (.seq (.region f144x10 false) (.cond (.t 26) (.block 1 (.seq (.region f144x11 false) (.cond (.t 28) (.seq (.region f144x12 false) .ret) (.seq (.region f144x13 false) (.cond (.t 47) (.seq (.region f144x14 false) .ret) .skip))))) .skip)))))))) (.seq (.region f144x15 false) .ret)))))⟩
def f196x0 : List AOper := [
  Op 1 (.box (.t 0)),
  Mc 2 (.con (.slice none 0 0))]
def f196x1 : List AOper := [
  Fa 7 1 1,
  Ld 8 7,
  Cv 9 .u8 8,
  Op 10 (.bsl 1 [.int .u8 0] 1 [0] [(.t 9)]),
  Mv 3 10]
def f196x2 : List AOper := [
  Mv 11 3,
  Fa 12 2 1,
  Ld 13 12,
  Ct 14 204 [13],
  Cv 15 .u64 14,
  Ca 16 109 [(.t 11), (.c (.int .i64 2)), (.t 15)],
  Mv 3 16]
def f196x3 : List AOper := [
  Mv 17 3,
  Fa 18 3 1,
  Ld 19 18,
  Cv 20 .u64 19,
  Ca 21 109 [(.t 17), (.c (.int .i64 2)), (.t 20)],
  Mv 3 21]
def f196x4 : List AOper := [
  Mv 22 3,
  Fa 23 4 1,
  Ld 24 23,
  Cv 25 .u64 24,
  Ca 26 109 [(.t 22), (.c (.int .i64 4)), (.t 25)],
  Mv 3 26]
def f196x5 : List AOper := [
  Mc 4 (.con (.slice none 0 0))]
def f196x6 : List AOper := [
  Fa 27 5 1,
  Ld 28 27,
  Ln 29 0 28,
  Mc 30 (.int .i64 0)]
def f196x7 : List AOper := [
  Bi 31 .lss 30 29]
def f196x8 : List AOper := [
  Ia 32 2 28 30,
  Ls 33 2 32,
  Op 6 (.alloc (.agg [.int .i64 0, .con (.slice none 0 0)])),
  St 2 6 33]
def f196x9 : List AOper := [
  Mv 34 4,
  Fa 35 0 6,
  Ld 36 35,
  Cv 37 .u8 36,
  Fa 38 1 6,
  Ld 39 38,
  Ln 40 0 39,
  Cv 41 .u8 40,
  Op 42 (.bsl 1 [.int .u8 0] 2 [0, 1] [(.t 37), (.t 41)]),
  Ap 43 1 1 34 42,
  Mv 4 43]
def f196x10 : List AOper := [
  Mv 44 4,
  Fa 45 1 6,
  Ld 46 45,
  Ap 47 1 1 44 46,
  Mv 4 47]
def f196x11 : List AOper := [
  Bc 48 .add 30 1,
  Mv 30 48]
def f196x12L : ACode := (.seq (.region f196x7 false) (.seq (.cond (.t 31) .skip (.exit 0)) (.seq (.block 1 (.seq (.region f196x8 false) (.seq (.region f196x9 false) (.region f196x10 false)))) (.region f196x11 false))))
def f196x13 : List AOper := [
  Mv 49 4,
  Ln 50 0 49,
  Bc 51 .eql 50 0]
def f196x14 : List AOper := [
  Mv 52 3,
  Op 53 (.bsl 1 [.int .u8 0] 1 [0] [(.c (.int .u8 0))]),
  Ap 54 1 1 52 53,
  Mv 2 54]
def f196x15 : List AOper := [
  Mv 55 3,
  Mv 56 4,
  Ln 57 0 56,
  Bc 58 .add 57 2,
  Cv 59 .u8 58,
  Mv 60 4,
  Ln 61 0 60,
  Cv 62 .u8 61,
  Op 63 (.bsl 1 [.int .u8 0] 3 [0, 1, 2] [(.t 59), (.c (.int .u8 2)), (.t 62)]),
  Ap 64 1 1 55 63,
  Mv 3 64]
def f196x16 : List AOper := [
  Mv 65 3,
  Mv 66 4,
  Ap 67 1 1 65 66,
  Mv 2 67]
def f196 : AFunc := ⟨68, 1, false, [.t 2], (.seq (.region f196x0 false) (.seq (.region f196x1 false) (.seq (.region f196x2 false) (.seq (.region f196x3 false) (.seq (.region f196x4 false) (.seq (.region f196x5 false) (.seq (.seq (.region f196x6 false) (.block 0 (.loop f196x12L))) (.seq (.seq (.region f196x13 false) (.cond (.t 51) (.seq (.region f196x14 false) .ret) .skip)) (.seq (.region f196x15 false) (.seq (.region f196x16 false) .ret))))))))))⟩
def f196x12LH : List AItem := [.inLoop f196x12L, .inBlock 0, .code (.seq (.seq (.region f196x13 false) (.cond (.t 51) (.seq (.region f196x14 false) .ret) .skip)) (.seq (.region f196x15 false) (.seq (.region f196x16 false) .ret)))]
def f197x0 : List AOper := [
  Op 2 (.box (.t 0)),
  Mc 4 (.con (.slice none 0 0)),
  Mc 5 (.int .i64 0)]
def f197x1 : List AOper := [
  Fa 11 6 2,
  Ld 12 11,
  Ct 13 205 [12],
  Mv 6 13]
def f197x2 : List AOper := [
  Mc 7 (.con (.slice none 0 0))]
def f197x3 : List AOper := [
  Fa 14 23 2,
  Ld 15 14,
  Ln 16 0 15,
  Bc 17 .gtr 16 0]
def f197x4 : List AOper := [
  Fa 19 7 2,
  Ls 20 16 19,
  Mv 21 1,
  Ct 22 67 [20, 21],
  Mv 18 22,
  Ex 23 18 0,
  Ex 24 18 1,
  Mv 8 23,
  Mv 9 24]
def f197x5 : List AOper := [
  Mv 25 9,
  Bc 26 .neq 25 0]
def f197x6 : List AOper := [
  Mv 27 9,
  Mc 4 (.con (.slice none 0 0)),
  Mv 5 27]
def f197x7 : List AOper := [
  Mv 28 8,
  Mv 7 28]
def f197x8 : List AOper := [
  Mv 29 6,
  Ln 30 0 29,
  Bc 31 .gtr 30 65535,
  Mv 32 31,
  Gf 32 (Mv 33 7),
  Gf 32 (Ln 34 0 33),
  Gf 32 (Bc 35 .gtr 34 65535),
  Po 36 32 35]
def f197x9 : List AOper := [
  Mc 4 (.con (.slice none 0 0)),
  Mc 5 (.int .i64 4)]
def f197x10 : List AOper := [
  Mv 37 6,
  Ln 38 0 37,
  Cv 39 .u64 38,
  Ca 40 109 [(.c (.con (.slice none 0 0))), (.c (.int .i64 2)), (.t 39)],
  Mv 41 6,
  Ap 42 1 1 40 41,
  Mv 10 42]
def f197x11 : List AOper := [
  Mv 43 10,
  Mv 44 7,
  Ln 45 0 44,
  Cv 46 .u64 45,
  Ca 47 109 [(.t 43), (.c (.int .i64 2)), (.t 46)],
  Mv 48 7,
  Ap 49 1 1 47 48,
  Mv 10 49]
def f197x12 : List AOper := [
  Mv 50 10,
  Fa 51 23 2,
  Ld 52 51,
  Ct 53 205 [52],
  Ap 54 1 1 50 53,
  Mv 4 54,
  Mc 5 (.int .i64 0)]
def f197 : AFunc := ⟨55, 2, false, [.t 4, .t 5], (.seq (.region f197x0 false) (.seq (.region f197x1 false) (.seq (.region f197x2 false) (.seq (.seq (.region f197x3 false) (.cond (.t 17) (.seq (.region f197x4 false) (.seq (.seq (.region f197x5 false) (.cond (.t 26) (.seq (.region f197x6 false) .ret) .skip)) (.region f197x7 false))) .skip)) (.seq (.seq (.region f197x8 false) (.cond (.t 36) (.seq (.region f197x9 false) .ret) .skip)) (.seq (.region f197x10 false) (.seq (.region f197x11 false) (.seq (.region f197x12 false) .ret))))))))⟩
def f109x0 : List AOper := [
  Mc 6 (.con (.slice none 0 0))]
def f109x1 : List AOper := [
  Mv 7 0,
  Mv 8 1,
  Op 9 (.minmax true [(.t 8), (.c (.int .i64 0))]),
  Op 10 (.minmax false [(.t 9), (.c (.int .i64 8))]),
  Mv 11 2,
  Ct 12 120 [10, 11],
  Op 13 (.bsl 1 [.con (.slice none 0 0)] 2 [0, 1] [(.t 7), (.t 12)]),
  Ct 14 119 [13],
  Mv 6 14]
def f109 : AFunc := ⟨15, 3, false, [.t 6], (.seq (.region f109x0 false) (.seq (.region f109x1 false) .ret))⟩
def f148x0 : List AOper := [
  Op 1 (.box (.t 0)),
  Mc 2 (.int .i64 0)]
def f148x1 : List AOper := [
  Fa 3 0 1,
  Ld 4 3,
  Bc 5 .lss 4 1,
  Mv 6 5,
  Gf 6 (Fa 7 0 1),
  Gf 6 (Ld 8 7),
  Gf 6 (Bc 9 .gtr 8 5),
  Po 10 6 9]
def f148x2 : List AOper := [
  Mc 2 (.int .i64 15)]
def f148x3 : List AOper := [
  Ls 11 27 1,
  Ct 12 160 [11],
  Un 13 .not 12]
def f148x4 : List AOper := [
  Mc 2 (.int .i64 1)]
def f148x5 : List AOper := [
  Fa 14 0 1,
  Ld 15 14]
def f148x6 : List AOper := [
  Bc 17 .eql 15 1,
  Mv 16 17]
def f148x7 : List AOper := [
  Ls 18 27 1,
  Ct 19 161 [18],
  Mv 2 19]
def f148x8 : List AOper := [
  Bc 21 .eql 15 2,
  Mv 20 21]
def f148x9 : List AOper := [
  Ls 22 27 1,
  Ct 23 162 [22],
  Mv 2 23]
def f148x10 : List AOper := [
  Bc 25 .eql 15 3,
  Mv 24 25]
def f148x11 : List AOper := [
  Fa 26 24 1,
  Ld 27 26,
  Bc 28 .lss 27 1,
  Mv 29 28,
  Gf 29 (Fa 30 24 1),
  Gf 29 (Ld 31 30),
  Gf 29 (Bc 32 .gtr 31 6),
  Po 33 29 32,
  Mv 34 33,
  Gf 34 (Fa 35 25 1),
  Gf 34 (Ld 36 35),
  Gf 34 (Bc 37 .lss 36 0),
  Po 38 34 37,
  Mv 39 38,
  Gf 39 (Fa 40 25 1),
  Gf 39 (Ld 41 40),
  Gf 39 (Bc 42 .gtr 41 255),
  Po 43 39 42]
def f148x12 : List AOper := [
  Mc 2 (.int .i64 5)]
def f148x13 : List AOper := [
  Fa 44 26 1,
  Ld 45 44,
  Ln 46 0 45,
  Bc 47 .gtr 46 65514]
def f148x14 : List AOper := [
  Mc 2 (.int .i64 4)]
def f148x15 : List AOper := [
  Mc 2 (.int .i64 0)]
def f148 : AFunc := ⟨48, 1, false, [.t 2], (.seq (.region f148x0 false) (.seq (.seq (.region f148x1 false) (.cond (.t 10) (.seq (.region f148x2 false) .ret) .skip)) (.seq (.seq (.region f148x3 false) (.cond (.t 13) (.seq (.region f148x4 false) .ret) .skip)) (.seq (.seq (.region f148x5 false) (.block 0 (.seq (.region f148x6 false) (.cond (.t 16) (.seq (.region f148x7 false) .ret) (.seq (.region f148x8 false) (.cond (.t 20) (.seq (.region f148x9 false) .ret) (.seq (.region f148x10 false) (.cond (.t 24) (.seq (.seq (.region f148x11 false) (.cond (.t 43) (.seq (.region f148x12 false) .ret) .skip)) (.seq (.region f148x13 false) (.cond (.t 47) (.seq (.region f148x14 false) .ret) .skip))) .skip)))))))) (.seq (.region f148x15 false) .ret)))))⟩
def f356x0 : List AOper := [
  Op 1 (.box (.t 0)),
  Mc 2 (.con (.slice none 0 0))]
def f356x1 : List AOper := [
  Fa 8 2 1,
  Ld 9 8,
  Mv 3 9]
def f356x2 : List AOper := [
  Mv 10 3,
  Bc 11 .gtr 10 65535]
def f356x3 : List AOper := [
  Mc 3 (.int .i64 23456)]
def f356x4 : List AOper := [
  Fa 12 1 1,
  Ld 13 12,
  Cv 14 .u8 13,
  Op 15 (.bsl 1 [.int .u8 0] 1 [0] [(.t 14)]),
  Mv 16 3,
  Cv 17 .u64 16,
  Ca 18 91 [(.t 15), (.c (.int .i64 2)), (.t 17)],
  Mv 4 18]
def f356x5 : List AOper := [
  Mv 19 4,
  Fa 20 3 1,
  Ld 21 20,
  Cv 22 .u64 21,
  Af [2] (Ca 23 91 [(.t 19), (.c (.int .i64 2)), (.t 22)]),
  Fa 24 4 1,
  Ld 25 24,
  Cv 26 .u64 25,
  Af [4, 6, 2] (Ca 27 91 [(.t 23), (.c (.int .i64 4)), (.t 26)]),
  Mv 4 27]
def f356x6 : List AOper := [
  Mc 5 (.con (.slice none 0 0))]
def f356x7 : List AOper := [
  Fa 28 5 1,
  Ld 29 28,
  Ln 30 0 29,
  Mc 31 (.int .i64 0)]
def f356x8 : List AOper := [
  Bi 32 .lss 31 30]
def f356x9 : List AOper := [
  Ia 33 2 29 31,
  Ls 34 2 33,
  Op 7 (.alloc (.agg [.int .i64 0, .con (.slice none 0 0)])),
  St 2 7 34]
def f356x10 : List AOper := [
  Mv 35 5,
  Fa 36 0 7,
  Ld 37 36,
  Cv 38 .u8 37,
  Fa 39 1 7,
  Ld 40 39,
  Ln 41 0 40,
  Cv 42 .u8 41,
  Op 43 (.bsl 1 [.int .u8 0] 2 [0, 1] [(.t 38), (.t 42)]),
  Ap 44 1 1 35 43,
  Mv 5 44]
def f356x11 : List AOper := [
  Mv 45 5,
  Fa 46 1 7,
  Ld 47 46,
  Ap 48 1 1 45 47,
  Mv 5 48]
def f356x12 : List AOper := [
  Bc 49 .add 31 1,
  Mv 31 49]
def f356x13L : ACode := (.seq (.region f356x8 false) (.seq (.cond (.t 32) .skip (.exit 0)) (.seq (.block 1 (.seq (.region f356x9 false) (.seq (.region f356x10 false) (.region f356x11 false)))) (.region f356x12 false))))
def f356x14 : List AOper := [
  Mv 50 5,
  Ln 51 0 50,
  Bc 52 .eql 51 0]
def f356x15 : List AOper := [
  Mv 53 4,
  Op 54 (.bsl 1 [.int .u8 0] 1 [0] [(.c (.int .u8 0))]),
  Ap 55 1 1 53 54,
  Mv 4 55]
def f356x16 : List AOper := [
  Mv 56 4,
  Mv 2 56]
def f356x17 : List AOper := [
  Mv 57 4,
  Mv 58 5,
  Ln 59 0 58,
  Bc 60 .add 59 2,
  Cv 61 .u8 60,
  Mv 62 5,
  Ln 63 0 62,
  Cv 64 .u8 63,
  Op 65 (.bsl 1 [.int .u8 0] 3 [0, 1, 2] [(.t 61), (.c (.int .u8 2)), (.t 64)]),
  Ap 66 1 1 57 65,
  Mv 4 66]
def f356x18 : List AOper := [
  Mv 67 4,
  Mv 68 5,
  Ap 69 1 1 67 68,
  Mv 4 69]
def f356x19 : List AOper := [
  Mv 70 4,
  Mv 2 70]
def f356 : AFunc := ⟨71, 1, false, [.t 2], (.seq (.region f356x0 false) (.seq (.region f356x1 false) (.seq (.seq (.region f356x2 false) (.cond (.t 11) (.region f356x3 false) .skip)) (.seq (.region f356x4 false) (.seq (.region f356x5 true) (.seq (.region f356x6 false) (.seq (.seq (.region f356x7 false) (.block 0 (.loop f356x13L))) (.seq (.seq (.region f356x14 false) (.cond (.t 52) (.seq (.region f356x15 false) (.seq (.region f356x16 false) .ret)) .skip)) (.seq (.region f356x17 false) (.seq (.region f356x18 false) (.seq (.region f356x19 false) .ret)))))))))))⟩
def f356x13LH : List AItem := [.inLoop f356x13L, .inBlock 0, .code (.seq (.seq (.region f356x14 false) (.cond (.t 52) (.seq (.region f356x15 false) (.seq (.region f356x16 false) .ret)) .skip)) (.seq (.region f356x17 false) (.seq (.region f356x18 false) (.seq (.region f356x19 false) .ret))))]
def f68x0 : List AOper := [
  Op 2 (.box (.t 0)),
  Mc 4 (.con (.slice none 0 0)),
  Mc 5 (.int .i64 0)]
def f68x1 : List AOper := [
  Ls 14 16 2,
  Ct 15 66 [14],
  Mv 6 15]
def f68x2 : List AOper := [
  Mv 16 6,
  Bc 17 .neq 16 0]
def f68x3 : List AOper := [
  Mv 18 6,
  Mc 4 (.con (.slice none 0 0)),
  Mv 5 18]
def f68x4 : List AOper := [
  Fa 19 1 2,
  Ld 20 19,
  Ct 21 57 [20],
  Mv 7 21]
def f68x5 : List AOper := [
  Mv 22 7,
  Fa 23 9 2,
  Ld 24 23,
  Op 25 (.bsl 1 [.int .i64 0] 1 [0] [(.t 24)]),
  Ap 26 1 8 22 25,
  Mv 7 26]
def f68x6 : List AOper := [
  Mv 27 7,
  Ln 28 0 27,
  Mc 29 (.int .i64 0)]
def f68x7 : List AOper := [
  Bi 30 .lss 29 28]
def f68x8 : List AOper := [
  Ia 31 1 27 29,
  Ld 32 31,
  Mv 9 32]
def f68x9 : List AOper := [
  Mv 33 1,
  Un 34 .not 33,
  Mv 35 34,
  Gt 35 (Mv 36 9),
  Gt 35 (Bc 37 .gtr 36 65535),
  Pa 38 35 37]
def f68x10 : List AOper := [
  Mc 4 (.con (.slice none 0 0)),
  Mc 5 (.int .i64 5)]
def f68x11 : List AOper := [
  Bc 39 .add 29 1,
  Mv 29 39]
def f68x12L : ACode := (.seq (.region f68x7 false) (.seq (.cond (.t 30) .skip (.exit 0)) (.seq (.block 1 (.seq (.region f68x8 false) (.seq (.region f68x9 false) (.cond (.t 38) (.seq (.region f68x10 false) .ret) .skip)))) (.region f68x11 false))))
def f68x13 : List AOper := [
  Fa 40 0 2,
  Ld 41 40,
  Cv 42 .u8 41,
  Op 43 (.bsl 1 [.int .u8 0] 1 [0] [(.t 42)]),
  Ca 44 88 [(.c (.con (.slice none 0 0))), (.c (.int .i64 1)), (.t 43)],
  Mv 10 44]
def f68x14 : List AOper := [
  Mv 45 10,
  Fa 46 1 2,
  Ld 47 46,
  Mv 48 1,
  Ct 49 89 [47, 48],
  Ca 50 88 [(.t 45), (.c (.int .i64 2)), (.t 49)],
  Mv 10 50]
def f68x15 : List AOper := [
  Mv 51 10,
  Fa 52 2 2,
  Ld 53 52,
  Op 54 (.bsl 1 [.int .u32 0] 1 [0] [(.t 53)]),
  Ct 55 90 [54],
  Ca 56 88 [(.t 51), (.c (.int .i64 3)), (.t 55)],
  Mv 10 56]
def f68x16 : List AOper := [
  Fa 57 3 2,
  Ld 58 57]
def f68x17 : List AOper := [
  Mv 59 10,
  Fa 60 4 2,
  Ld 61 60,
  Cv 62 .u32 61,
  Op 63 (.bsl 1 [.int .u32 0] 1 [0] [(.t 62)]),
  Ct 64 90 [63],
  Ca 65 88 [(.t 59), (.c (.int .i64 4)), (.t 64)],
  Mv 10 65]
def f68x18 : List AOper := [
  Fa 66 5 2,
  Ld 67 66]
def f68x19 : List AOper := [
  Mv 68 10,
  Fa 69 6 2,
  Ld 70 69,
  Cv 71 .u32 70,
  Op 72 (.bsl 1 [.int .u32 0] 1 [0] [(.t 71)]),
  Ct 73 90 [72],
  Ca 74 88 [(.t 68), (.c (.int .i64 5)), (.t 73)],
  Mv 10 74]
def f68x20 : List AOper := [
  Fa 75 7 2,
  Ld 76 75]
def f68x21 : List AOper := [
  Mv 77 10,
  Ca 78 88 [(.t 77), (.c (.int .i64 6)), (.c (.con (.slice none 0 0)))],
  Mv 10 78]
def f68x22 : List AOper := [
  Fa 79 8 2,
  Ld 80 79]
def f68x23 : List AOper := [
  Mv 81 1,
  Ct 82 92 [81],
  Fa 83 9 2,
  Ld 84 83,
  Cv 85 .u64 84,
  Af [1, 3] (Ca 86 91 [(.c (.con (.slice none 0 0))), (.t 82), (.t 85)]),
  Mv 11 86]
def f68x24 : List AOper := [
  Mv 87 10,
  Mv 88 11,
  Fa 89 10 2,
  Ld 90 89,
  Cv 91 .u64 90,
  Ca 92 91 [(.t 88), (.c (.int .i64 4)), (.t 91)],
  Ca 93 88 [(.t 87), (.c (.int .i64 7)), (.t 92)],
  Mv 10 93]
def f68x25 : List AOper := [
  Fa 94 11 2,
  Ld 95 94,
  Ln 96 0 95,
  Bc 97 .gtr 96 0]
def f68x26 : List AOper := [
  Mv 98 10,
  Fa 99 11 2,
  Ld 100 99,
  Ct 101 90 [100],
  Ca 102 88 [(.t 98), (.c (.int .i64 8)), (.t 101)],
  Mv 10 102]
def f68x27 : List AOper := [
  Fa 103 12 2,
  Ld 104 103]
def f68x28 : List AOper := [
  Mv 105 10,
  Fa 106 13 2,
  Ld 107 106,
  Op 108 (.bsl 1 [.int .u32 0] 1 [0] [(.t 107)]),
  Ct 109 90 [108],
  Ca 110 88 [(.t 105), (.c (.int .i64 9)), (.t 109)],
  Mv 10 110]
def f68x29 : List AOper := [
  Fa 111 14 2,
  Ld 112 111,
  Ln 113 0 112,
  Bc 114 .gtr 113 0]
def f68x30 : List AOper := [
  Mv 115 10,
  Fa 116 14 2,
  Ld 117 116,
  Ct 118 90 [117],
  Ca 119 88 [(.t 115), (.c (.int .i64 10)), (.t 118)],
  Mv 10 119]
def f68x31 : List AOper := [
  Fa 120 15 2,
  Ld 121 120,
  Ln 122 0 121,
  Mc 123 (.int .i64 0)]
def f68x32 : List AOper := [
  Bi 124 .lss 123 122]
def f68x33 : List AOper := [
  Ia 125 2 121 123,
  Ls 126 2 125,
  Op 13 (.alloc (.agg [.int .i64 0, .con (.slice none 0 0)])),
  St 2 13 126]
def f68x34 : List AOper := [
  Mv 127 10,
  Fa 128 0 13,
  Ld 129 128,
  Fa 130 1 13,
  Ld 131 130,
  Ct 132 88 [127, 129, 131],
  Mv 10 132]
def f68x35 : List AOper := [
  Bc 133 .add 123 1,
  Mv 123 133]
def f68x36L : ACode := (.seq (.region f68x32 false) (.seq (.cond (.t 124) .skip (.exit 2)) (.seq (.block 3 (.seq (.region f68x33 false) (.region f68x34 false))) (.region f68x35 false))))
def f68x37 : List AOper := [
  Mv 134 10,
  Mv 4 134,
  Mc 5 (.int .i64 0)]
def f68 : AFunc := ⟨135, 2, false, [.t 4, .t 5], (.seq (.region f68x0 false) (.seq (.seq (.region f68x1 false) (.seq (.region f68x2 false) (.cond (.t 17) (.seq (.region f68x3 false) .ret) .skip))) (.seq (.region f68x4 false) (.seq (.region f68x5 false) (.seq (.seq (.region f68x6 false) (.block 0 (.loop f68x12L))) (.seq (.region f68x13 false) (.seq (.region f68x14 false) (.seq (.region f68x15 false) (.seq (.seq (.region f68x16 false) (.cond (.t 58) (.region f68x17 false) .skip)) (.seq (.seq (.region f68x18 false) (.cond (.t 67) (.region f68x19 false) .skip)) (.seq (.seq (.region f68x20 false) (.cond (.t 76) (.region f68x21 false) .skip)) (.seq (.seq (.region f68x22 false) (.cond (.t 80) (.seq (.region f68x23 true) (.region f68x24 false)) .skip)) (.seq (.seq (.region f68x25 false) (.cond (.t 97) (.region f68x26 false) .skip)) (.seq (.seq (.region f68x27 false) (.cond (.t 104) (.region f68x28 false) .skip)) (.seq (.seq (.region f68x29 false) (.cond (.t 114) (.region f68x30 false) .skip)) (.seq (.seq (.region f68x31 false) (.block 2 (.loop f68x36L))) (.seq (.region f68x37 false) .ret)))))))))))))))))⟩
def f68x12LH : List AItem := [.inLoop f68x12L, .inBlock 0, .code (.seq (.region f68x13 false) (.seq (.region f68x14 false) (.seq (.region f68x15 false) (.seq (.seq (.region f68x16 false) (.cond (.t 58) (.region f68x17 false) .skip)) (.seq (.seq (.region f68x18 false) (.cond (.t 67) (.region f68x19 false) .skip)) (.seq (.seq (.region f68x20 false) (.cond (.t 76) (.region f68x21 false) .skip)) (.seq (.seq (.region f68x22 false) (.cond (.t 80) (.seq (.region f68x23 true) (.region f68x24 false)) .skip)) (.seq (.seq (.region f68x25 false) (.cond (.t 97) (.region f68x26 false) .skip)) (.seq (.seq (.region f68x27 false) (.cond (.t 104) (.region f68x28 false) .skip)) (.seq (.seq (.region f68x29 false) (.cond (.t 114) (.region f68x30 false) .skip)) (.seq (.seq (.region f68x31 false) (.block 2 (.loop f68x36L))) (.seq (.region f68x37 false) .ret))))))))))))]
def f68x36LH : List AItem := [.inLoop f68x36L, .inBlock 2, .code (.seq (.region f68x37 false) .ret)]
def f357x0 : List AOper := [
  Mc 2 (.con (.slice none 0 0))]
def f357x1 : List AOper := [
  Mc 3 (.con (.slice none 0 0))]
def f357x2 : List AOper := [
  Mv 7 0,
  Ln 8 0 7,
  Mc 9 (.int .i64 0)]
def f357x3 : List AOper := [
  Bi 10 .lss 9 8]
def f357x4 : List AOper := [
  Ia 11 2 7 9,
  Ls 12 2 11,
  Op 5 (.alloc (.agg [.int .u32 0, .int .i64 0])),
  St 2 5 12]
def f357x5 : List AOper := [
  Mv 13 3,
  Fa 14 1 5,
  Ld 15 14,
  Cv 16 .u8 15,
  Op 17 (.bsl 1 [.int .u8 0] 1 [0] [(.t 16)]),
  Ap 18 1 1 13 17,
  Mv 3 18]
def f357x6 : List AOper := [
  Mc 6 (.int .i64 0)]
def f357x7 : List AOper := [
  Mv 19 6,
  Op 20 (.bin .mul (.c (.int .i64 8)) (.t 19)),
  Fa 21 1 5,
  Ld 22 21,
  Bi 23 .lss 20 22]
def f357x8 : List AOper := [
  Mv 26 3,
  Fa 27 0 5,
  Ld 28 27,
  Mv 29 6,
  Op 30 (.bin .mul (.c (.int .i64 8)) (.t 29)),
  Op 31 (.bin .sub (.c (.int .i64 24)) (.t 30)),
  Bi 32 .shr 28 31,
  Cv 33 .u8 32,
  Op 34 (.bsl 1 [.int .u8 0] 1 [0] [(.t 33)]),
  Ap 35 1 1 26 34,
  Mv 3 35]
def f357x9 : List AOper := [
  Mv 24 6,
  Bc 25 .add 24 1,
  Mv 6 25]
def f357x10L : ACode := (.seq (.seq (.region f357x7 false) (.cond (.t 23) .skip (.exit 2))) (.seq (.block 3 (.region f357x8 false)) (.region f357x9 false)))
def f357x11 : List AOper := [
  Bc 36 .add 9 1,
  Mv 9 36]
def f357x12L : ACode := (.seq (.region f357x3 false) (.seq (.cond (.t 10) .skip (.exit 0)) (.seq (.block 1 (.seq (.region f357x4 false) (.seq (.region f357x5 false) (.seq (.region f357x6 false) (.block 2 (.loop f357x10L)))))) (.region f357x11 false))))
def f357x13 : List AOper := [
  Mv 37 3,
  Mv 2 37]
def f357 : AFunc := ⟨38, 1, false, [.t 2], (.seq (.region f357x0 false) (.seq (.region f357x1 false) (.seq (.seq (.region f357x2 false) (.block 0 (.loop f357x12L))) (.seq (.region f357x13 false) .ret))))⟩
def f357x12LH : List AItem := [.inLoop f357x12L, .inBlock 0, .code (.seq (.region f357x13 false) .ret)]
def f357x10LH : List AItem := [.inLoop f357x10L, .inBlock 2, .inBlock 1, .code (.region f357x11 false), .inLoop f357x12L, .inBlock 0, .code (.seq (.region f357x13 false) .ret)]
def f91x0 : List AOper := [
  Mc 6 (.con (.slice none 0 0))]
def f91x1 : List AOper := [
  Mc 7 (.con (.slice none 0 0))]
def f91x2 : List AOper := [
  Mv 9 7,
  Mv 10 0,
  Ap 11 1 1 9 10,
  Mv 7 11]
def f91x3 : List AOper := [
  Mv 12 1,
  Op 13 (.minmax true [(.t 12), (.c (.int .i64 0))]),
  Op 14 (.minmax false [(.t 13), (.c (.int .i64 8))]),
  Bc 15 .sub 14 1,
  Mv 8 15]
def f91x4 : List AOper := [
  Mv 16 8,
  Bc 17 .geq 16 0]
def f91x5 : List AOper := [
  Mv 20 7,
  Mv 21 2,
  Mv 22 8,
  Op 23 (.bin .mul (.c (.int .i64 8)) (.t 22)),
  Bi 24 .shr 21 23,
  Cv 25 .u8 24,
  Op 26 (.bsl 1 [.int .u8 0] 1 [0] [(.t 25)]),
  Ap 27 1 1 20 26,
  Mv 7 27]
def f91x6 : List AOper := [
  Mv 18 8,
  Bc 19 .sub 18 1,
  Mv 8 19]
def f91x7L : ACode := (.seq (.seq (.region f91x4 false) (.cond (.t 17) .skip (.exit 0))) (.seq (.block 1 (.region f91x5 false)) (.region f91x6 false)))
def f91x8 : List AOper := [
  Mv 28 7,
  Mv 6 28]
def f91 : AFunc := ⟨29, 3, false, [.t 6], (.seq (.region f91x0 false) (.seq (.region f91x1 false) (.seq (.region f91x2 false) (.seq (.seq (.region f91x3 false) (.block 0 (.loop f91x7L))) (.seq (.region f91x8 false) .ret)))))⟩
def f91x7LH : List AItem := [.inLoop f91x7L, .inBlock 0, .code (.seq (.region f91x8 false) .ret)]
def f358x0 : List AOper := [
  Mc 4 (.con (.slice none 0 0))]
def f358x1 : List AOper := [
  Mc 5 (.con (.slice none 0 0))]
def f358x2 : List AOper := [
  Mc 6 (.int .i64 0)]
def f358x3 : List AOper := [
  Bc 7 .lss 6 16]
def f358x4 : List AOper := [
  Mv 8 5,
  Op 9 (.bsl 1 [.int .u8 0] 1 [0] [(.c (.int .u8 255))]),
  Ap 10 1 1 8 9,
  Mv 5 10]
def f358x5 : List AOper := [
  Bc 11 .add 6 1,
  Mv 6 11]
def f358x6L : ACode := (.seq (.region f358x3 false) (.seq (.cond (.t 7) .skip (.exit 0)) (.seq (.block 1 (.region f358x4 false)) (.region f358x5 false))))
def f358x7 : List AOper := [
  Mv 12 5,
  Mv 13 0,
  Cv 14 .u64 13,
  Ca 15 91 [(.t 12), (.c (.int .i64 2)), (.t 14)],
  Mv 5 15]
def f358x8 : List AOper := [
  Mv 16 5,
  Mv 17 1,
  Cv 18 .u8 17,
  Op 19 (.bsl 1 [.int .u8 0] 1 [0] [(.t 18)]),
  Ap 20 1 1 16 19,
  Mv 5 20]
def f358x9 : List AOper := [
  Mv 21 5,
  Mv 4 21]
def f358 : AFunc := ⟨22, 2, false, [.t 4], (.seq (.region f358x0 false) (.seq (.region f358x1 false) (.seq (.seq (.region f358x2 false) (.block 0 (.loop f358x6L))) (.seq (.region f358x7 false) (.seq (.region f358x8 false) (.seq (.region f358x9 false) .ret))))))⟩
def f358x6LH : List AItem := [.inLoop f358x6L, .inBlock 0, .code (.seq (.region f358x7 false) (.seq (.region f358x8 false) (.seq (.region f358x9 false) .ret)))]
def f198x0 : List AOper := [
  Op 6 (.alloc (.agg [.int .i64 0, .int .i64 0, .int .i64 0, .int .i64 0, .int .u32 0, .con (.slice none 0 0), .con (.slice none 0 0), .int .i64 0, .con (.slice none 0 0), .int .u32 0, .bool false, .int .i64 0, .bool false, .int .i64 0, .bool false, .bool false, .int .i64 0, .int .u32 0, .con (.slice none 0 0), .bool false, .int .u32 0, .con (.slice none 0 0), .con (.slice none 0 0), .con (.slice none 0 0), .int .i64 0, .int .i64 0, .con (.slice none 0 0)]))]
def f198x1 : List AOper := [
  Mv 7 0,
  Mv 8 1,
  Mv 9 2,
  Op 10 (.build [.int .i64 0, .int .i64 0, .int .i64 0, .int .i64 0, .int .u32 0, .con (.slice none 0 0), .con (.slice none 0 0), .int .i64 0, .con (.slice none 0 0), .int .u32 0, .bool false, .int .i64 0, .bool false, .int .i64 0, .bool false, .bool false, .int .i64 0, .int .u32 0, .con (.slice none 0 0), .bool false, .int .u32 0, .con (.slice none 0 0), .con (.slice none 0 0), .con (.slice none 0 0), .int .i64 0, .int .i64 0, .con (.slice none 0 0)] [(0, 1), (24, 1), (25, 1), (26, 1)] [(.c (.int .i64 3)), (.t 7), (.t 8), (.t 9)]),
  St 27 6 10]
def f198 : AFunc := ⟨11, 3, false, [.cell 6 (some 27)], (.seq (.region f198x0 false) (.seq (.region f198x1 false) .ret))⟩
def f110x0 : List AOper := [
  Mc 6 (.int .u64 0),
  Mc 7 (.bool false)]
def f110x1 : List AOper := [
  Mv 11 2,
  Bc 12 .lss 11 0,
  Mv 13 12,
  Gf 13 (Mv 14 2),
  Gf 13 (Bc 15 .gtr 14 8),
  Po 16 13 15,
  Mv 17 16,
  Gf 17 (Mv 18 1),
  Gf 17 (Bc 19 .lss 18 0),
  Po 20 17 19,
  Mv 21 20,
  Gf 21 (Mv 22 1),
  Gf 21 (Mv 23 0),
  Gf 21 (Ln 24 0 23),
  Gf 21 (Mv 25 2),
  Gf 21 (Bi 26 .sub 24 25),
  Gf 21 (Bi 27 .gtr 22 26),
  Po 28 21 27]
def f110x2 : List AOper := [
  Mc 6 (.int .u64 0),
  Mc 7 (.bool false)]
def f110x3 : List AOper := [
  Mc 8 (.int .u64 0)]
def f110x4 : List AOper := [
  Mv 29 0,
  Mv 30 1,
  Mv 31 1,
  Mv 32 2,
  Bi 33 .add 31 32,
  Op 34 (.slc 1 (.t 29) (some (.t 30)) (some (.t 33)) none),
  Ln 35 0 34,
  Mc 36 (.int .i64 0)]
def f110x5 : List AOper := [
  Bi 37 .lss 36 35]
def f110x6 : List AOper := [
  Ia 38 1 34 36,
  Ld 39 38,
  Mv 10 39]
def f110x7 : List AOper := [
  Mv 40 8,
  Op 41 (.bin .shl (.t 40) (.c (.int .u64 8))),
  Mv 42 10,
  Cv 43 .u64 42,
  Bi 44 .or 41 43,
  Mv 8 44]
def f110x8 : List AOper := [
  Bc 45 .add 36 1,
  Mv 36 45]
def f110x9L : ACode := (.seq (.region f110x5 false) (.seq (.cond (.t 37) .skip (.exit 0)) (.seq (.block 1 (.seq (.region f110x6 false) (.region f110x7 false))) (.region f110x8 false))))
def f110x10 : List AOper := [
  Mv 46 8,
  Mv 6 46,
  Mc 7 (.bool true)]
def f110 : AFunc := ⟨47, 3, false, [.t 6, .t 7], (.seq (.region f110x0 false) (.seq (.seq (.region f110x1 false) (.cond (.t 28) (.seq (.region f110x2 false) .ret) .skip)) (.seq (.region f110x3 false) (.seq (.seq (.region f110x4 false) (.block 0 (.loop f110x9L))) (.seq (.region f110x10 false) .ret)))))⟩
def f199x0 : List AOper := [
  Mc 4 (.bool false)]
def f199x1 : List AOper := [
  Mv 5 0]
def f199x2 : List AOper := [
  Bc 7 .eql 5 1,
  Mv 6 7]
def f199x3 : List AOper := [
  Mv 8 1,
  Bc 9 .lss 8 29,
  Mv 4 9]
def f199x4 : List AOper := [
  Bc 11 .eql 5 2,
  Mv 10 11]
def f199x5 : List AOper := [
  Mv 12 1,
  Bc 13 .lss 12 23,
  Mv 4 13]
def f199x6 : List AOper := [
  Bc 15 .eql 5 3,
  Mv 14 15]
def f199x7 : List AOper := [
  Mv 16 1,
  Bc 17 .lss 16 21,
  Mv 4 17]
def f199x8 : List AOper := [
  Bc 19 .eql 5 4,
  Mv 18 19]
def f199x9 : List AOper := [
  Mv 20 1,
  Bc 21 .neq 20 19,
  Mv 4 21]
def f199x10 : List AOper := [
  Mv 22 1,
  Bc 23 .neq 22 23,
  Mv 4 23]
def f199 : AFunc := ⟨24, 2, false, [.t 4], (.seq (.region f199x0 false) (.seq (.seq (.region f199x1 false) (.block 0 (.seq (.region f199x2 false) (.cond (.t 6) (.seq (.region f199x3 false) .ret) (.seq (.region f199x4 false) (.cond (.t 10) (.seq (.region f199x5 false) .ret) (.seq (.region f199x6 false) (.cond (.t 14) (.seq (.region f199x7 false) .ret) (.seq (.region f199x8 false) (.cond (.t 18) (.seq (.region f199x9 false) .ret) .skip)))))))))) (.seq (.region f199x10 false) .ret)))⟩
def f200x0 : List AOper := [
  Op 2 (.alloc (.agg [.int .i64 0, .int .i64 0, .int .i64 0, .int .i64 0, .int .u32 0, .con (.slice none 0 0), .con (.slice none 0 0), .int .i64 0, .con (.slice none 0 0), .int .u32 0, .bool false, .int .i64 0, .bool false, .int .i64 0, .bool false, .bool false, .int .i64 0, .int .u32 0, .con (.slice none 0 0), .bool false, .int .u32 0, .con (.slice none 0 0), .con (.slice none 0 0), .con (.slice none 0 0), .int .i64 0, .int .i64 0, .con (.slice none 0 0)])),
  Op 3 (.alloc (.agg [.int .i64 0, .int .i64 0, .int .i64 0, .int .i64 0, .int .u32 0, .con (.slice none 0 0), .con (.slice none 0 0), .int .i64 0, .con (.slice none 0 0), .int .u32 0, .bool false, .int .i64 0, .bool false, .int .i64 0, .bool false, .bool false, .int .i64 0, .int .u32 0, .con (.slice none 0 0), .bool false, .int .u32 0, .con (.slice none 0 0), .con (.slice none 0 0), .con (.slice none 0 0), .int .i64 0, .int .i64 0, .con (.slice none 0 0)])),
  Mc 4 (.int .i64 0)]
def f200x1 : List AOper := [
  Mv 17 0,
  Op 18 (.build [.con (.slice none 0 0)] [(0, 1)] [(.t 17)]),
  Op 19 (.box (.t 18)),
  Mv 5 19]
def f200x2 : List AOper := [
  Mv 20 5,
  Ca 21 206 [(.t 20), (.c (.int .i64 1))],
  Op 22 (.build [.int .i64 0, .int .i64 0, .int .i64 0, .int .i64 0, .int .u32 0, .con (.slice none 0 0), .con (.slice none 0 0), .int .i64 0, .con (.slice none 0 0), .int .u32 0, .bool false, .int .i64 0, .bool false, .int .i64 0, .bool false, .bool false, .int .i64 0, .int .u32 0, .con (.slice none 0 0), .bool false, .int .u32 0, .con (.slice none 0 0), .con (.slice none 0 0), .con (.slice none 0 0), .int .i64 0, .int .i64 0, .con (.slice none 0 0)] [(0, 1), (1, 1)] [(.c (.int .i64 1)), (.t 21)]),
  Op 6 (.alloc (.agg [.int .i64 0, .int .i64 0, .int .i64 0, .int .i64 0, .int .u32 0, .con (.slice none 0 0), .con (.slice none 0 0), .int .i64 0, .con (.slice none 0 0), .int .u32 0, .bool false, .int .i64 0, .bool false, .int .i64 0, .bool false, .bool false, .int .i64 0, .int .u32 0, .con (.slice none 0 0), .bool false, .int .u32 0, .con (.slice none 0 0), .con (.slice none 0 0), .con (.slice none 0 0), .int .i64 0, .int .i64 0, .con (.slice none 0 0)])),
  St 27 6 22]
def f200x3 : List AOper := [
  Fa 23 1 6,
  Ld 24 23,
  Bc 25 .neq 24 4]
def f200x4 : List AOper := [
  Op 26 (.build [.int .i64 0, .int .i64 0, .int .i64 0, .int .i64 0, .int .u32 0, .con (.slice none 0 0), .con (.slice none 0 0), .int .i64 0, .con (.slice none 0 0), .int .u32 0, .bool false, .int .i64 0, .bool false, .int .i64 0, .bool false, .bool false, .int .i64 0, .int .u32 0, .con (.slice none 0 0), .bool false, .int .u32 0, .con (.slice none 0 0), .con (.slice none 0 0), .con (.slice none 0 0), .int .i64 0, .int .i64 0, .con (.slice none 0 0)] [] []),
  Op 27 (.bsl 1 [.int .u8 0] 2 [0, 1] [(.c (.int .u8 0)), (.c (.int .u8 4))]),
  Ca 28 198 [(.c (.int .i64 2)), (.c (.int .i64 1)), (.t 27)],
  St 27 2 26,
  St 27 3 28,
  Mc 4 (.int .i64 12)]
def f200x5 : List AOper := [
  Mv 29 5,
  Ca 30 206 [(.t 29), (.c (.int .i64 2))],
  Mv 7 30]
def f200x6 : List AOper := [
  Mv 31 7,
  Fa 32 2 6,
  St 1 32 31]
def f200x7 : List AOper := [
  Mv 33 5,
  Ca 34 206 [(.t 33), (.c (.int .i64 2))],
  Fa 35 3 6,
  St 1 35 34]
def f200x8 : List AOper := [
  Mv 36 5,
  Ca 37 206 [(.t 36), (.c (.int .i64 4))],
  Cv 38 .u32 37,
  Fa 39 4 6,
  St 1 39 38]
def f200x9 : List AOper := [
  Mv 40 5,
  Ca 41 206 [(.t 40), (.c (.int .i64 1))],
  Mv 8 41]
def f200x10 : List AOper := [
  Mv 42 5,
  Nc 43 42,
  Fa 44 0 43,
  Ld 45 44,
  Ln 46 0 45,
  Mv 47 8,
  Bi 48 .eql 46 47,
  Mv 9 48]
def f200x11 : List AOper := [
  Mv 49 9,
  Mv 50 49,
  Gt 50 (Mv 51 8),
  Gt 50 (Bc 52 .gtr 51 0),
  Pa 53 50 52]
def f200x12 : List AOper := [
  Mv 54 5,
  Nc 55 54,
  Fa 56 0 55,
  Ld 57 56,
  Op 58 (.build [.con (.slice none 0 0)] [(0, 1)] [(.t 57)]),
  Op 59 (.build [.con (.slice none 0 0), .con (.slice none 0 0)] [(0, 1)] [(.t 58)]),
  Op 60 (.box (.t 59)),
  Mv 10 60]
def f200x13 : List AOper := [
  Mv 61 10,
  Nc 62 61,
  Fa 63 0 62,
  Ca 64 207 [(.t 63), (.c (.int .i64 2))],
  Mv 65 64,
  Gt 65 (Mv 66 10),
  Gt 65 (Nc 67 66),
  Gt 65 (Fa 68 0 67),
  Gt 65 (Ca 69 206 [(.t 68), (.c (.int .i64 1))]),
  Gt 65 (Bc 70 .eql 69 2),
  Pa 71 65 70,
  Mv 72 71,
  Gt 72 (Mv 73 10),
  Gt 72 (Nc 74 73),
  Gt 72 (Fa 75 0 74),
  Gt 72 (Ca 76 206 [(.t 75), (.c (.int .i64 1))]),
  Gt 72 (Mv 77 8),
  Gt 72 (Bc 78 .sub 77 2),
  Gt 72 (Bi 79 .eql 76 78),
  Pa 80 72 79,
  Mv 81 80,
  Gt 81 (Mv 82 10),
  Gt 81 (Ct 83 208 [82]),
  Pa 84 81 83,
  Mv 9 84]
def f200x14 : List AOper := [
  Mv 85 10,
  Nc 86 85,
  Fa 87 1 86,
  Ld 88 87,
  Fa 89 5 6,
  St 1 89 88]
def f200x15 : List AOper := [
  Mv 90 9,
  Un 91 .not 90]
def f200x16 : List AOper := [
  Op 92 (.build [.int .i64 0, .int .i64 0, .int .i64 0, .int .i64 0, .int .u32 0, .con (.slice none 0 0), .con (.slice none 0 0), .int .i64 0, .con (.slice none 0 0), .int .u32 0, .bool false, .int .i64 0, .bool false, .int .i64 0, .bool false, .bool false, .int .i64 0, .int .u32 0, .con (.slice none 0 0), .bool false, .int .u32 0, .con (.slice none 0 0), .con (.slice none 0 0), .con (.slice none 0 0), .int .i64 0, .int .i64 0, .con (.slice none 0 0)] [] []),
  Ca 93 198 [(.c (.int .i64 2)), (.c (.int .i64 4)), (.c (.con (.slice none 0 0)))],
  St 27 2 92,
  St 27 3 93,
  Mc 4 (.int .i64 2)]
def f200x17 : List AOper := [
  Fa 94 5 6,
  Ld 95 94,
  Ln 96 0 95,
  Mc 97 (.int .i64 0)]
def f200x18 : List AOper := [
  Bi 98 .lss 97 96]
def f200x19 : List AOper := [
  Ia 99 2 95 97,
  Ls 100 2 99,
  Op 12 (.alloc (.agg [.int .i64 0, .con (.slice none 0 0)])),
  St 2 12 100]
def f200x20 : List AOper := [
  Fa 101 0 12,
  Ld 102 101,
  Bc 103 .eql 102 65,
  Mv 104 103,
  Gt 104 (Fa 105 1 12),
  Gt 104 (Ld 106 105),
  Gt 104 (Ln 107 0 106),
  Gt 104 (Bc 108 .eql 107 4),
  Pa 109 104 108]
def f200x21 : List AOper := [
  Fa 111 1 12,
  Ld 112 111,
  Ca 113 110 [(.t 112), (.c (.int .i64 0)), (.c (.int .i64 4))],
  Mv 110 113,
  Ex 114 110 0,
  Ex 115 110 1,
  Mv 13 114,
  Mv 14 115]
def f200x22 : List AOper := [
  Mv 116 13,
  Cv 117 .i64 116,
  Fa 118 2 6,
  St 1 118 117]
def f200x23 : List AOper := [
  Bc 119 .add 97 1,
  Mv 97 119]
def f200x24L : ACode := (.seq (.region f200x18 false) (.seq (.cond (.t 98) .skip (.exit 0)) (.seq (.block 1 (.seq (.region f200x19 false) (.seq (.region f200x20 false) (.cond (.t 109) (.seq (.region f200x21 false) (.seq (.region f200x22 false) (.exit 0))) .skip)))) (.region f200x23 false))))
def f200x25 : List AOper := [
  Mv 120 7,
  Fa 121 2 6,
  Ld 122 121,
  Ct 123 204 [122],
  Bi 124 .neq 120 123]
def f200x26 : List AOper := [
  Op 125 (.build [.int .i64 0, .int .i64 0, .int .i64 0, .int .i64 0, .int .u32 0, .con (.slice none 0 0), .con (.slice none 0 0), .int .i64 0, .con (.slice none 0 0), .int .u32 0, .bool false, .int .i64 0, .bool false, .int .i64 0, .bool false, .bool false, .int .i64 0, .int .u32 0, .con (.slice none 0 0), .bool false, .int .u32 0, .con (.slice none 0 0), .con (.slice none 0 0), .con (.slice none 0 0), .int .i64 0, .int .i64 0, .con (.slice none 0 0)] [] []),
  Ca 126 198 [(.c (.int .i64 2)), (.c (.int .i64 2)), (.c (.con (.slice none 0 0)))],
  St 27 2 125,
  St 27 3 126,
  Mc 4 (.int .i64 14)]
def f200x27 : List AOper := [
  Ls 127 27 6,
  Ct 128 144 [127],
  Mv 15 128]
def f200x28 : List AOper := [
  Mv 129 15,
  Bc 130 .eql 129 0]
def f200x29 : List AOper := [
  Ls 131 27 6,
  Op 132 (.build [.int .i64 0, .int .i64 0, .int .i64 0, .int .i64 0, .int .u32 0, .con (.slice none 0 0), .con (.slice none 0 0), .int .i64 0, .con (.slice none 0 0), .int .u32 0, .bool false, .int .i64 0, .bool false, .int .i64 0, .bool false, .bool false, .int .i64 0, .int .u32 0, .con (.slice none 0 0), .bool false, .int .u32 0, .con (.slice none 0 0), .con (.slice none 0 0), .con (.slice none 0 0), .int .i64 0, .int .i64 0, .con (.slice none 0 0)] [] []),
  St 27 2 131,
  St 27 3 132,
  Mc 4 (.int .i64 0)]
def f200x30 : List AOper := [
  Mc 16 (.int .i64 4)]
def f200x31 : List AOper := [
  Fa 134 2 6,
  Ld 135 134,
  Bc 136 .lss 135 1,
  Mv 137 136,
  Gf 137 (Fa 138 2 6),
  Gf 137 (Ld 139 138),
  Gf 137 (Bc 140 .gtr 139 4294967295),
  Po 141 137 140,
  Mv 133 141]
def f200x32 : List AOper := [
  Mc 16 (.int .i64 2)]
def f200x33 : List AOper := [
  Mv 143 15,
  Bc 144 .eql 143 21,
  Mv 142 144]
def f200x34 : List AOper := [
  Mc 16 (.int .i64 6)]
def f200x35 : List AOper := [
  Fa 146 4 6,
  Ld 147 146,
  Op 148 (.bin .eql (.t 147) (.c (.int .u32 0))),
  Mv 145 148]
def f200x36 : List AOper := [
  Mc 16 (.int .i64 3)]
def f200x37 : List AOper := [
  Op 149 (.build [.int .i64 0, .int .i64 0, .int .i64 0, .int .i64 0, .int .u32 0, .con (.slice none 0 0), .con (.slice none 0 0), .int .i64 0, .con (.slice none 0 0), .int .u32 0, .bool false, .int .i64 0, .bool false, .int .i64 0, .bool false, .bool false, .int .i64 0, .int .u32 0, .con (.slice none 0 0), .bool false, .int .u32 0, .con (.slice none 0 0), .con (.slice none 0 0), .con (.slice none 0 0), .int .i64 0, .int .i64 0, .con (.slice none 0 0)] [] []),
  Mv 150 16,
  Ca 151 198 [(.c (.int .i64 2)), (.t 150), (.c (.con (.slice none 0 0)))],
  Mv 152 15,
  St 27 2 149,
  St 27 3 151,
  Mv 4 152]
def f200 : AFunc := ⟨153, 1, false, [.cell 2 (some 27), .cell 3 (some 27), .t 4], (.seq (.region f200x0 false) (.seq (.region f200x1 false) (.seq (.region f200x2 false) (.seq (.seq (.region f200x3 false) (.cond (.t 25) (.seq (.region f200x4 false) .ret) .skip)) (.seq (.region f200x5 false) (.seq (.region f200x6 false) (.seq (.region f200x7 false) (.seq (.region f200x8 false) (.seq (.region f200x9 false) (.seq (.region f200x10 false) (.seq (.seq (.region f200x11 false) (.cond (.t 53) (.seq (.region f200x12 false) (.seq (.region f200x13 false) (.region f200x14 false))) .skip)) (.seq (.seq (.region f200x15 false) (.cond (.t 91) (.seq (.region f200x16 false) .ret) .skip)) (.seq (.seq (.region f200x17 false) (.block 0 (.loop f200x24L))) (.seq (.seq (.region f200x25 false) (.cond (.t 124) (.seq (.region f200x26 false) .ret) .skip)) (.seq (.region f200x27 false) (.seq (.seq (.region f200x28 false) (.cond (.t 130) (.seq (.region f200x29 false) .ret) .skip)) (.seq (.region f200x30 false) (.seq (.block 2 (.seq (.region f200x31 false) (.cond (.t 133) (.region f200x32 false) (.seq (.region f200x33 false) (.cond (.t 142) (.region f200x34 false) (.seq (.region f200x35 false) (.cond (.t 145) (.region f200x36 false) .skip))))))) (.seq (.region f200x37 false) .ret)))))))))))))))))))⟩
def f201x0 : List AOper := [
  Op 4 (.alloc (.agg [.int .i64 0, .int .i64 0, .int .i64 0, .int .i64 0, .int .u32 0, .con (.slice none 0 0), .con (.slice none 0 0), .int .i64 0, .con (.slice none 0 0), .int .u32 0, .bool false, .int .i64 0, .bool false, .int .i64 0, .bool false, .bool false, .int .i64 0, .int .u32 0, .con (.slice none 0 0), .bool false, .int .u32 0, .con (.slice none 0 0), .con (.slice none 0 0), .con (.slice none 0 0), .int .i64 0, .int .i64 0, .con (.slice none 0 0)])),
  Op 5 (.alloc (.agg [.int .i64 0, .int .i64 0, .int .i64 0, .int .i64 0, .int .u32 0, .con (.slice none 0 0), .con (.slice none 0 0), .int .i64 0, .con (.slice none 0 0), .int .u32 0, .bool false, .int .i64 0, .bool false, .int .i64 0, .bool false, .bool false, .int .i64 0, .int .u32 0, .con (.slice none 0 0), .bool false, .int .u32 0, .con (.slice none 0 0), .con (.slice none 0 0), .con (.slice none 0 0), .int .i64 0, .int .i64 0, .con (.slice none 0 0)])),
  Mc 6 (.int .i64 0)]
def f201x1 : List AOper := [
  Mv 16 0,
  Op 17 (.build [.con (.slice none 0 0)] [(0, 1)] [(.t 16)]),
  Op 18 (.box (.t 17)),
  Mv 7 18]
def f201x2 : List AOper := [
  Mv 19 7,
  Ca 20 206 [(.t 19), (.c (.int .i64 2))],
  Mv 8 20]
def f201x3 : List AOper := [
  Mv 21 7,
  Mv 22 8,
  Bc 23 .add 22 2,
  Ct 24 207 [21, 23],
  Un 25 .not 24]
def f201x4 : List AOper := [
  Op 26 (.build [.int .i64 0, .int .i64 0, .int .i64 0, .int .i64 0, .int .u32 0, .con (.slice none 0 0), .con (.slice none 0 0), .int .i64 0, .con (.slice none 0 0), .int .u32 0, .bool false, .int .i64 0, .bool false, .int .i64 0, .bool false, .bool false, .int .i64 0, .int .u32 0, .con (.slice none 0 0), .bool false, .int .u32 0, .con (.slice none 0 0), .con (.slice none 0 0), .con (.slice none 0 0), .int .i64 0, .int .i64 0, .con (.slice none 0 0)] [] []),
  Ca 27 198 [(.c (.int .i64 3)), (.c (.int .i64 1)), (.c (.con (.slice none 0 0)))],
  St 27 4 26,
  St 27 5 27,
  Mc 6 (.int .i64 2)]
def f201x5 : List AOper := [
  Mv 28 7,
  Mv 29 8,
  Ct 30 209 [28, 29],
  Op 31 (.build [.con (.slice none 0 0)] [(0, 1)] [(.t 30)]),
  Op 32 (.build [.con (.slice none 0 0), .con (.slice none 0 0)] [(0, 1)] [(.t 31)]),
  Op 33 (.box (.t 32)),
  Mv 9 33]
def f201x6 : List AOper := [
  Mv 34 7,
  Ca 35 206 [(.t 34), (.c (.int .i64 2))],
  Mv 8 35]
def f201x7 : List AOper := [
  Mv 36 7,
  Mv 37 8,
  Ct 38 207 [36, 37],
  Un 39 .not 38]
def f201x8 : List AOper := [
  Op 40 (.build [.int .i64 0, .int .i64 0, .int .i64 0, .int .i64 0, .int .u32 0, .con (.slice none 0 0), .con (.slice none 0 0), .int .i64 0, .con (.slice none 0 0), .int .u32 0, .bool false, .int .i64 0, .bool false, .int .i64 0, .bool false, .bool false, .int .i64 0, .int .u32 0, .con (.slice none 0 0), .bool false, .int .u32 0, .con (.slice none 0 0), .con (.slice none 0 0), .con (.slice none 0 0), .int .i64 0, .int .i64 0, .con (.slice none 0 0)] [] []),
  Ca 41 198 [(.c (.int .i64 3)), (.c (.int .i64 1)), (.c (.con (.slice none 0 0)))],
  St 27 4 40,
  St 27 5 41,
  Mc 6 (.int .i64 2)]
def f201x9 : List AOper := [
  Mv 42 7,
  Mv 43 8,
  Ct 44 209 [42, 43],
  Mv 10 44]
def f201x10 : List AOper := [
  Mv 45 7,
  Nc 46 45,
  Ls 47 1 46,
  Op 48 (.build [.con (.slice none 0 0), .con (.slice none 0 0)] [(0, 1)] [(.t 47)]),
  Op 49 (.box (.t 48)),
  Mv 11 49]
def f201x11 : List AOper := [
  Mv 50 9,
  Ct 51 210 [50],
  Un 52 .not 51,
  Mv 53 52,
  Gf 53 (Mv 54 11),
  Gf 53 (Ct 55 210 [54]),
  Gf 53 (Un 56 .not 55),
  Po 57 53 56]
def f201x12 : List AOper := [
  Op 58 (.build [.int .i64 0, .int .i64 0, .int .i64 0, .int .i64 0, .int .u32 0, .con (.slice none 0 0), .con (.slice none 0 0), .int .i64 0, .con (.slice none 0 0), .int .u32 0, .bool false, .int .i64 0, .bool false, .int .i64 0, .bool false, .bool false, .int .i64 0, .int .u32 0, .con (.slice none 0 0), .bool false, .int .u32 0, .con (.slice none 0 0), .con (.slice none 0 0), .con (.slice none 0 0), .int .i64 0, .int .i64 0, .con (.slice none 0 0)] [] []),
  Ca 59 198 [(.c (.int .i64 3)), (.c (.int .i64 10)), (.c (.con (.slice none 0 0)))],
  St 27 4 58,
  St 27 5 59,
  Mc 6 (.int .i64 2)]
def f201x13 : List AOper := [
  Mv 60 9,
  Nc 61 60,
  Fa 62 1 61,
  Ld 63 62,
  Mv 64 11,
  Nc 65 64,
  Fa 66 1 65,
  Ld 67 66,
  Op 68 (.build [.int .i64 0, .int .i64 0, .int .i64 0, .int .i64 0, .int .u32 0, .con (.slice none 0 0), .con (.slice none 0 0), .int .i64 0, .con (.slice none 0 0), .int .u32 0, .bool false, .int .i64 0, .bool false, .int .i64 0, .bool false, .bool false, .int .i64 0, .int .u32 0, .con (.slice none 0 0), .bool false, .int .u32 0, .con (.slice none 0 0), .con (.slice none 0 0), .con (.slice none 0 0), .int .i64 0, .int .i64 0, .con (.slice none 0 0)] [(0, 1), (6, 1), (23, 1)] [(.c (.int .i64 2)), (.t 63), (.t 67)]),
  Op 12 (.alloc (.agg [.int .i64 0, .int .i64 0, .int .i64 0, .int .i64 0, .int .u32 0, .con (.slice none 0 0), .con (.slice none 0 0), .int .i64 0, .con (.slice none 0 0), .int .u32 0, .bool false, .int .i64 0, .bool false, .int .i64 0, .bool false, .bool false, .int .i64 0, .int .u32 0, .con (.slice none 0 0), .bool false, .int .u32 0, .con (.slice none 0 0), .con (.slice none 0 0), .con (.slice none 0 0), .int .i64 0, .int .i64 0, .con (.slice none 0 0)])),
  Af [9, 3, 7] (St 27 12 68)]
def f201x14 : List AOper := [
  Mv 69 10,
  Ln 70 0 69,
  Bc 71 .gtr 70 0,
  Mv 72 71,
  Gf 72 (Fa 73 23 12),
  Gf 72 (Ld 74 73),
  Gf 72 (Ln 75 0 74),
  Gf 72 (Bc 76 .gtr 75 0),
  Po 77 72 76]
def f201x15 : List AOper := [
  Mv 79 10,
  Mv 80 1,
  Ct 81 69 [79, 80],
  Mv 78 81,
  Ex 82 78 0,
  Ex 83 78 1,
  Op 13 (.alloc (.agg [.int .i64 0, .con (.slice none 0 0), .int .u32 0, .bool false, .int .i64 0, .bool false, .int .i64 0, .bool false, .bool false, .int .i64 0, .int .u32 0, .con (.slice none 0 0), .bool false, .int .u32 0, .con (.slice none 0 0), .con (.slice none 0 0)])),
  St 16 13 82,
  Mv 14 83]
def f201x16 : List AOper := [
  Mv 84 14,
  Bc 85 .eql 84 6]
def f201x17 : List AOper := [
  Op 86 (.build [.int .i64 0, .int .i64 0, .int .i64 0, .int .i64 0, .int .u32 0, .con (.slice none 0 0), .con (.slice none 0 0), .int .i64 0, .con (.slice none 0 0), .int .u32 0, .bool false, .int .i64 0, .bool false, .int .i64 0, .bool false, .bool false, .int .i64 0, .int .u32 0, .con (.slice none 0 0), .bool false, .int .u32 0, .con (.slice none 0 0), .con (.slice none 0 0), .con (.slice none 0 0), .int .i64 0, .int .i64 0, .con (.slice none 0 0)] [] []),
  Ca 87 198 [(.c (.int .i64 3)), (.c (.int .i64 3)), (.c (.con (.slice none 0 0)))],
  Mv 88 14,
  St 27 4 86,
  St 27 5 87,
  Mv 6 88]
def f201x18 : List AOper := [
  Mv 89 14,
  Bc 90 .neq 89 0]
def f201x19 : List AOper := [
  Op 91 (.build [.int .i64 0, .int .i64 0, .int .i64 0, .int .i64 0, .int .u32 0, .con (.slice none 0 0), .con (.slice none 0 0), .int .i64 0, .con (.slice none 0 0), .int .u32 0, .bool false, .int .i64 0, .bool false, .int .i64 0, .bool false, .bool false, .int .i64 0, .int .u32 0, .con (.slice none 0 0), .bool false, .int .u32 0, .con (.slice none 0 0), .con (.slice none 0 0), .con (.slice none 0 0), .int .i64 0, .int .i64 0, .con (.slice none 0 0)] [] []),
  Ca 92 198 [(.c (.int .i64 3)), (.c (.int .i64 1)), (.c (.con (.slice none 0 0)))],
  Mv 93 14,
  St 27 4 91,
  St 27 5 92,
  Mv 6 93]
def f201x20 : List AOper := [
  Ls 94 16 13,
  Fa 95 7 12,
  St 16 95 94]
def f201x21 : List AOper := [
  Mv 96 10,
  Ln 97 0 96,
  Bc 98 .gtr 97 0,
  Mv 99 98,
  Gt 99 (Fa 100 23 12),
  Gt 99 (Ld 101 100),
  Gt 99 (Ln 102 0 101),
  Gt 99 (Bc 103 .eql 102 0),
  Pa 104 99 103]
def f201x22 : List AOper := [
  Op 105 (.build [.int .i64 0, .int .i64 0, .int .i64 0, .int .i64 0, .int .u32 0, .con (.slice none 0 0), .con (.slice none 0 0), .int .i64 0, .con (.slice none 0 0), .int .u32 0, .bool false, .int .i64 0, .bool false, .int .i64 0, .bool false, .bool false, .int .i64 0, .int .u32 0, .con (.slice none 0 0), .bool false, .int .u32 0, .con (.slice none 0 0), .con (.slice none 0 0), .con (.slice none 0 0), .int .i64 0, .int .i64 0, .con (.slice none 0 0)] [] []),
  Ca 106 198 [(.c (.int .i64 3)), (.c (.int .i64 1)), (.c (.con (.slice none 0 0)))],
  St 27 4 105,
  St 27 5 106,
  Mc 6 (.int .i64 2)]
def f201x23 : List AOper := [
  Ls 107 27 12,
  Ct 108 144 [107],
  Mv 15 108]
def f201x24 : List AOper := [
  Mv 109 15,
  Bc 110 .neq 109 0]
def f201x25 : List AOper := [
  Op 111 (.build [.int .i64 0, .int .i64 0, .int .i64 0, .int .i64 0, .int .u32 0, .con (.slice none 0 0), .con (.slice none 0 0), .int .i64 0, .con (.slice none 0 0), .int .u32 0, .bool false, .int .i64 0, .bool false, .int .i64 0, .bool false, .bool false, .int .i64 0, .int .u32 0, .con (.slice none 0 0), .bool false, .int .u32 0, .con (.slice none 0 0), .con (.slice none 0 0), .con (.slice none 0 0), .int .i64 0, .int .i64 0, .con (.slice none 0 0)] [] []),
  Ca 112 198 [(.c (.int .i64 3)), (.c (.int .i64 10)), (.c (.con (.slice none 0 0)))],
  Mv 113 15,
  St 27 4 111,
  St 27 5 112,
  Mv 6 113]
def f201x26 : List AOper := [
  Ls 114 27 12,
  Op 115 (.build [.int .i64 0, .int .i64 0, .int .i64 0, .int .i64 0, .int .u32 0, .con (.slice none 0 0), .con (.slice none 0 0), .int .i64 0, .con (.slice none 0 0), .int .u32 0, .bool false, .int .i64 0, .bool false, .int .i64 0, .bool false, .bool false, .int .i64 0, .int .u32 0, .con (.slice none 0 0), .bool false, .int .u32 0, .con (.slice none 0 0), .con (.slice none 0 0), .con (.slice none 0 0), .int .i64 0, .int .i64 0, .con (.slice none 0 0)] [] []),
  St 27 4 114,
  St 27 5 115,
  Mc 6 (.int .i64 0)]
def f201 : AFunc := ⟨116, 2, false, [.cell 4 (some 27), .cell 5 (some 27), .t 6], (.seq (.region f201x0 false) (.seq (.region f201x1 false) (.seq (.region f201x2 false) (.seq (.seq (.region f201x3 false) (.cond (.t 25) (.seq (.region f201x4 false) .ret) .skip)) (.seq (.region f201x5 false) (.seq (.region f201x6 false) (.seq (.seq (.region f201x7 false) (.cond (.t 39) (.seq (.region f201x8 false) .ret) .skip)) (.seq (.region f201x9 false) (.seq (.region f201x10 false) (.seq (.seq (.region f201x11 false) (.cond (.t 57) (.seq (.region f201x12 false) .ret) .skip)) (.seq (.region f201x13 true) (.seq (.seq (.region f201x14 false) (.cond (.t 77) (.seq (.region f201x15 false) (.seq (.seq (.region f201x16 false) (.cond (.t 85) (.seq (.region f201x17 false) .ret) .skip)) (.seq (.seq (.region f201x18 false) (.cond (.t 90) (.seq (.region f201x19 false) .ret) .skip)) (.region f201x20 false)))) .skip)) (.seq (.seq (.region f201x21 false) (.cond (.t 104) (.seq (.region f201x22 false) .ret) .skip)) (.seq (.seq (.region f201x23 false) (.seq (.region f201x24 false) (.cond (.t 110) (.seq (.region f201x25 false) .ret) .skip))) (.seq (.region f201x26 false) .ret)))))))))))))))⟩
def f359x0 : List AOper := [
  Op 6 (.alloc (.agg [.int .i64 0, .int .i64 0, .int .i64 0, .int .i64 0, .int .u32 0, .con (.slice none 0 0), .con (.slice none 0 0), .int .i64 0, .con (.slice none 0 0), .int .u32 0, .bool false, .int .i64 0, .bool false, .int .i64 0, .bool false, .bool false, .int .i64 0, .int .u32 0, .con (.slice none 0 0), .bool false, .int .u32 0, .con (.slice none 0 0), .con (.slice none 0 0), .con (.slice none 0 0), .int .i64 0, .int .i64 0, .con (.slice none 0 0)]))]
def f359x1 : List AOper := [
  Mv 7 0,
  Mv 8 1,
  Op 9 (.bsl 1 [.int .u8 0] 0 [] []),
  Mv 10 2,
  Ap 11 1 1 9 10,
  Op 12 (.build [.int .i64 0, .int .i64 0, .int .i64 0, .int .i64 0, .int .u32 0, .con (.slice none 0 0), .con (.slice none 0 0), .int .i64 0, .con (.slice none 0 0), .int .u32 0, .bool false, .int .i64 0, .bool false, .int .i64 0, .bool false, .bool false, .int .i64 0, .int .u32 0, .con (.slice none 0 0), .bool false, .int .u32 0, .con (.slice none 0 0), .con (.slice none 0 0), .con (.slice none 0 0), .int .i64 0, .int .i64 0, .con (.slice none 0 0)] [(0, 1), (24, 1), (25, 1), (26, 1)] [(.c (.int .i64 3)), (.t 7), (.t 8), (.t 11)]),
  St 27 6 12]
def f359 : AFunc := ⟨13, 3, false, [.cell 6 (some 27)], (.seq (.region f359x0 false) (.seq (.region f359x1 false) .ret))⟩
def f360x0 : List AOper := [
  Mc 6 (.int .i64 0)]
def f360x1 : List AOper := [
  Mv 10 0,
  Mv 11 1,
  Mv 12 2,
  Ct 13 113 [10, 11, 12],
  Mv 9 13,
  Ex 14 9 0,
  Ex 15 9 1,
  Mv 7 14,
  Mv 8 15]
def f360x2 : List AOper := [
  Mv 16 7,
  Cv 17 .i64 16,
  Mv 6 17]
def f360 : AFunc := ⟨18, 3, false, [.t 6], (.seq (.region f360x0 false) (.seq (.region f360x1 false) (.seq (.region f360x2 false) .ret)))⟩
def f361x0 : List AOper := [
  Mc 2 (.int .i64 0)]
def f361x1 : List AOper := [
  Mv 3 0]
def f361x2 : List AOper := [
  Bc 5 .eql 3 1,
  Mv 4 5]
def f361x3 : List AOper := [
  Mc 2 (.int .i64 29)]
def f361x4 : List AOper := [
  Bc 7 .eql 3 2,
  Mv 6 7]
def f361x5 : List AOper := [
  Bc 8 .eql 3 5,
  Mv 6 8]
def f361x6 : List AOper := [
  Mc 2 (.int .i64 23)]
def f361x7 : List AOper := [
  Bc 10 .eql 3 3,
  Mv 9 10]
def f361x8 : List AOper := [
  Mc 2 (.int .i64 21)]
def f361x9 : List AOper := [
  Mc 2 (.int .i64 19)]
def f361 : AFunc := ⟨11, 1, false, [.t 2], (.seq (.region f361x0 false) (.seq (.seq (.region f361x1 false) (.block 0 (.seq (.region f361x2 false) (.cond (.t 4) (.seq (.region f361x3 false) .ret) (.seq (.seq (.region f361x4 false) (.cond (.t 6) .skip (.region f361x5 false))) (.cond (.t 6) (.seq (.region f361x6 false) .ret) (.seq (.region f361x7 false) (.cond (.t 9) (.seq (.region f361x8 false) .ret) .skip)))))))) (.seq (.region f361x9 false) .ret)))⟩
def f362x0 : List AOper := [
  Op 2 (.alloc (.agg [.int .i64 0, .int .i64 0, .int .i64 0, .int .i64 0, .int .u32 0, .con (.slice none 0 0), .con (.slice none 0 0), .int .i64 0, .con (.slice none 0 0), .int .u32 0, .bool false, .int .i64 0, .bool false, .int .i64 0, .bool false, .bool false, .int .i64 0, .int .u32 0, .con (.slice none 0 0), .bool false, .int .u32 0, .con (.slice none 0 0), .con (.slice none 0 0), .con (.slice none 0 0), .int .i64 0, .int .i64 0, .con (.slice none 0 0)])),
  Op 3 (.alloc (.agg [.int .i64 0, .int .i64 0, .int .i64 0, .int .i64 0, .int .u32 0, .con (.slice none 0 0), .con (.slice none 0 0), .int .i64 0, .con (.slice none 0 0), .int .u32 0, .bool false, .int .i64 0, .bool false, .int .i64 0, .bool false, .bool false, .int .i64 0, .int .u32 0, .con (.slice none 0 0), .bool false, .int .u32 0, .con (.slice none 0 0), .con (.slice none 0 0), .con (.slice none 0 0), .int .i64 0, .int .i64 0, .con (.slice none 0 0)])),
  Mc 4 (.int .i64 0)]
def f362x1 : List AOper := [
  Op 13 (.build [.int .i64 0, .int .i64 0, .int .i64 0, .int .i64 0, .int .u32 0, .con (.slice none 0 0), .con (.slice none 0 0), .int .i64 0, .con (.slice none 0 0), .int .u32 0, .bool false, .int .i64 0, .bool false, .int .i64 0, .bool false, .bool false, .int .i64 0, .int .u32 0, .con (.slice none 0 0), .bool false, .int .u32 0, .con (.slice none 0 0), .con (.slice none 0 0), .con (.slice none 0 0), .int .i64 0, .int .i64 0, .con (.slice none 0 0)] [] []),
  Op 5 (.alloc (.agg [.int .i64 0, .int .i64 0, .int .i64 0, .int .i64 0, .int .u32 0, .con (.slice none 0 0), .con (.slice none 0 0), .int .i64 0, .con (.slice none 0 0), .int .u32 0, .bool false, .int .i64 0, .bool false, .int .i64 0, .bool false, .bool false, .int .i64 0, .int .u32 0, .con (.slice none 0 0), .bool false, .int .u32 0, .con (.slice none 0 0), .con (.slice none 0 0), .con (.slice none 0 0), .int .i64 0, .int .i64 0, .con (.slice none 0 0)])),
  St 27 5 13]
def f362x2 : List AOper := [
  Mv 14 0,
  Op 15 (.iadr 1 (.t 14) (.c (.int .i64 19))),
  Ld 16 15,
  Op 17 (.bin .neq (.t 16) (.c (.int .u8 4)))]
def f362x3 : List AOper := [
  Ls 18 27 5,
  Op 19 (.bsl 1 [.int .u8 0] 2 [0, 1] [(.c (.int .u8 0)), (.c (.int .u8 4))]),
  Af [1] (Ca 20 359 [(.c (.int .i64 2)), (.c (.int .i64 1)), (.t 19)]),
  Af [2, 0, 1] (St 27 2 18),
  Af [3, 2, 0, 1] (St 27 3 20),
  Mc 4 (.int .i64 12)]
def f362x4 : List AOper := [
  Mv 22 0,
  Op 23 (.slc 1 (.t 22) (some (.c (.int .i64 28))) none none),
  Ct 24 366 [23],
  Mv 21 24,
  Ex 25 21 0,
  Ex 26 21 1,
  Mv 6 25,
  Mv 7 26]
def f362x5 : List AOper := [
  Mv 27 7,
  Un 28 .not 27]
def f362x6 : List AOper := [
  Ls 29 27 5,
  Ca 30 359 [(.c (.int .i64 2)), (.c (.int .i64 4)), (.c (.con (.slice none 0 0)))],
  Af [1, 0] (St 27 2 29),
  Af [2, 1, 0] (St 27 3 30),
  Mc 4 (.int .i64 2)]
def f362x7 : List AOper := [
  Mv 31 0,
  Ca 32 360 [(.t 31), (.c (.int .i64 20)), (.c (.int .i64 2))],
  Mv 8 32]
def f362x8 : List AOper := [
  Mv 33 8,
  Mv 34 0,
  Ca 35 360 [(.t 34), (.c (.int .i64 22)), (.c (.int .i64 2))],
  Mv 36 0,
  Ca 37 360 [(.t 36), (.c (.int .i64 24)), (.c (.int .i64 4))],
  Cv 38 .u32 37,
  Mv 39 6,
  Op 40 (.build [.int .i64 0, .int .i64 0, .int .i64 0, .int .i64 0, .int .u32 0, .con (.slice none 0 0), .con (.slice none 0 0), .int .i64 0, .con (.slice none 0 0), .int .u32 0, .bool false, .int .i64 0, .bool false, .int .i64 0, .bool false, .bool false, .int .i64 0, .int .u32 0, .con (.slice none 0 0), .bool false, .int .u32 0, .con (.slice none 0 0), .con (.slice none 0 0), .con (.slice none 0 0), .int .i64 0, .int .i64 0, .con (.slice none 0 0)] [(0, 1), (1, 1), (2, 1), (3, 1), (4, 1), (5, 1)] [(.c (.int .i64 1)), (.c (.int .i64 4)), (.t 33), (.t 35), (.t 38), (.t 39)]),
  Op 9 (.alloc (.agg [.int .i64 0, .int .i64 0, .int .i64 0, .int .i64 0, .int .u32 0, .con (.slice none 0 0), .con (.slice none 0 0), .int .i64 0, .con (.slice none 0 0), .int .u32 0, .bool false, .int .i64 0, .bool false, .int .i64 0, .bool false, .bool false, .int .i64 0, .int .u32 0, .con (.slice none 0 0), .bool false, .int .u32 0, .con (.slice none 0 0), .con (.slice none 0 0), .con (.slice none 0 0), .int .i64 0, .int .i64 0, .con (.slice none 0 0)])),
  St 27 9 40]
def f362x9 : List AOper := [
  Mv 41 6,
  Ln 42 0 41,
  Bc 43 .sub 42 1,
  Mv 10 43]
def f362x10 : List AOper := [
  Mv 44 10,
  Bc 45 .geq 44 0]
def f362x11 : List AOper := [
  Mv 48 6,
  Mv 49 10,
  Ia 50 2 48 49,
  Fa 51 0 50,
  Ld 52 51,
  Bc 53 .eql 52 65,
  Mv 54 53,
  Gt 54 (Mv 55 6),
  Gt 54 (Mv 56 10),
  Gt 54 (Ia 57 2 55 56),
  Gt 54 (Fa 58 1 57),
  Gt 54 (Ld 59 58),
  Gt 54 (Ln 60 0 59),
  Gt 54 (Bc 61 .eql 60 4),
  Pa 62 54 61]
def f362x12 : List AOper := [
  Mv 63 6,
  Mv 64 10,
  Ia 65 2 63 64,
  Fa 66 1 65,
  Ld 67 66,
  Ca 68 360 [(.t 67), (.c (.int .i64 0)), (.c (.int .i64 4))],
  Fa 69 2 9,
  St 1 69 68]
def f362x13 : List AOper := [
  Mv 46 10,
  Bc 47 .sub 46 1,
  Mv 10 47]
def f362x14L : ACode := (.seq (.seq (.region f362x10 false) (.cond (.t 45) .skip (.exit 0))) (.seq (.block 1 (.seq (.region f362x11 false) (.cond (.t 62) (.region f362x12 false) .skip))) (.region f362x13 false)))
def f362x15 : List AOper := [
  Fa 70 2 9,
  Ld 71 70,
  Mv 11 71]
def f362x16 : List AOper := [
  Mv 72 11,
  Bc 73 .gtr 72 65535]
def f362x17 : List AOper := [
  Mc 11 (.int .i64 23456)]
def f362x18 : List AOper := [
  Mv 74 8,
  Mv 75 11,
  Bi 76 .neq 74 75]
def f362x19 : List AOper := [
  Ls 77 27 5,
  Ca 78 359 [(.c (.int .i64 2)), (.c (.int .i64 2)), (.c (.con (.slice none 0 0)))],
  Af [1, 0] (St 27 2 77),
  Af [2, 1, 0] (St 27 3 78),
  Mc 4 (.int .i64 14)]
def f362x20 : List AOper := [
  Ls 79 27 9,
  Ct 80 148 [79],
  Mv 12 80]
def f362x21 : List AOper := [
  Mv 82 12,
  Bc 83 .eql 82 0,
  Mv 81 83]
def f362x22 : List AOper := [
  Ls 84 27 9,
  Ls 85 27 5,
  Mv 86 12,
  Af [0] (St 27 2 84),
  Af [1, 3, 0] (St 27 3 85),
  Mv 4 86]
def f362x23 : List AOper := [
  Fa 88 2 9,
  Ld 89 88,
  Bc 90 .lss 89 1,
  Mv 87 90]
def f362x24 : List AOper := [
  Ls 91 27 5,
  Ca 92 359 [(.c (.int .i64 2)), (.c (.int .i64 2)), (.c (.con (.slice none 0 0)))],
  Mv 93 12,
  Af [1, 0] (St 27 2 91),
  Af [3, 1, 0] (St 27 3 92),
  Mv 4 93]
def f362x25 : List AOper := [
  Mv 95 12,
  Bc 96 .eql 95 21,
  Mv 94 96]
def f362x26 : List AOper := [
  Ls 97 27 5,
  Ca 98 359 [(.c (.int .i64 2)), (.c (.int .i64 6)), (.c (.con (.slice none 0 0)))],
  Mv 99 12,
  Af [1, 0] (St 27 2 97),
  Af [3, 1, 0] (St 27 3 98),
  Mv 4 99]
def f362x27 : List AOper := [
  Fa 101 4 9,
  Ld 102 101,
  Op 103 (.bin .eql (.t 102) (.c (.int .u32 0))),
  Mv 100 103]
def f362x28 : List AOper := [
  Ls 104 27 5,
  Ca 105 359 [(.c (.int .i64 2)), (.c (.int .i64 3)), (.c (.con (.slice none 0 0)))],
  Mv 106 12,
  Af [1, 0] (St 27 2 104),
  Af [3, 1, 0] (St 27 3 105),
  Mv 4 106]
def f362x29 : List AOper := [
  Ls 107 27 5,
  Ca 108 359 [(.c (.int .i64 2)), (.c (.int .i64 4)), (.c (.con (.slice none 0 0)))],
  Mv 109 12,
  Af [1, 0] (St 27 2 107),
  Af [3, 1, 0] (St 27 3 108),
  Mv 4 109]
def f362 : AFunc := ⟨110, 1, false, [.cell 2 (some 27), .cell 3 (some 27), .t 4], (.seq (.region f362x0 false) (.seq (.region f362x1 false) (.seq (.seq (.region f362x2 false) (.cond (.t 17) (.seq (.region f362x3 true) .ret) .skip)) (.seq (.region f362x4 false) (.seq (.seq (.region f362x5 false) (.cond (.t 28) (.seq (.region f362x6 true) .ret) .skip)) (.seq (.region f362x7 false) (.seq (.region f362x8 false) (.seq (.seq (.region f362x9 false) (.block 0 (.loop f362x14L))) (.seq (.region f362x15 false) (.seq (.seq (.region f362x16 false) (.cond (.t 73) (.region f362x17 false) .skip)) (.seq (.seq (.region f362x18 false) (.cond (.t 76) (.seq (.region f362x19 true) .ret) .skip)) (.seq (.region f362x20 false) (.seq (.block 2 (.seq (.region f362x21 false) (.cond (.t 81) (.seq (.region f362x22 true) .ret) (.seq (.region f362x23 false) (.cond (.t 87) (.seq (.region f362x24 true) .ret) (.seq (.region f362x25 false) (.cond (.t 94) (.seq (.region f362x26 true) .ret) (.seq (.region f362x27 false) (.cond (.t 100) (.seq (.region f362x28 true) .ret) .skip))))))))) (.seq (.region f362x29 true) .ret))))))))))))))⟩
def f363x0 : List AOper := [
  Op 4 (.alloc (.agg [.int .i64 0, .int .i64 0, .int .i64 0, .int .i64 0, .int .u32 0, .con (.slice none 0 0), .con (.slice none 0 0), .int .i64 0, .con (.slice none 0 0), .int .u32 0, .bool false, .int .i64 0, .bool false, .int .i64 0, .bool false, .bool false, .int .i64 0, .int .u32 0, .con (.slice none 0 0), .bool false, .int .u32 0, .con (.slice none 0 0), .con (.slice none 0 0), .con (.slice none 0 0), .int .i64 0, .int .i64 0, .con (.slice none 0 0)])),
  Op 5 (.alloc (.agg [.int .i64 0, .int .i64 0, .int .i64 0, .int .i64 0, .int .u32 0, .con (.slice none 0 0), .con (.slice none 0 0), .int .i64 0, .con (.slice none 0 0), .int .u32 0, .bool false, .int .i64 0, .bool false, .int .i64 0, .bool false, .bool false, .int .i64 0, .int .u32 0, .con (.slice none 0 0), .bool false, .int .u32 0, .con (.slice none 0 0), .con (.slice none 0 0), .con (.slice none 0 0), .int .i64 0, .int .i64 0, .con (.slice none 0 0)])),
  Mc 6 (.int .i64 0)]
def f363x1 : List AOper := [
  Op 19 (.build [.int .i64 0, .int .i64 0, .int .i64 0, .int .i64 0, .int .u32 0, .con (.slice none 0 0), .con (.slice none 0 0), .int .i64 0, .con (.slice none 0 0), .int .u32 0, .bool false, .int .i64 0, .bool false, .int .i64 0, .bool false, .bool false, .int .i64 0, .int .u32 0, .con (.slice none 0 0), .bool false, .int .u32 0, .con (.slice none 0 0), .con (.slice none 0 0), .con (.slice none 0 0), .int .i64 0, .int .i64 0, .con (.slice none 0 0)] [] []),
  Op 7 (.alloc (.agg [.int .i64 0, .int .i64 0, .int .i64 0, .int .i64 0, .int .u32 0, .con (.slice none 0 0), .con (.slice none 0 0), .int .i64 0, .con (.slice none 0 0), .int .u32 0, .bool false, .int .i64 0, .bool false, .int .i64 0, .bool false, .bool false, .int .i64 0, .int .u32 0, .con (.slice none 0 0), .bool false, .int .u32 0, .con (.slice none 0 0), .con (.slice none 0 0), .con (.slice none 0 0), .int .i64 0, .int .i64 0, .con (.slice none 0 0)])),
  St 27 7 19]
def f363x2 : List AOper := [
  Ca 20 359 [(.c (.int .i64 3)), (.c (.int .i64 1)), (.c (.con (.slice none 0 0)))],
  Op 8 (.alloc (.agg [.int .i64 0, .int .i64 0, .int .i64 0, .int .i64 0, .int .u32 0, .con (.slice none 0 0), .con (.slice none 0 0), .int .i64 0, .con (.slice none 0 0), .int .u32 0, .bool false, .int .i64 0, .bool false, .int .i64 0, .bool false, .bool false, .int .i64 0, .int .u32 0, .con (.slice none 0 0), .bool false, .int .u32 0, .con (.slice none 0 0), .con (.slice none 0 0), .con (.slice none 0 0), .int .i64 0, .int .i64 0, .con (.slice none 0 0)])),
  St 27 8 20]
def f363x3 : List AOper := [
  Mv 21 0,
  Ca 22 360 [(.t 21), (.c (.int .i64 19)), (.c (.int .i64 2))],
  Mv 9 22]
def f363x4 : List AOper := [
  Mv 23 9,
  Op 24 (.bin .add (.c (.int .i64 23)) (.t 23)),
  Mv 25 0,
  Ln 26 0 25,
  Bi 27 .gtr 24 26]
def f363x5 : List AOper := [
  Ls 28 27 7,
  Ls 29 27 8,
  Af [0] (St 27 4 28),
  Af [1, 2, 0] (St 27 5 29),
  Mc 6 (.int .i64 2)]
def f363x6 : List AOper := [
  Mv 30 0,
  Mv 31 9,
  Op 32 (.bin .add (.c (.int .i64 21)) (.t 31)),
  Ca 33 360 [(.t 30), (.t 32), (.c (.int .i64 2))],
  Mv 10 33]
def f363x7 : List AOper := [
  Mv 34 9,
  Op 35 (.bin .add (.c (.int .i64 23)) (.t 34)),
  Mv 36 10,
  Bi 37 .add 35 36,
  Mv 38 0,
  Ln 39 0 38,
  Bi 40 .gtr 37 39]
def f363x8 : List AOper := [
  Ls 41 27 7,
  Ls 42 27 8,
  Af [0] (St 27 4 41),
  Af [1, 2, 0] (St 27 5 42),
  Mc 6 (.int .i64 2)]
def f363x9 : List AOper := [
  Op 43 (.build [.int .i64 0, .int .i64 0, .int .i64 0, .int .i64 0, .int .u32 0, .con (.slice none 0 0), .con (.slice none 0 0), .int .i64 0, .con (.slice none 0 0), .int .u32 0, .bool false, .int .i64 0, .bool false, .int .i64 0, .bool false, .bool false, .int .i64 0, .int .u32 0, .con (.slice none 0 0), .bool false, .int .u32 0, .con (.slice none 0 0), .con (.slice none 0 0), .con (.slice none 0 0), .int .i64 0, .int .i64 0, .con (.slice none 0 0)] [(0, 1)] [(.c (.int .i64 2))]),
  Op 11 (.alloc (.agg [.int .i64 0, .int .i64 0, .int .i64 0, .int .i64 0, .int .u32 0, .con (.slice none 0 0), .con (.slice none 0 0), .int .i64 0, .con (.slice none 0 0), .int .u32 0, .bool false, .int .i64 0, .bool false, .int .i64 0, .bool false, .bool false, .int .i64 0, .int .u32 0, .con (.slice none 0 0), .bool false, .int .u32 0, .con (.slice none 0 0), .con (.slice none 0 0), .con (.slice none 0 0), .int .i64 0, .int .i64 0, .con (.slice none 0 0)])),
  St 27 11 43]
def f363x10 : List AOper := [
  Mv 45 0,
  Mv 46 9,
  Op 47 (.bin .add (.c (.int .i64 21)) (.t 46)),
  Op 48 (.slc 1 (.t 45) (some (.c (.int .i64 21))) (some (.t 47)) none),
  Ct 49 367 [48],
  Mv 44 49,
  Ex 50 44 0,
  Ex 51 44 1,
  Mv 12 50,
  Mv 13 51]
def f363x11 : List AOper := [
  Mv 53 0,
  Mv 54 9,
  Op 55 (.bin .add (.c (.int .i64 23)) (.t 54)),
  Mv 56 10,
  Bi 57 .add 55 56,
  Op 58 (.slc 1 (.t 53) (some (.t 57)) none none),
  Ct 59 367 [58],
  Mv 52 59,
  Ex 60 52 0,
  Ex 61 52 1,
  Mv 14 60,
  Mv 15 61]
def f363x12 : List AOper := [
  Mv 62 13,
  Un 63 .not 62,
  Mv 64 63,
  Gf 64 (Mv 65 15),
  Gf 64 (Un 66 .not 65),
  Po 67 64 66]
def f363x13 : List AOper := [
  Ls 68 27 7,
  Ca 69 359 [(.c (.int .i64 3)), (.c (.int .i64 10)), (.c (.con (.slice none 0 0)))],
  Af [1, 0] (St 27 4 68),
  Af [2, 1, 0] (St 27 5 69),
  Mc 6 (.int .i64 2)]
def f363x14 : List AOper := [
  Mv 70 12,
  Fa 71 6 11,
  St 1 71 70]
def f363x15 : List AOper := [
  Mv 72 14,
  Fa 73 23 11,
  St 1 73 72]
def f363x16 : List AOper := [
  Mv 74 10,
  Bc 75 .gtr 74 0,
  Mv 76 75,
  Gf 76 (Mv 77 14),
  Gf 76 (Ln 78 0 77),
  Gf 76 (Bc 79 .gtr 78 0),
  Po 80 76 79]
def f363x17 : List AOper := [
  Mv 82 0,
  Mv 83 9,
  Op 84 (.bin .add (.c (.int .i64 23)) (.t 83)),
  Mv 85 9,
  Op 86 (.bin .add (.c (.int .i64 23)) (.t 85)),
  Mv 87 10,
  Bi 88 .add 86 87,
  Op 89 (.slc 1 (.t 82) (some (.t 84)) (some (.t 88)) none),
  Mv 90 1,
  Ct 91 71 [89, 90],
  Mv 81 91,
  Ex 92 81 0,
  Ex 93 81 1,
  Op 16 (.alloc (.agg [.int .i64 0, .con (.slice none 0 0), .int .u32 0, .bool false, .int .i64 0, .bool false, .int .i64 0, .bool false, .bool false, .int .i64 0, .int .u32 0, .con (.slice none 0 0), .bool false, .int .u32 0, .con (.slice none 0 0), .con (.slice none 0 0)])),
  St 16 16 92,
  Mv 17 93]
def f363x18 : List AOper := [
  Mv 94 17,
  Bc 95 .eql 94 6]
def f363x19 : List AOper := [
  Ls 96 27 7,
  Ca 97 359 [(.c (.int .i64 3)), (.c (.int .i64 3)), (.c (.con (.slice none 0 0)))],
  Mv 98 17,
  Af [1, 0] (St 27 4 96),
  Af [3, 1, 0] (St 27 5 97),
  Mv 6 98]
def f363x20 : List AOper := [
  Mv 99 17,
  Bc 100 .neq 99 0]
def f363x21 : List AOper := [
  Ls 101 27 7,
  Ls 102 27 8,
  Mv 103 17,
  Af [0] (St 27 4 101),
  Af [1, 3, 0] (St 27 5 102),
  Mv 6 103]
def f363x22 : List AOper := [
  Mv 104 14,
  Ln 105 0 104,
  Bc 106 .eql 105 0]
def f363x23 : List AOper := [
  Ls 107 27 7,
  Ls 108 27 8,
  Af [0] (St 27 4 107),
  Af [1, 2, 0] (St 27 5 108),
  Mc 6 (.int .i64 2)]
def f363x24 : List AOper := [
  Ls 109 16 16,
  Fa 110 7 11,
  St 16 110 109]
def f363x25 : List AOper := [
  Ls 111 27 11,
  Ct 112 148 [111],
  Mv 18 112]
def f363x26 : List AOper := [
  Mv 113 18,
  Bc 114 .neq 113 0]
def f363x27 : List AOper := [
  Ls 115 27 7,
  Ca 116 359 [(.c (.int .i64 3)), (.c (.int .i64 10)), (.c (.con (.slice none 0 0)))],
  Mv 117 18,
  Af [1, 0] (St 27 4 115),
  Af [3, 1, 0] (St 27 5 116),
  Mv 6 117]
def f363x28 : List AOper := [
  Ls 118 27 11,
  Ls 119 27 7,
  Af [0] (St 27 4 118),
  Af [1, 2, 0] (St 27 5 119),
  Mc 6 (.int .i64 0)]
def f363 : AFunc := ⟨120, 2, false, [.cell 4 (some 27), .cell 5 (some 27), .t 6], (.seq (.region f363x0 false) (.seq (.region f363x1 false) (.seq (.region f363x2 false) (.seq (.region f363x3 false) (.seq (.seq (.region f363x4 false) (.cond (.t 27) (.seq (.region f363x5 true) .ret) .skip)) (.seq (.region f363x6 false) (.seq (.seq (.region f363x7 false) (.cond (.t 40) (.seq (.region f363x8 true) .ret) .skip)) (.seq (.region f363x9 false) (.seq (.region f363x10 false) (.seq (.region f363x11 false) (.seq (.seq (.region f363x12 false) (.cond (.t 67) (.seq (.region f363x13 true) .ret) .skip)) (.seq (.region f363x14 false) (.seq (.region f363x15 false) (.seq (.seq (.region f363x16 false) (.cond (.t 80) (.seq (.region f363x17 false) (.seq (.seq (.region f363x18 false) (.cond (.t 95) (.seq (.region f363x19 true) .ret) .skip)) (.seq (.seq (.region f363x20 false) (.cond (.t 100) (.seq (.region f363x21 true) .ret) .skip)) (.seq (.seq (.region f363x22 false) (.cond (.t 106) (.seq (.region f363x23 true) .ret) .skip)) (.region f363x24 false))))) .skip)) (.seq (.seq (.region f363x25 false) (.seq (.region f363x26 false) (.cond (.t 114) (.seq (.region f363x27 true) .ret) .skip))) (.seq (.region f363x28 true) .ret))))))))))))))))⟩
def f138x0 : List AOper := [
  Mc 4 (.bool false)]
def f138x1 : List AOper := [
  Mv 6 0,
  Ln 7 0 6,
  Mv 8 1,
  Ln 9 0 8,
  Bi 10 .neq 7 9]
def f138x2 : List AOper := [
  Mc 4 (.bool false)]
def f138x3 : List AOper := [
  Mv 11 0,
  Ln 12 0 11,
  Mc 13 (.int .i64 0)]
def f138x4 : List AOper := [
  Bi 14 .lss 13 12]
def f138x5 : List AOper := [
  Mv 15 13,
  Mv 5 15]
def f138x6 : List AOper := [
  Mv 16 0,
  Mv 17 5,
  Ia 18 2 16 17,
  Fa 19 0 18,
  Af [2] (Ld 20 19),
  Mv 21 1,
  Mv 22 5,
  Ia 23 2 21 22,
  Fa 24 0 23,
  Af [7] (Ld 25 24),
  Bi 26 .neq 20 25,
  Mv 27 26,
  Gf 27 (Mv 28 0),
  Gf 27 (Mv 29 5),
  Af [4, 9, 2, 7] (Gf 27 (Ia 30 2 28 29)),
  Gf 27 (Fa 31 1 30),
  Af [14, 4, 9, 2, 7] (Gf 27 (Ld 32 31)),
  Af [16, 14, 4, 9, 2, 7] (Gf 27 (Op 33 (.b2s (.t 32)))),
  Gf 27 (Mv 34 1),
  Gf 27 (Mv 35 5),
  Af [4, 9, 2, 7] (Gf 27 (Ia 36 2 34 35)),
  Gf 27 (Fa 37 1 36),
  Af [20, 4, 9, 2, 7] (Gf 27 (Ld 38 37)),
  Af [22, 20, 4, 9, 2, 7] (Gf 27 (Op 39 (.b2s (.t 38)))),
  Gf 27 (Bi 40 .neq 33 39),
  Po 41 27 40]
def f138x7 : List AOper := [
  Mc 4 (.bool false)]
def f138x8 : List AOper := [
  Bc 42 .add 13 1,
  Mv 13 42]
def f138x9L : ACode := (.seq (.region f138x4 false) (.seq (.cond (.t 14) .skip (.exit 0)) (.seq (.block 1 (.seq (.region f138x5 false) (.seq (.region f138x6 true) (.cond (.t 41) (.seq (.region f138x7 false) .ret) .skip)))) (.region f138x8 false))))
def f138x10 : List AOper := [
  Mc 4 (.bool true)]
def f138 : AFunc := ⟨43, 2, false, [.t 4], (.seq (.region f138x0 false) (.seq (.seq (.region f138x1 false) (.cond (.t 10) (.seq (.region f138x2 false) .ret) .skip)) (.seq (.seq (.region f138x3 false) (.block 0 (.loop f138x9L))) (.seq (.region f138x10 false) .ret))))⟩
def f139x0 : List AOper := [
  Mc 4 (.bool false)]
def f139x1 : List AOper := [
  Mv 6 0,
  Ln 7 0 6,
  Mv 8 1,
  Ln 9 0 8,
  Bi 10 .neq 7 9]
def f139x2 : List AOper := [
  Mc 4 (.bool false)]
def f139x3 : List AOper := [
  Mv 11 0,
  Ln 12 0 11,
  Mc 13 (.int .i64 0)]
def f139x4 : List AOper := [
  Bi 14 .lss 13 12]
def f139x5 : List AOper := [
  Mv 15 13,
  Mv 5 15]
def f139x6 : List AOper := [
  Mv 16 0,
  Mv 17 5,
  Ia 18 2 16 17,
  Af [2] (Ls 19 2 18),
  Mv 20 1,
  Mv 21 5,
  Ia 22 2 20 21,
  Af [6] (Ls 23 2 22),
  Op 24 (.eqs [.int, .int] true (.t 19) (.t 23))]
def f139x7 : List AOper := [
  Mc 4 (.bool false)]
def f139x8 : List AOper := [
  Bc 25 .add 13 1,
  Mv 13 25]
def f139x9L : ACode := (.seq (.region f139x4 false) (.seq (.cond (.t 14) .skip (.exit 0)) (.seq (.block 1 (.seq (.region f139x5 false) (.seq (.region f139x6 true) (.cond (.t 24) (.seq (.region f139x7 false) .ret) .skip)))) (.region f139x8 false))))
def f139x10 : List AOper := [
  Mc 4 (.bool true)]
def f139 : AFunc := ⟨26, 2, false, [.t 4], (.seq (.region f139x0 false) (.seq (.seq (.region f139x1 false) (.cond (.t 10) (.seq (.region f139x2 false) .ret) .skip)) (.seq (.seq (.region f139x3 false) (.block 0 (.loop f139x9L))) (.seq (.region f139x10 false) .ret))))⟩
def f70x0 : List AOper := [
  Op 2 (.box (.t 0)),
  Op 3 (.box (.t 1)),
  Mc 4 (.bool false)]
def f70x1 : List AOper := [
  Fa 6 0 2,
  Ld 7 6,
  Fa 8 0 3,
  Ld 9 8,
  Bi 10 .neq 7 9,
  Mv 11 10,
  Gf 11 (Fa 12 1 2),
  Gf 11 (Ld 13 12),
  Gf 11 (Fa 14 1 3),
  Gf 11 (Ld 15 14),
  Gf 11 (Ct 16 97 [13, 15]),
  Gf 11 (Un 17 .not 16),
  Po 18 11 17,
  Mv 19 18,
  Gf 19 (Fa 20 2 2),
  Gf 19 (Ld 21 20),
  Gf 19 (Fa 22 2 3),
  Gf 19 (Ld 23 22),
  Gf 19 (Bi 24 .neq 21 23),
  Po 25 19 24,
  Mv 26 25,
  Gf 26 (Fa 27 3 2),
  Gf 26 (Ld 28 27),
  Gf 26 (Fa 29 3 3),
  Gf 26 (Ld 30 29),
  Gf 26 (Op 31 (.eqb true (.t 28) (.t 30))),
  Po 32 26 31,
  Mv 33 32,
  Gf 33 (Fa 34 4 2),
  Gf 33 (Ld 35 34),
  Gf 33 (Fa 36 4 3),
  Gf 33 (Ld 37 36),
  Gf 33 (Bi 38 .neq 35 37),
  Po 39 33 38,
  Mv 40 39,
  Gf 40 (Fa 41 5 2),
  Gf 40 (Ld 42 41),
  Gf 40 (Fa 43 5 3),
  Gf 40 (Ld 44 43),
  Gf 40 (Op 45 (.eqb true (.t 42) (.t 44))),
  Po 46 40 45,
  Mv 47 46,
  Gf 47 (Fa 48 6 2),
  Gf 47 (Ld 49 48),
  Gf 47 (Fa 50 6 3),
  Gf 47 (Ld 51 50),
  Gf 47 (Bi 52 .neq 49 51),
  Po 53 47 52,
  Mv 54 53,
  Gf 54 (Fa 55 7 2),
  Gf 54 (Ld 56 55),
  Gf 54 (Fa 57 7 3),
  Gf 54 (Ld 58 57),
  Gf 54 (Op 59 (.eqb true (.t 56) (.t 58))),
  Po 60 54 59]
def f70x2 : List AOper := [
  Mc 4 (.bool false)]
def f70x3 : List AOper := [
  Fa 61 8 2,
  Ld 62 61,
  Fa 63 8 3,
  Ld 64 63,
  Op 65 (.eqb true (.t 62) (.t 64)),
  Mv 66 65,
  Gf 66 (Fa 67 9 2),
  Gf 66 (Ld 68 67),
  Gf 66 (Fa 69 9 3),
  Gf 66 (Ld 70 69),
  Gf 66 (Bi 71 .neq 68 70),
  Po 72 66 71,
  Mv 73 72,
  Gf 73 (Fa 74 10 2),
  Gf 73 (Ld 75 74),
  Gf 73 (Fa 76 10 3),
  Gf 73 (Ld 77 76),
  Gf 73 (Bi 78 .neq 75 77),
  Po 79 73 78,
  Mv 80 79,
  Gf 80 (Fa 81 12 2),
  Gf 80 (Ld 82 81),
  Gf 80 (Fa 83 12 3),
  Gf 80 (Ld 84 83),
  Gf 80 (Op 85 (.eqb true (.t 82) (.t 84))),
  Po 86 80 85,
  Mv 87 86,
  Gf 87 (Fa 88 13 2),
  Gf 87 (Ld 89 88),
  Gf 87 (Fa 90 13 3),
  Gf 87 (Ld 91 90),
  Gf 87 (Bi 92 .neq 89 91),
  Po 93 87 92,
  Mv 94 93,
  Gf 94 (Fa 95 15 2),
  Gf 94 (Ld 96 95),
  Gf 94 (Ln 97 0 96),
  Gf 94 (Fa 98 15 3),
  Gf 94 (Ld 99 98),
  Gf 94 (Ln 100 0 99),
  Gf 94 (Bi 101 .neq 97 100),
  Po 102 94 101]
def f70x4 : List AOper := [
  Mc 4 (.bool false)]
def f70x5 : List AOper := [
  Fa 103 15 2,
  Ld 104 103,
  Ln 105 0 104,
  Mc 106 (.int .i64 0)]
def f70x6 : List AOper := [
  Bi 107 .lss 106 105]
def f70x7 : List AOper := [
  Mv 108 106,
  Mv 5 108]
def f70x8 : List AOper := [
  Fa 109 15 2,
  Ld 110 109,
  Mv 111 5,
  Af [1] (Ia 112 2 110 111),
  Fa 113 0 112,
  Af [3, 1] (Ld 114 113),
  Fa 115 15 3,
  Ld 116 115,
  Mv 117 5,
  Af [7] (Ia 118 2 116 117),
  Fa 119 0 118,
  Af [9, 7] (Ld 120 119),
  Bi 121 .neq 114 120,
  Mv 122 121,
  Gf 122 (Fa 123 15 2),
  Af [5, 11, 3, 1, 9, 7] (Gf 122 (Ld 124 123)),
  Gf 122 (Mv 125 5),
  Af [15, 5, 11, 3, 1, 9, 7] (Gf 122 (Ia 126 2 124 125)),
  Gf 122 (Fa 127 1 126),
  Af [17, 15, 5, 11, 3, 1, 9, 7] (Gf 122 (Ld 128 127)),
  Gf 122 (Fa 129 15 3),
  Af [5, 11, 3, 1, 9, 7] (Gf 122 (Ld 130 129)),
  Gf 122 (Mv 131 5),
  Af [21, 5, 11, 3, 1, 9, 7] (Gf 122 (Ia 132 2 130 131)),
  Gf 122 (Fa 133 1 132),
  Af [23, 21, 5, 11, 3, 1, 9, 7] (Gf 122 (Ld 134 133)),
  Af [19, 25, 17, 15, 23, 21, 5, 11, 3, 1, 9, 7] (Gf 122 (Ct 135 98 [128, 134])),
  Gf 122 (Un 136 .not 135),
  Po 137 122 136]
def f70x9 : List AOper := [
  Mc 4 (.bool false)]
def f70x10 : List AOper := [
  Bc 138 .add 106 1,
  Mv 106 138]
def f70x11L : ACode := (.seq (.region f70x6 false) (.seq (.cond (.t 107) .skip (.exit 0)) (.seq (.block 1 (.seq (.region f70x7 false) (.seq (.region f70x8 true) (.cond (.t 137) (.seq (.region f70x9 false) .ret) .skip)))) (.region f70x10 false))))
def f70x12 : List AOper := [
  Fa 139 11 2,
  Ld 140 139,
  Fa 141 11 3,
  Ld 142 141,
  Ct 143 99 [140, 142],
  Mv 144 143,
  Gt 144 (Fa 145 14 2),
  Gt 144 (Ld 146 145),
  Gt 144 (Fa 147 14 3),
  Gt 144 (Ld 148 147),
  Gt 144 (Ct 149 99 [146, 148]),
  Pa 150 144 149,
  Mv 4 150]
def f70 : AFunc := ⟨151, 2, false, [.t 4], (.seq (.region f70x0 false) (.seq (.seq (.region f70x1 false) (.cond (.t 60) (.seq (.region f70x2 false) .ret) .skip)) (.seq (.seq (.region f70x3 false) (.cond (.t 102) (.seq (.region f70x4 false) .ret) .skip)) (.seq (.seq (.region f70x5 false) (.block 0 (.loop f70x11L))) (.seq (.region f70x12 false) .ret)))))⟩
def f70x11LH : List AItem := [.inLoop f70x11L, .inBlock 0, .code (.seq (.region f70x12 false) .ret)]
def f202x0 : List AOper := [
  Op 1 (.box (.t 0)),
  Op 2 (.alloc (.agg [.int .i64 0, .int .i64 0, .int .i64 0, .int .i64 0, .int .u32 0, .con (.slice none 0 0), .con (.slice none 0 0), .int .i64 0, .con (.slice none 0 0), .int .u32 0, .bool false, .int .i64 0, .bool false, .int .i64 0, .bool false, .bool false, .int .i64 0, .int .u32 0, .con (.slice none 0 0), .bool false, .int .u32 0, .con (.slice none 0 0), .con (.slice none 0 0), .con (.slice none 0 0), .int .i64 0, .int .i64 0, .con (.slice none 0 0)]))]
def f202x1 : List AOper := [
  Ls 11 27 1,
  Ca 12 193 [(.t 11), (.c (.bool true))],
  Mv 10 12,
  Ex 13 10 0,
  Ex 14 10 1,
  Mv 3 13,
  Mv 4 14]
def f202x2 : List AOper := [
  Mv 15 4,
  Bc 16 .eql 15 0]
def f202x3 : List AOper := [
  Mv 18 3,
  Ca 19 194 [(.t 18), (.c (.bool true))],
  Mv 17 19,
  Ex 20 17 0,
  Ex 21 17 1,
  Ex 22 17 2,
  Ex 23 17 3,
  Op 5 (.alloc (.agg [.int .i64 0, .int .i64 0, .int .i64 0, .int .i64 0, .int .u32 0, .con (.slice none 0 0), .con (.slice none 0 0), .int .i64 0, .con (.slice none 0 0), .int .u32 0, .bool false, .int .i64 0, .bool false, .int .i64 0, .bool false, .bool false, .int .i64 0, .int .u32 0, .con (.slice none 0 0), .bool false, .int .u32 0, .con (.slice none 0 0), .con (.slice none 0 0), .con (.slice none 0 0), .int .i64 0, .int .i64 0, .con (.slice none 0 0)])),
  Op 7 (.alloc (.agg [.int .i64 0, .int .i64 0, .int .i64 0, .int .i64 0, .int .u32 0, .con (.slice none 0 0), .con (.slice none 0 0), .int .i64 0, .con (.slice none 0 0), .int .u32 0, .bool false, .int .i64 0, .bool false, .int .i64 0, .bool false, .bool false, .int .i64 0, .int .u32 0, .con (.slice none 0 0), .bool false, .int .u32 0, .con (.slice none 0 0), .con (.slice none 0 0), .con (.slice none 0 0), .int .i64 0, .int .i64 0, .con (.slice none 0 0)])),
  St 27 5 20,
  Mv 6 21,
  St 27 7 22,
  Mv 8 23]
def f202x4 : List AOper := [
  Ls 24 27 5,
  St 27 2 24]
def f202x5 : List AOper := [
  Ls 25 27 1,
  Op 9 (.alloc (.agg [.int .i64 0, .int .i64 0, .int .i64 0, .int .i64 0, .int .u32 0, .con (.slice none 0 0), .con (.slice none 0 0), .int .i64 0, .con (.slice none 0 0), .int .u32 0, .bool false, .int .i64 0, .bool false, .int .i64 0, .bool false, .bool false, .int .i64 0, .int .u32 0, .con (.slice none 0 0), .bool false, .int .u32 0, .con (.slice none 0 0), .con (.slice none 0 0), .con (.slice none 0 0), .int .i64 0, .int .i64 0, .con (.slice none 0 0)])),
  St 27 9 25]
def f202x6 : List AOper := [
  Fa 26 23 1,
  Ld 27 26,
  Ln 28 0 27,
  Bc 29 .gtr 28 1]
def f202x7 : List AOper := [
  Fa 30 0 1,
  Ld 31 30,
  Fa 32 7 1,
  Ls 33 16 32,
  Fa 34 23 1,
  Ld 35 34,
  Af [5] (Op 36 (.slc 2 (.t 35) none (some (.c (.int .i64 1))) (some (.c (.int .i64 1))))),
  Op 37 (.build [.int .i64 0, .int .i64 0, .int .i64 0, .int .i64 0, .int .u32 0, .con (.slice none 0 0), .con (.slice none 0 0), .int .i64 0, .con (.slice none 0 0), .int .u32 0, .bool false, .int .i64 0, .bool false, .int .i64 0, .bool false, .bool false, .int .i64 0, .int .u32 0, .con (.slice none 0 0), .bool false, .int .u32 0, .con (.slice none 0 0), .con (.slice none 0 0), .con (.slice none 0 0), .int .i64 0, .int .i64 0, .con (.slice none 0 0)] [(0, 1), (7, 16), (23, 1)] [(.t 31), (.t 33), (.t 36)]),
  Af [1, 3, 6, 5] (Ct 38 202 [37]),
  Af [8, 1, 3, 6, 5] (St 27 9 38)]
def f202x8 : List AOper := [
  Op 39 (.bsl 2 [.int .u32 0, .int .i64 0] 0 [] []),
  Fa 40 6 1,
  Ld 41 40,
  Ap 42 2 16 39 41,
  Fa 43 6 9,
  St 1 43 42]
def f202x9 : List AOper := [
  Op 44 (.bsl 2 [.int .u32 0, .int .i64 0] 0 [] []),
  Fa 45 23 1,
  Ld 46 45,
  Ap 47 2 16 44 46,
  Fa 48 23 9,
  St 1 48 47]
def f202x10 : List AOper := [
  Ls 49 27 9,
  St 27 2 49]
def f202 : AFunc := ⟨50, 1, false, [.cell 2 (some 27)], (.seq (.region f202x0 false) (.seq (.region f202x1 false) (.seq (.seq (.region f202x2 false) (.cond (.t 16) (.seq (.region f202x3 false) (.seq (.region f202x4 false) .ret)) .skip)) (.seq (.region f202x5 false) (.seq (.seq (.region f202x6 false) (.cond (.t 29) (.region f202x7 true) .skip)) (.seq (.region f202x8 false) (.seq (.region f202x9 false) (.seq (.region f202x10 false) .ret))))))))⟩
def f67x0 : List AOper := [
  Op 2 (.box (.t 0)),
  Mc 4 (.con (.slice none 0 0)),
  Mc 5 (.int .i64 0)]
def f67x1 : List AOper := [
  Ls 10 16 2,
  Ct 11 65 [10],
  Mv 6 11]
def f67x2 : List AOper := [
  Mv 12 6,
  Bc 13 .neq 12 0]
def f67x3 : List AOper := [
  Mv 14 6,
  Mc 4 (.con (.slice none 0 0)),
  Mv 5 14]
def f67x4 : List AOper := [
  Mv 15 1,
  Op 16 (.build [.con (.slice none 0 0), .bool false, .bool false] [(1, 1)] [(.t 15)]),
  Op 17 (.box (.t 16)),
  Mv 7 17]
def f67x5 : List AOper := [
  Mv 18 7,
  Fa 19 0 2,
  Ld 20 19,
  Cv 21 .u8 20,
  Op 22 (.bsl 1 [.int .u8 0] 1 [0] [(.t 21)]),
  Op 23 (.bsl 1 [.con (.slice none 0 0)] 1 [0] [(.t 22)]),
  Ca 24 83 [(.t 18), (.c (.int .i64 1)), (.t 23)]]
def f67x6 : List AOper := [
  Mv 25 7,
  Mv 26 7,
  Fa 27 1 2,
  Ld 28 27,
  Ct 29 84 [26, 28],
  Op 30 (.bsl 1 [.con (.slice none 0 0)] 1 [0] [(.t 29)]),
  Ca 31 83 [(.t 25), (.c (.int .i64 2)), (.t 30)]]
def f67x7 : List AOper := [
  Mv 32 7,
  Fa 33 2 2,
  Ld 34 33,
  Cv 35 .i64 34,
  Ct 36 85 [35],
  Op 37 (.bsl 1 [.con (.slice none 0 0)] 1 [0] [(.t 36)]),
  Ca 38 83 [(.t 32), (.c (.int .i64 3)), (.t 37)]]
def f67x8 : List AOper := [
  Fa 39 3 2,
  Ld 40 39]
def f67x9 : List AOper := [
  Mv 41 7,
  Fa 42 4 2,
  Ld 43 42,
  Ct 44 85 [43],
  Op 45 (.bsl 1 [.con (.slice none 0 0)] 1 [0] [(.t 44)]),
  Ca 46 83 [(.t 41), (.c (.int .i64 4)), (.t 45)]]
def f67x10 : List AOper := [
  Fa 47 5 2,
  Ld 48 47]
def f67x11 : List AOper := [
  Mv 49 7,
  Fa 50 6 2,
  Ld 51 50,
  Ct 52 85 [51],
  Op 53 (.bsl 1 [.con (.slice none 0 0)] 1 [0] [(.t 52)]),
  Ca 54 83 [(.t 49), (.c (.int .i64 5)), (.t 53)]]
def f67x12 : List AOper := [
  Fa 55 7 2,
  Ld 56 55]
def f67x13 : List AOper := [
  Mv 57 7,
  Ca 58 83 [(.t 57), (.c (.int .i64 6)), (.c (.con (.slice none 0 0)))]]
def f67x14 : List AOper := [
  Fa 59 8 2,
  Ld 60 59]
def f67x15 : List AOper := [
  Mv 61 7,
  Mv 62 7,
  Fa 63 9 2,
  Ld 64 63,
  Af [3] (Ct 65 86 [62, 64]),
  Fa 66 10 2,
  Ld 67 66,
  Cv 68 .i64 67,
  Af [4, 6, 3] (Ct 69 85 [68]),
  Af [8, 4, 6, 3] (Op 70 (.bsl 1 [.con (.slice none 0 0)] 2 [0, 1] [(.t 65), (.t 69)])),
  Af [9, 8, 4, 6, 3] (Ca 71 83 [(.t 61), (.c (.int .i64 7)), (.t 70)])]
def f67x16 : List AOper := [
  Fa 72 11 2,
  Ld 73 72,
  Ln 74 0 73,
  Bc 75 .gtr 74 0]
def f67x17 : List AOper := [
  Mv 76 7,
  Fa 77 11 2,
  Ld 78 77,
  Ct 79 87 [78],
  Op 80 (.bsl 1 [.con (.slice none 0 0)] 1 [0] [(.t 79)]),
  Ca 81 83 [(.t 76), (.c (.int .i64 8)), (.t 80)]]
def f67x18 : List AOper := [
  Fa 82 12 2,
  Ld 83 82]
def f67x19 : List AOper := [
  Mv 84 7,
  Fa 85 13 2,
  Ld 86 85,
  Cv 87 .i64 86,
  Ct 88 85 [87],
  Op 89 (.bsl 1 [.con (.slice none 0 0)] 1 [0] [(.t 88)]),
  Ca 90 83 [(.t 84), (.c (.int .i64 9)), (.t 89)]]
def f67x20 : List AOper := [
  Fa 91 14 2,
  Ld 92 91,
  Ln 93 0 92,
  Bc 94 .gtr 93 0]
def f67x21 : List AOper := [
  Mv 95 7,
  Fa 96 14 2,
  Ld 97 96,
  Ct 98 87 [97],
  Op 99 (.bsl 1 [.con (.slice none 0 0)] 1 [0] [(.t 98)]),
  Ca 100 83 [(.t 95), (.c (.int .i64 10)), (.t 99)]]
def f67x22 : List AOper := [
  Fa 101 15 2,
  Ld 102 101,
  Ln 103 0 102,
  Mc 104 (.int .i64 0)]
def f67x23 : List AOper := [
  Bi 105 .lss 104 103]
def f67x24 : List AOper := [
  Ia 106 2 102 104,
  Ls 107 2 106,
  Op 9 (.alloc (.agg [.int .i64 0, .con (.slice none 0 0)])),
  St 2 9 107]
def f67x25 : List AOper := [
  Mv 108 7,
  Fa 109 0 9,
  Ld 110 109,
  Fa 111 1 9,
  Ld 112 111,
  Op 113 (.bsl 1 [.con (.slice none 0 0)] 1 [0] [(.t 112)]),
  Ct 114 83 [108, 110, 113]]
def f67x26 : List AOper := [
  Bc 115 .add 104 1,
  Mv 104 115]
def f67x27L : ACode := (.seq (.region f67x23 false) (.seq (.cond (.t 105) .skip (.exit 0)) (.seq (.block 1 (.seq (.region f67x24 false) (.region f67x25 false))) (.region f67x26 false))))
def f67x28 : List AOper := [
  Mv 116 7,
  Nc 117 116,
  Fa 118 2 117,
  Ld 119 118]
def f67x29 : List AOper := [
  Mc 4 (.con (.slice none 0 0)),
  Mc 5 (.int .i64 5)]
def f67x30 : List AOper := [
  Mv 120 7,
  Nc 121 120,
  Fa 122 0 121,
  Ld 123 122,
  Mv 4 123,
  Mc 5 (.int .i64 0)]
def f67 : AFunc := ⟨124, 2, false, [.t 4, .t 5], (.seq (.region f67x0 false) (.seq (.seq (.region f67x1 false) (.seq (.region f67x2 false) (.cond (.t 13) (.seq (.region f67x3 false) .ret) .skip))) (.seq (.region f67x4 false) (.seq (.region f67x5 false) (.seq (.region f67x6 false) (.seq (.region f67x7 false) (.seq (.seq (.region f67x8 false) (.cond (.t 40) (.region f67x9 false) .skip)) (.seq (.seq (.region f67x10 false) (.cond (.t 48) (.region f67x11 false) .skip)) (.seq (.seq (.region f67x12 false) (.cond (.t 56) (.region f67x13 false) .skip)) (.seq (.seq (.region f67x14 false) (.cond (.t 60) (.region f67x15 true) .skip)) (.seq (.seq (.region f67x16 false) (.cond (.t 75) (.region f67x17 false) .skip)) (.seq (.seq (.region f67x18 false) (.cond (.t 83) (.region f67x19 false) .skip)) (.seq (.seq (.region f67x20 false) (.cond (.t 94) (.region f67x21 false) .skip)) (.seq (.seq (.region f67x22 false) (.block 0 (.loop f67x27L))) (.seq (.seq (.region f67x28 false) (.cond (.t 119) (.seq (.region f67x29 false) .ret) .skip)) (.seq (.region f67x30 false) .ret))))))))))))))))⟩
def f67x27LH : List AItem := [.inLoop f67x27L, .inBlock 0, .code (.seq (.seq (.region f67x28 false) (.cond (.t 119) (.seq (.region f67x29 false) .ret) .skip)) (.seq (.region f67x30 false) .ret))]
def f203x0 : List AOper := [
  Mc 4 (.int .i64 0)]
def f203x1 : List AOper := [
  Mc 5 (.int .i64 0)]
def f203x2 : List AOper := [
  Mv 6 5,
  Mv 7 0,
  Ln 8 0 7,
  Bi 9 .lss 6 8]
def f203x3 : List AOper := [
  Mv 10 1,
  Mv 11 0,
  Mv 12 5,
  Ia 13 2 11 12,
  Fa 14 1 13,
  Ld 15 14,
  Bc 16 .add 15 7,
  Bc 17 .quo 16 8,
  Op 18 (.bin .add (.c (.int .i64 1)) (.t 17)),
  Bi 19 .sub 10 18,
  Mv 1 19]
def f203x4 : List AOper := [
  Mv 20 1,
  Bc 21 .lss 20 0]
def f203x5 : List AOper := [
  Mv 22 5,
  Bc 23 .add 22 1,
  Mv 5 23]
def f203x6L : ACode := (.seq (.seq (.region f203x2 false) (.cond (.t 9) .skip (.exit 0))) (.block 1 (.seq (.region f203x3 false) (.seq (.seq (.region f203x4 false) (.cond (.t 21) (.exit 0) .skip)) (.region f203x5 false)))))
def f203x7 : List AOper := [
  Mv 24 5,
  Mv 4 24]
def f203 : AFunc := ⟨25, 2, false, [.t 4], (.seq (.region f203x0 false) (.seq (.region f203x1 false) (.seq (.block 0 (.loop f203x6L)) (.seq (.region f203x7 false) .ret))))⟩
def f364x0 : List AOper := [
  Mc 4 (.con (.slice none 0 0))]
def f364x1 : List AOper := [
  Mc 5 (.con (.slice none 0 0))]
def f364x2 : List AOper := [
  Mc 6 (.con (.slice none 0 0))]
def f364x3 : List AOper := [
  Mc 7 (.int .i64 0)]
def f364x4 : List AOper := [
  Mv 11 0,
  Ln 12 0 11,
  Mc 13 (.int .i64 0)]
def f364x5 : List AOper := [
  Bi 14 .lss 13 12]
def f364x6 : List AOper := [
  Ia 15 2 11 13,
  Ls 16 2 15,
  Op 9 (.alloc (.agg [.int .u32 0, .int .i64 0])),
  St 2 9 16]
def f364x7 : List AOper := [
  Fa 17 1 9,
  Ld 18 17,
  Bc 19 .add 18 7,
  Bc 20 .quo 19 8,
  Op 21 (.bin .add (.c (.int .i64 1)) (.t 20)),
  Mv 10 21]
def f364x8 : List AOper := [
  Mv 22 7,
  Mv 23 10,
  Bi 24 .add 22 23,
  Mv 25 1,
  Bi 26 .gtr 24 25]
def f364x9 : List AOper := [
  Mv 27 5,
  Mv 28 6,
  Op 29 (.bsl 1 [.con (.slice none 0 0)] 1 [0] [(.t 28)]),
  Ap 30 1 24 27 29,
  Mv 5 30]
def f364x10 : List AOper := [
  Mc 6 (.con (.slice none 0 0))]
def f364x11 : List AOper := [
  Mc 7 (.int .i64 0)]
def f364x12 : List AOper := [
  Mv 31 6,
  Ls 32 2 9,
  Op 33 (.bsl 2 [.int .u32 0, .int .i64 0] 1 [0] [(.t 32)]),
  Ap 34 2 16 31 33,
  Mv 6 34]
def f364x13 : List AOper := [
  Mv 35 7,
  Mv 36 10,
  Bi 37 .add 35 36,
  Mv 7 37]
def f364x14 : List AOper := [
  Bc 38 .add 13 1,
  Mv 13 38]
def f364x15L : ACode := (.seq (.region f364x5 false) (.seq (.cond (.t 14) .skip (.exit 0)) (.seq (.block 1 (.seq (.region f364x6 false) (.seq (.region f364x7 false) (.seq (.seq (.region f364x8 false) (.cond (.t 26) (.seq (.region f364x9 false) (.seq (.region f364x10 false) (.region f364x11 false))) .skip)) (.seq (.region f364x12 false) (.region f364x13 false)))))) (.region f364x14 false))))
def f364x16 : List AOper := [
  Mv 39 6,
  Ln 40 0 39,
  Bc 41 .gtr 40 0]
def f364x17 : List AOper := [
  Mv 42 5,
  Mv 43 6,
  Op 44 (.bsl 1 [.con (.slice none 0 0)] 1 [0] [(.t 43)]),
  Ap 45 1 24 42 44,
  Mv 5 45]
def f364x18 : List AOper := [
  Mv 46 5,
  Mv 4 46]
def f364 : AFunc := ⟨47, 2, false, [.t 4], (.seq (.region f364x0 false) (.seq (.region f364x1 false) (.seq (.region f364x2 false) (.seq (.region f364x3 false) (.seq (.seq (.region f364x4 false) (.block 0 (.loop f364x15L))) (.seq (.seq (.region f364x16 false) (.cond (.t 41) (.region f364x17 false) .skip)) (.seq (.region f364x18 false) .ret)))))))⟩
end Go.AM.IR
