/- What the functions of this program give, on the abstract machine. -/
import Derived.Test.YtomphmeopjpejaaGreatDoorMachineC
import Derived.Test.YtomphmeopjpejaaGreatDoorLibraryA
set_option linter.unusedVariables false
set_option linter.unusedSimpArgs false
set_option maxRecDepth 100000
namespace Go.AM.IR
open Go Go.AM
def f666x0 : List AOper := [
  Op 2 (.box (.t 0)),
  Mc 4 (.bool false)]
def f666x1 : List AOper := [
  Ls 9 4 2,
  Ct 10 668 [9]]
def f666x2 : List AOper := [
  Ct 11 669 [],
  Mv 4 11]
def f666x3 : List AOper := [
  Ls 13 4 2,
  Mv 14 1,
  Ct 15 566 [13, 14],
  Mv 12 15,
  Ex 16 12 0,
  Ex 17 12 1,
  Op 5 (.alloc (.agg [.str [], .con (.slice none 0 0), .int .i64 0])),
  St 3 5 16,
  Mv 6 17]
def f666x4 : List AOper := [
  Ls 19 4 2,
  Mv 20 1,
  Ct 21 506 [19, 20],
  Mv 18 21,
  Ex 22 18 0,
  Ex 23 18 1,
  Op 7 (.alloc (.agg [.str [], .con (.slice none 0 0), .int .i64 0])),
  St 3 7 22,
  Mv 8 23]
def f666x5 : List AOper := [
  Mv 24 6,
  Mv 25 8,
  Op 26 (.eqb false (.t 24) (.t 25)),
  Mv 27 26,
  Gt 27 (Ls 28 3 5),
  Gt 27 (Op 29 (.bsl 3 [.str [], .con (.slice none 0 0), .int .i64 0] 1 [0] [(.t 28)])),
  Gt 27 (Op 30 (.build [.con (.slice none 0 0), .con (.slice none 0 0), .con (.slice none 0 0), .con (.slice none 0 0)] [(3, 1)] [(.t 29)])),
  Gt 27 (Ls 31 3 7),
  Gt 27 (Op 32 (.bsl 3 [.str [], .con (.slice none 0 0), .int .i64 0] 1 [0] [(.t 31)])),
  Gt 27 (Op 33 (.build [.con (.slice none 0 0), .con (.slice none 0 0), .con (.slice none 0 0), .con (.slice none 0 0)] [(3, 1)] [(.t 32)])),
  Gt 27 (Ct 34 479 [30, 33]),
  Pa 35 27 34,
  Mv 36 35,
  Gt 36 (Ct 37 669 []),
  Pa 38 36 37,
  Mv 4 38]
def f666 : AFunc := ⟨39, 2, false, [.t 4], (.seq (.region f666x0 false) (.seq (.seq (.region f666x1 false) (.cond (.t 10) (.seq (.region f666x2 false) .ret) .skip)) (.seq (.region f666x3 false) (.seq (.region f666x4 false) (.seq (.region f666x5 false) .ret)))))⟩
def f667x0 : List AOper := [
  Op 2 (.box (.t 0)),
  Op 3 (.box (.t 1)),
  Mc 4 (.bool false)]
def f667x1 : List AOper := [
  Ls 5 4 2,
  Ct 6 668 [5],
  Mv 7 6,
  Gf 7 (Ls 8 4 3),
  Gf 7 (Ct 9 668 [8]),
  Po 10 7 9]
def f667x2 : List AOper := [
  Ct 11 669 [],
  Mv 4 11]
def f667x3 : List AOper := [
  Ls 12 4 2,
  Ls 13 4 3,
  Af [0, 1] (Ct 14 670 [12, 13]),
  Ls 15 4 2,
  Ls 16 4 3,
  Af [3, 4, 2, 0, 1] (Ct 17 479 [15, 16]),
  Op 18 (.eqb false (.t 14) (.t 17)),
  Mv 19 18,
  Af [5, 3, 4, 2, 0, 1] (Gt 19 (Ls 20 4 2)),
  Af [5, 3, 4, 2, 0, 1] (Gt 19 (Ls 21 4 2)),
  Af [8, 9, 5, 3, 4, 2, 0, 1] (Gt 19 (Ct 22 670 [20, 21])),
  Pa 23 19 22,
  Mv 24 23,
  Af [10, 8, 9, 5, 3, 4, 2, 0, 1] (Gt 24 (Ct 25 669 [])),
  Pa 26 24 25,
  Mv 4 26]
def f667 : AFunc := ⟨27, 2, false, [.t 4], (.seq (.region f667x0 false) (.seq (.seq (.region f667x1 false) (.cond (.t 10) (.seq (.region f667x2 false) .ret) .skip)) (.seq (.region f667x3 true) .ret)))⟩
def f668x0 : List AOper := [
  Op 1 (.box (.t 0)),
  Mc 2 (.bool false)]
def f668x1 : List AOper := [
  Ls 3 4 1,
  Ct 4 435 [3],
  Bc 5 .gtr 4 400,
  Mv 2 5]
def f668 : AFunc := ⟨6, 1, false, [.t 2], (.seq (.region f668x0 false) (.seq (.region f668x1 false) .ret))⟩
def f669x0 : List AOper := [
  Mc 0 (.bool false)]
def f669x1 : List AOper := [
  Ca 20 418 [(.c (.str [112, 114, 101, 102, 105, 120, 45, 108, 105, 115, 116, 32, 111, 119, 110, 10, 112, 101, 114, 109, 105, 116, 32, 49, 48, 46, 48, 46, 48, 46, 48, 47, 56, 32, 56, 45, 50, 52, 10, 99, 111, 109, 109, 117, 110, 105, 116, 121, 45, 108, 105, 115, 116, 32, 98, 108, 117, 101, 10, 112, 101, 114, 109, 105, 116, 32, 54, 53, 48, 48, 48, 58, 42, 10, 112, 111, 108, 105, 99, 121, 32, 105, 109, 112, 111, 114, 116, 10, 116, 101, 114, 109, 32, 102, 105, 114, 115, 116, 10, 109, 97, 116, 99, 104, 32, 110, 111, 116, 32, 112, 114, 101, 102, 105, 120, 45, 108, 105, 115, 116, 32, 111, 119, 110, 10, 115, 101, 116, 32, 112, 114, 101, 102, 32, 50, 48, 48, 10, 97, 99, 99, 101, 112, 116, 10, 100, 101, 102, 97, 117, 108, 116, 32, 114, 101, 106, 101, 99, 116, 10]))],
  Mv 19 20,
  Ex 21 19 0,
  Ex 22 19 1,
  Ex 23 19 2,
  Op 1 (.alloc (.agg [.con (.slice none 0 0), .con (.slice none 0 0), .con (.slice none 0 0), .con (.slice none 0 0)])),
  St 4 1 21,
  Mv 2 22,
  Mv 3 23]
def f669x2 : List AOper := [
  Ls 25 4 1,
  Ct 26 405 [25],
  Mv 24 26,
  Ex 27 24 0,
  Ex 28 24 1,
  Mv 4 27,
  Mv 5 28]
def f669x3 : List AOper := [
  Ls 30 4 1,
  Ca 31 566 [(.t 30), (.c (.str [105, 109, 112, 111, 114, 116]))],
  Mv 29 31,
  Ex 32 29 0,
  Ex 33 29 1,
  Op 6 (.alloc (.agg [.str [], .con (.slice none 0 0), .int .i64 0])),
  St 3 6 32,
  Mv 7 33]
def f669x4 : List AOper := [
  Ls 35 4 1,
  Ca 36 566 [(.t 35), (.c (.str [101, 120, 112, 111, 114, 116]))],
  Mv 34 36,
  Ex 37 34 0,
  Ex 38 34 1,
  Op 8 (.alloc (.agg [.str [], .con (.slice none 0 0), .int .i64 0])),
  St 3 8 37,
  Mv 9 38]
def f669x5 : List AOper := [
  Mv 39 3,
  Bc 40 .neq 39 0,
  Mv 41 40,
  Gf 41 (Mv 42 2),
  Gf 41 (Bc 43 .neq 42 0),
  Po 44 41 43,
  Mv 45 44,
  Gf 45 (Mv 46 5),
  Gf 45 (Bc 47 .neq 46 0),
  Po 48 45 47,
  Mv 49 48,
  Gf 49 (Mv 50 4),
  Gf 49 (Op 51 (.bin .neq (.t 50) (.c (.str [112, 114, 101, 102, 105, 120, 45, 108, 105, 115, 116, 32, 111, 119, 110, 10, 112, 101, 114, 109, 105, 116, 32, 49, 48, 46, 48, 46, 48, 46, 48, 47, 56, 32, 56, 45, 50, 52, 10, 99, 111, 109, 109, 117, 110, 105, 116, 121, 45, 108, 105, 115, 116, 32, 98, 108, 117, 101, 10, 112, 101, 114, 109, 105, 116, 32, 54, 53, 48, 48, 48, 58, 42, 10, 112, 111, 108, 105, 99, 121, 32, 105, 109, 112, 111, 114, 116, 10, 116, 101, 114, 109, 32, 102, 105, 114, 115, 116, 10, 109, 97, 116, 99, 104, 32, 110, 111, 116, 32, 112, 114, 101, 102, 105, 120, 45, 108, 105, 115, 116, 32, 111, 119, 110, 10, 115, 101, 116, 32, 112, 114, 101, 102, 32, 50, 48, 48, 10, 97, 99, 99, 101, 112, 116, 10, 100, 101, 102, 97, 117, 108, 116, 32, 114, 101, 106, 101, 99, 116, 10])))),
  Po 52 49 51,
  Mv 53 52,
  Gf 53 (Mv 54 7),
  Gf 53 (Un 55 .not 54),
  Po 56 53 55,
  Mv 57 56,
  Gf 57 (Mv 58 9),
  Po 59 57 58,
  Mv 60 59,
  Gf 60 (Fa 61 1 6),
  Gf 60 (Ld 62 61),
  Gf 60 (Ln 63 0 62),
  Gf 60 (Bc 64 .neq 63 1),
  Po 65 60 64,
  Mv 66 65,
  Gf 66 (Fa 67 2 6),
  Gf 66 (Ld 68 67),
  Gf 66 (Bc 69 .neq 68 2),
  Po 70 66 69,
  Mv 71 70,
  Gf 71 (Ls 72 4 1),
  Gf 71 (Ct 73 451 [72]),
  Gf 71 (Bc 74 .neq 73 0),
  Po 75 71 74,
  Mv 76 75,
  Gf 76 (Ls 77 4 1),
  Gf 76 (Ls 78 4 1),
  Gf 76 (Ct 79 670 [77, 78]),
  Gf 76 (Un 80 .not 79),
  Po 81 76 80,
  Mv 82 81,
  Gf 82 (Ls 83 4 1),
  Gf 82 (Op 84 (.build [.con (.slice none 0 0), .con (.slice none 0 0), .con (.slice none 0 0), .con (.slice none 0 0)] [] [])),
  Gf 82 (Ct 85 670 [83, 84]),
  Po 86 82 85]
def f669x6 : List AOper := [
  Mc 0 (.bool false)]
def f669x7 : List AOper := [
  Ca 88 418 [(.c (.str [112, 111, 108, 105, 99, 121, 32, 97, 10, 116, 101, 114, 109, 32, 98, 10, 97, 99, 99, 101, 112, 116, 10, 116, 101, 114, 109, 32, 98, 10]))],
  Mv 87 88,
  Ex 89 87 0,
  Ex 90 87 1,
  Ex 91 87 2,
  Op 10 (.alloc (.agg [.con (.slice none 0 0), .con (.slice none 0 0), .con (.slice none 0 0), .con (.slice none 0 0)])),
  St 4 10 89,
  Mv 11 90,
  Mv 12 91]
def f669x8 : List AOper := [
  Ca 93 418 [(.c (.str [112, 111, 108, 105, 99, 121, 32, 97, 10, 116, 101, 114, 109, 32, 98, 10, 109, 97, 116, 99, 104, 32, 112, 114, 101, 102, 105, 120, 45, 108, 105, 115, 116, 32, 99, 10]))],
  Mv 92 93,
  Ex 94 92 0,
  Ex 95 92 1,
  Ex 96 92 2,
  Op 13 (.alloc (.agg [.con (.slice none 0 0), .con (.slice none 0 0), .con (.slice none 0 0), .con (.slice none 0 0)])),
  St 4 13 94,
  Mv 14 95,
  Mv 15 96]
def f669x9 : List AOper := [
  Ca 98 418 [(.c (.str [112, 111, 108, 105, 99, 121, 32, 97, 10, 116, 101, 114, 109, 32, 98, 10]))],
  Mv 97 98,
  Ex 99 97 0,
  Ex 100 97 1,
  Ex 101 97 2,
  Op 16 (.alloc (.agg [.con (.slice none 0 0), .con (.slice none 0 0), .con (.slice none 0 0), .con (.slice none 0 0)])),
  St 4 16 99,
  Mv 17 100,
  Mv 18 101]
def f669x10 : List AOper := [
  Mv 102 11,
  Bc 103 .eql 102 4,
  Mv 104 103,
  Gt 104 (Mv 105 12),
  Gt 104 (Bc 106 .eql 105 7),
  Pa 107 104 106,
  Mv 108 107,
  Gt 108 (Mv 109 14),
  Gt 108 (Bc 110 .eql 109 3),
  Pa 111 108 110,
  Mv 112 111,
  Gt 112 (Mv 113 15),
  Gt 112 (Bc 114 .eql 113 6),
  Pa 115 112 114,
  Mv 116 115,
  Gt 116 (Mv 117 17),
  Gt 116 (Bc 118 .eql 117 3),
  Pa 119 116 118,
  Mv 120 119,
  Gt 120 (Mv 121 18),
  Gt 120 (Bc 122 .eql 121 3),
  Pa 123 120 122,
  Mv 0 123]
def f669 : AFunc := ⟨124, 0, false, [.t 0], (.seq (.region f669x0 false) (.seq (.region f669x1 false) (.seq (.region f669x2 false) (.seq (.region f669x3 false) (.seq (.region f669x4 false) (.seq (.seq (.region f669x5 false) (.cond (.t 86) (.seq (.region f669x6 false) .ret) .skip)) (.seq (.region f669x7 false) (.seq (.region f669x8 false) (.seq (.region f669x9 false) (.seq (.region f669x10 false) .ret))))))))))⟩
def f451x0 : List AOper := [
  Op 1 (.box (.t 0)),
  Mc 2 (.int .i64 0)]
def f451x1 : List AOper := [
  Ls 5 4 1,
  Ct 6 507 [5],
  Op 3 (.alloc (.agg [.con (.slice none 0 0), .con (.slice none 0 0), .con (.slice none 0 0), .con (.slice none 0 0)])),
  St 4 3 6]
def f451x2 : List AOper := [
  Op 7 (.iarr 4 1 (.t 3) (.c (.int .i64 0))),
  Ld 8 7,
  Op 9 (.mkfn 509 [(.t 1)]),
  Op 10 (.mkfn 510 [(.t 1)]),
  Ct 11 508 [8, 9, 10],
  Mv 4 11]
def f451x3 : List AOper := [
  Mv 12 4,
  Bc 13 .neq 12 0]
def f451x4 : List AOper := [
  Mv 14 4,
  Mv 2 14]
def f451x5 : List AOper := [
  Op 15 (.iarr 4 1 (.t 3) (.c (.int .i64 1))),
  Ld 16 15,
  Op 17 (.mkfn 513 [(.t 1)]),
  Op 18 (.mkfn 514 [(.t 1)]),
  Ct 19 508 [16, 17, 18],
  Mv 4 19]
def f451x6 : List AOper := [
  Mv 20 4,
  Bc 21 .neq 20 0]
def f451x7 : List AOper := [
  Mv 22 4,
  Mv 2 22]
def f451x8 : List AOper := [
  Op 23 (.iarr 4 1 (.t 3) (.c (.int .i64 2))),
  Ld 24 23,
  Op 25 (.mkfn 517 [(.t 1)]),
  Op 26 (.mkfn 518 [(.t 1)]),
  Ct 27 508 [24, 25, 26],
  Mv 4 27]
def f451x9 : List AOper := [
  Mv 28 4,
  Bc 29 .neq 28 0]
def f451x10 : List AOper := [
  Mv 30 4,
  Mv 2 30]
def f451x11 : List AOper := [
  Op 31 (.iarr 4 1 (.t 3) (.c (.int .i64 3))),
  Ld 32 31,
  Op 33 (.mkfn 521 [(.t 1)]),
  Op 34 (.mkfn 522 [(.t 3), (.t 1)]),
  Ct 35 508 [32, 33, 34],
  Mv 2 35]
def f451 : AFunc := ⟨36, 1, false, [.t 2], (.seq (.region f451x0 false) (.seq (.region f451x1 false) (.seq (.region f451x2 false) (.seq (.seq (.region f451x3 false) (.cond (.t 13) (.seq (.region f451x4 false) .ret) .skip)) (.seq (.region f451x5 false) (.seq (.seq (.region f451x6 false) (.cond (.t 21) (.seq (.region f451x7 false) .ret) .skip)) (.seq (.region f451x8 false) (.seq (.seq (.region f451x9 false) (.cond (.t 29) (.seq (.region f451x10 false) .ret) .skip)) (.seq (.region f451x11 false) .ret)))))))))⟩
def f405x0 : List AOper := [
  Op 1 (.box (.t 0)),
  Mc 2 (.str []),
  Mc 3 (.int .i64 0)]
def f405x1 : List AOper := [
  Ls 22 4 1,
  Ct 23 451 [22],
  Mv 4 23]
def f405x2 : List AOper := [
  Mv 24 4,
  Bc 25 .neq 24 0]
def f405x3 : List AOper := [
  Mv 26 4,
  Mc 2 (.str []),
  Mv 3 26]
def f405x4 : List AOper := [
  Mc 5 (.str [])]
def f405x5 : List AOper := [
  Fa 27 0 1,
  Ld 28 27,
  Ln 29 0 28,
  Mc 30 (.int .i64 0)]
def f405x6 : List AOper := [
  Bi 31 .lss 30 29]
def f405x7 : List AOper := [
  Ia 32 2 28 30,
  Ls 33 2 32,
  Op 7 (.alloc (.agg [.str [], .con (.slice none 0 0)])),
  St 2 7 33]
def f405x8 : List AOper := [
  Mv 34 5,
  Fa 35 0 7,
  Ld 36 35,
  Op 37 (.bin .add (.c (.str [112, 114, 101, 102, 105, 120, 45, 108, 105, 115, 116, 32])) (.t 36)),
  Op 38 (.bin .add (.t 37) (.c (.str [10]))),
  Bi 39 .add 34 38,
  Mv 5 39]
def f405x9 : List AOper := [
  Fa 40 1 7,
  Ld 41 40,
  Ln 42 0 41,
  Mc 43 (.int .i64 0)]
def f405x10 : List AOper := [
  Bi 44 .lss 43 42]
def f405x11 : List AOper := [
  Ia 45 5 41 43,
  Ls 46 5 45,
  Op 9 (.alloc (.agg [.bool false, .int .u32 0, .int .i64 0, .int .i64 0, .int .i64 0])),
  St 5 9 46]
def f405x12 : List AOper := [
  Ls 48 5 9,
  Ct 49 332 [48],
  Mv 47 49,
  Ex 50 47 0,
  Ex 51 47 1,
  Mv 10 50,
  Mv 11 51]
def f405x13 : List AOper := [
  Mv 52 5,
  Mv 53 10,
  Op 54 (.bin .add (.t 53) (.c (.str [10]))),
  Bi 55 .add 52 54,
  Mv 5 55]
def f405x14 : List AOper := [
  Bc 56 .add 43 1,
  Mv 43 56]
def f405x15L : ACode := (.seq (.region f405x10 false) (.seq (.cond (.t 44) .skip (.exit 2)) (.seq (.block 3 (.seq (.region f405x11 false) (.seq (.region f405x12 false) (.region f405x13 false)))) (.region f405x14 false))))
def f405x16 : List AOper := [
  Bc 57 .add 30 1,
  Mv 30 57]
def f405x17L : ACode := (.seq (.region f405x6 false) (.seq (.cond (.t 31) .skip (.exit 0)) (.seq (.block 1 (.seq (.region f405x7 false) (.seq (.region f405x8 false) (.seq (.region f405x9 false) (.block 2 (.loop f405x15L)))))) (.region f405x16 false))))
def f405x18 : List AOper := [
  Fa 58 1 1,
  Ld 59 58,
  Ln 60 0 59,
  Mc 61 (.int .i64 0)]
def f405x19 : List AOper := [
  Bi 62 .lss 61 60]
def f405x20 : List AOper := [
  Ia 63 2 59 61,
  Ls 64 2 63,
  Op 13 (.alloc (.agg [.str [], .con (.slice none 0 0)])),
  St 2 13 64]
def f405x21 : List AOper := [
  Mv 65 5,
  Fa 66 0 13,
  Ld 67 66,
  Op 68 (.bin .add (.c (.str [112, 97, 116, 104, 45, 108, 105, 115, 116, 32])) (.t 67)),
  Op 69 (.bin .add (.t 68) (.c (.str [10]))),
  Bi 70 .add 65 69,
  Mv 5 70]
def f405x22 : List AOper := [
  Fa 71 1 13,
  Ld 72 71,
  Ln 73 0 72,
  Mc 74 (.int .i64 0)]
def f405x23 : List AOper := [
  Bi 75 .lss 74 73]
def f405x24 : List AOper := [
  Ia 76 2 72 74,
  Ls 77 2 76,
  Op 15 (.alloc (.agg [.bool false, .str []])),
  St 2 15 77]
def f405x25 : List AOper := [
  Mv 78 5,
  Fa 79 0 15,
  Ld 80 79,
  Af [2] (Ct 81 452 [80]),
  Fa 82 1 15,
  Ld 83 82,
  Bi 84 .add 81 83,
  Op 85 (.bin .add (.t 84) (.c (.str [10]))),
  Bi 86 .add 78 85,
  Mv 5 86]
def f405x26 : List AOper := [
  Bc 87 .add 74 1,
  Mv 74 87]
def f405x27L : ACode := (.seq (.region f405x23 false) (.seq (.cond (.t 75) .skip (.exit 6)) (.seq (.block 7 (.seq (.region f405x24 false) (.region f405x25 true))) (.region f405x26 false))))
def f405x28 : List AOper := [
  Bc 88 .add 61 1,
  Mv 61 88]
def f405x29L : ACode := (.seq (.region f405x19 false) (.seq (.cond (.t 62) .skip (.exit 4)) (.seq (.block 5 (.seq (.region f405x20 false) (.seq (.region f405x21 false) (.seq (.region f405x22 false) (.block 6 (.loop f405x27L)))))) (.region f405x28 false))))
def f405x30 : List AOper := [
  Fa 89 2 1,
  Ld 90 89,
  Ln 91 0 90,
  Mc 92 (.int .i64 0)]
def f405x31 : List AOper := [
  Bi 93 .lss 92 91]
def f405x32 : List AOper := [
  Ia 94 2 90 92,
  Ls 95 2 94,
  Op 17 (.alloc (.agg [.str [], .con (.slice none 0 0)])),
  St 2 17 95]
def f405x33 : List AOper := [
  Mv 96 5,
  Fa 97 0 17,
  Ld 98 97,
  Op 99 (.bin .add (.c (.str [99, 111, 109, 109, 117, 110, 105, 116, 121, 45, 108, 105, 115, 116, 32])) (.t 98)),
  Op 100 (.bin .add (.t 99) (.c (.str [10]))),
  Bi 101 .add 96 100,
  Mv 5 101]
def f405x34 : List AOper := [
  Fa 102 1 17,
  Ld 103 102,
  Ln 104 0 103,
  Mc 105 (.int .i64 0)]
def f405x35 : List AOper := [
  Bi 106 .lss 105 104]
def f405x36 : List AOper := [
  Ia 107 3 103 105,
  Ls 108 3 107,
  Op 19 (.alloc (.agg [.bool false, .int .i64 0, .int .i64 0])),
  St 3 19 108]
def f405x37 : List AOper := [
  Mv 109 5,
  Fa 110 0 19,
  Ld 111 110,
  Af [2] (Ct 112 452 [111]),
  Fa 113 1 19,
  Ld 114 113,
  Af [5, 3, 2] (Ct 115 453 [114]),
  Bi 116 .add 112 115,
  Op 117 (.bin .add (.t 116) (.c (.str [58]))),
  Fa 118 2 19,
  Ld 119 118,
  Af [10, 6, 5, 3, 2] (Ct 120 453 [119]),
  Bi 121 .add 117 120,
  Op 122 (.bin .add (.t 121) (.c (.str [10]))),
  Bi 123 .add 109 122,
  Mv 5 123]
def f405x38 : List AOper := [
  Bc 124 .add 105 1,
  Mv 105 124]
def f405x39L : ACode := (.seq (.region f405x35 false) (.seq (.cond (.t 106) .skip (.exit 10)) (.seq (.block 11 (.seq (.region f405x36 false) (.region f405x37 true))) (.region f405x38 false))))
def f405x40 : List AOper := [
  Bc 125 .add 92 1,
  Mv 92 125]
def f405x41L : ACode := (.seq (.region f405x31 false) (.seq (.cond (.t 93) .skip (.exit 8)) (.seq (.block 9 (.seq (.region f405x32 false) (.seq (.region f405x33 false) (.seq (.region f405x34 false) (.block 10 (.loop f405x39L)))))) (.region f405x40 false))))
def f405x42 : List AOper := [
  Fa 126 3 1,
  Ld 127 126,
  Ln 128 0 127,
  Mc 129 (.int .i64 0)]
def f405x43 : List AOper := [
  Bi 130 .lss 129 128]
def f405x44 : List AOper := [
  Ia 131 3 127 129,
  Ls 132 3 131,
  Op 21 (.alloc (.agg [.str [], .con (.slice none 0 0), .int .i64 0])),
  St 3 21 132]
def f405x45 : List AOper := [
  Mv 133 5,
  Ls 134 3 21,
  Ct 135 454 [134],
  Bi 136 .add 133 135,
  Mv 5 136]
def f405x46 : List AOper := [
  Mv 137 5,
  Ln 138 1 137,
  Bc 139 .gtr 138 65536]
def f405x47 : List AOper := [
  Bc 140 .add 129 1,
  Mv 129 140]
def f405x48L : ACode := (.seq (.region f405x43 false) (.seq (.cond (.t 130) .skip (.exit 12)) (.seq (.block 13 (.seq (.region f405x44 false) (.seq (.region f405x45 false) (.seq (.region f405x46 false) (.cond (.t 139) (.exit 12) .skip))))) (.region f405x47 false))))
def f405x49 : List AOper := [
  Mv 141 5,
  Ln 142 1 141,
  Bc 143 .gtr 142 65536]
def f405x50 : List AOper := [
  Mc 2 (.str []),
  Mc 3 (.int .i64 4)]
def f405x51 : List AOper := [
  Mv 144 5,
  Mv 2 144,
  Mc 3 (.int .i64 0)]
def f405 : AFunc := ⟨145, 1, false, [.t 2, .t 3], (.seq (.region f405x0 false) (.seq (.seq (.region f405x1 false) (.seq (.region f405x2 false) (.cond (.t 25) (.seq (.region f405x3 false) .ret) .skip))) (.seq (.region f405x4 false) (.seq (.seq (.region f405x5 false) (.block 0 (.loop f405x17L))) (.seq (.seq (.region f405x18 false) (.block 4 (.loop f405x29L))) (.seq (.seq (.region f405x30 false) (.block 8 (.loop f405x41L))) (.seq (.seq (.region f405x42 false) (.block 12 (.loop f405x48L))) (.seq (.seq (.region f405x49 false) (.cond (.t 143) (.seq (.region f405x50 false) .ret) .skip)) (.seq (.region f405x51 false) .ret)))))))))⟩
def f418x0 : List AOper := [
  Op 2 (.alloc (.agg [.con (.slice none 0 0), .con (.slice none 0 0), .con (.slice none 0 0), .con (.slice none 0 0)])),
  Mc 3 (.int .i64 0),
  Mc 4 (.int .i64 0)]
def f418x1 : List AOper := [
  Mv 10 0,
  Ln 11 1 10,
  Bc 12 .gtr 11 65536]
def f418x2 : List AOper := [
  Op 13 (.build [.con (.slice none 0 0), .con (.slice none 0 0), .con (.slice none 0 0), .con (.slice none 0 0)] [] []),
  St 4 2 13,
  Mc 3 (.int .i64 0),
  Mc 4 (.int .i64 4)]
def f418x3 : List AOper := [
  Op 14 (.build [.con (.slice none 0 0), .con (.slice none 0 0), .con (.slice none 0 0), .con (.slice none 0 0), .con (.slice none 0 0), .con (.slice none 0 0), .con (.slice none 0 0), .con (.slice none 0 0), .int .i64 0, .bool false, .bool false] [] []),
  Op 15 (.box (.t 14)),
  Mv 5 15]
def f418x4 : List AOper := [
  Mc 6 (.int .i64 0),
  Mc 7 (.int .i64 0)]
def f418x5 : List AOper := [
  Mv 16 0,
  Ln 17 1 16,
  Mc 18 (.int .i64 0)]
def f418x6 : List AOper := [
  Bi 19 .lss 18 17]
def f418x7 : List AOper := [
  Mv 20 18,
  Mv 8 20]
def f418x8 : List AOper := [
  Mv 21 0,
  Mv 22 8,
  Op 23 (.istr (.t 21) (.t 22)),
  Op 24 (.bin .neq (.t 23) (.c (.int .u8 10)))]
def f418x9 : List AOper := [
  Mv 25 7,
  Bc 26 .add 25 1,
  Mv 7 26]
def f418x10 : List AOper := [
  Mv 27 5,
  Mv 28 0,
  Mv 29 6,
  Mv 30 8,
  Op 31 (.slstr (.t 28) (some (.t 29)) (some (.t 30))),
  Ct 32 466 [27, 31],
  Mv 9 32]
def f418x11 : List AOper := [
  Mv 33 9,
  Bc 34 .neq 33 0]
def f418x12 : List AOper := [
  Op 35 (.build [.con (.slice none 0 0), .con (.slice none 0 0), .con (.slice none 0 0), .con (.slice none 0 0)] [] []),
  Mv 36 7,
  Mv 37 9,
  St 4 2 35,
  Mv 3 36,
  Mv 4 37]
def f418x13 : List AOper := [
  Mv 38 8,
  Bc 39 .add 38 1,
  Mv 6 39]
def f418x14 : List AOper := [
  Bc 40 .add 18 1,
  Mv 18 40]
def f418x15L : ACode := (.seq (.region f418x6 false) (.seq (.cond (.t 19) .skip (.exit 0)) (.seq (.block 1 (.seq (.region f418x7 false) (.seq (.seq (.region f418x8 false) (.cond (.t 24) (.exit 1) .skip)) (.seq (.region f418x9 false) (.seq (.seq (.region f418x10 false) (.seq (.region f418x11 false) (.cond (.t 34) (.seq (.region f418x12 false) .ret) .skip))) (.region f418x13 false)))))) (.region f418x14 false))))
def f418x16 : List AOper := [
  Mv 42 6,
  Mv 43 0,
  Ln 44 1 43,
  Bi 45 .lss 42 44,
  Mv 41 45]
def f418x17 : List AOper := [
  Op 46 (.build [.con (.slice none 0 0), .con (.slice none 0 0), .con (.slice none 0 0), .con (.slice none 0 0)] [] []),
  Mv 47 7,
  Bc 48 .add 47 1,
  St 4 2 46,
  Mv 3 48,
  Mc 4 (.int .i64 2)]
def f418x18 : List AOper := [
  Mv 50 5,
  Nc 51 50,
  Fa 52 9 51,
  Ld 53 52,
  Mv 49 53]
def f418x19 : List AOper := [
  Op 54 (.build [.con (.slice none 0 0), .con (.slice none 0 0), .con (.slice none 0 0), .con (.slice none 0 0)] [] []),
  Mv 55 7,
  Bc 56 .add 55 1,
  St 4 2 54,
  Mv 3 56,
  Mc 4 (.int .i64 3)]
def f418x20 : List AOper := [
  Mv 57 5,
  Nc 58 57,
  Fa 59 0 58,
  Ls 60 4 59,
  St 4 2 60,
  Mc 3 (.int .i64 0),
  Mc 4 (.int .i64 0)]
def f418 : AFunc := ⟨61, 1, false, [.cell 2 (some 4), .t 3, .t 4], (.seq (.region f418x0 false) (.seq (.seq (.region f418x1 false) (.cond (.t 12) (.seq (.region f418x2 false) .ret) .skip)) (.seq (.region f418x3 false) (.seq (.region f418x4 false) (.seq (.seq (.region f418x5 false) (.block 0 (.loop f418x15L))) (.seq (.block 2 (.seq (.region f418x16 false) (.cond (.t 41) (.seq (.region f418x17 false) .ret) (.seq (.region f418x18 false) (.cond (.t 49) (.seq (.region f418x19 false) .ret) .skip))))) (.seq (.region f418x20 false) .ret)))))))⟩
def f479x0 : List AOper := [
  Op 2 (.box (.t 0)),
  Op 3 (.box (.t 1)),
  Mc 4 (.bool false)]
def f479x1 : List AOper := [
  Fa 9 0 2,
  Ld 10 9,
  Fa 11 0 3,
  Ld 12 11,
  Ct 13 554 [10, 12],
  Un 14 .not 13,
  Mv 15 14,
  Gf 15 (Fa 16 1 2),
  Gf 15 (Ld 17 16),
  Gf 15 (Fa 18 1 3),
  Gf 15 (Ld 19 18),
  Gf 15 (Ct 20 555 [17, 19]),
  Gf 15 (Un 21 .not 20),
  Po 22 15 21,
  Mv 23 22,
  Gf 23 (Fa 24 2 2),
  Gf 23 (Ld 25 24),
  Gf 23 (Fa 26 2 3),
  Gf 23 (Ld 27 26),
  Gf 23 (Ct 28 556 [25, 27]),
  Gf 23 (Un 29 .not 28),
  Po 30 23 29,
  Mv 31 30,
  Gf 31 (Fa 32 3 2),
  Gf 31 (Ld 33 32),
  Gf 31 (Ln 34 0 33),
  Gf 31 (Fa 35 3 3),
  Gf 31 (Ld 36 35),
  Gf 31 (Ln 37 0 36),
  Gf 31 (Bi 38 .neq 34 37),
  Po 39 31 38]
def f479x2 : List AOper := [
  Mc 4 (.bool false)]
def f479x3 : List AOper := [
  Fa 40 3 2,
  Ld 41 40,
  Ln 42 0 41,
  Mc 43 (.int .i64 0)]
def f479x4 : List AOper := [
  Bi 44 .lss 43 42]
def f479x5 : List AOper := [
  Mv 45 43,
  Mv 5 45]
def f479x6 : List AOper := [
  Fa 46 3 2,
  Ld 47 46,
  Mv 48 5,
  Af [1] (Ia 49 3 47 48),
  Af [3, 1] (Ls 50 3 49),
  Fa 51 3 3,
  Ld 52 51,
  Mv 53 5,
  Af [6] (Ia 54 3 52 53),
  Af [8, 6] (Ls 55 3 54),
  Op 6 (.alloc (.agg [.str [], .con (.slice none 0 0), .int .i64 0])),
  Op 7 (.alloc (.agg [.str [], .con (.slice none 0 0), .int .i64 0])),
  Af [4, 10, 11, 3, 1] (St 3 6 50),
  Af [9, 12, 8, 6, 4, 10, 11, 3, 1] (St 3 7 55)]
def f479x7 : List AOper := [
  Fa 56 0 6,
  Ld 57 56,
  Fa 58 0 7,
  Ld 59 58,
  Bi 60 .neq 57 59,
  Mv 61 60,
  Gf 61 (Fa 62 2 6),
  Gf 61 (Ld 63 62),
  Gf 61 (Fa 64 2 7),
  Gf 61 (Ld 65 64),
  Gf 61 (Bi 66 .neq 63 65),
  Po 67 61 66,
  Mv 68 67,
  Gf 68 (Fa 69 1 6),
  Gf 68 (Ld 70 69),
  Gf 68 (Ln 71 0 70),
  Gf 68 (Fa 72 1 7),
  Gf 68 (Ld 73 72),
  Gf 68 (Ln 74 0 73),
  Gf 68 (Bi 75 .neq 71 74),
  Po 76 68 75]
def f479x8 : List AOper := [
  Mc 4 (.bool false)]
def f479x9 : List AOper := [
  Fa 77 1 6,
  Ld 78 77,
  Ln 79 0 78,
  Mc 80 (.int .i64 0)]
def f479x10 : List AOper := [
  Bi 81 .lss 80 79]
def f479x11 : List AOper := [
  Mv 82 80,
  Mv 8 82]
def f479x12 : List AOper := [
  Fa 83 1 6,
  Ld 84 83,
  Mv 85 8,
  Af [1] (Ia 86 4 84 85),
  Af [3, 1] (Ls 87 4 86),
  Fa 88 1 7,
  Ld 89 88,
  Mv 90 8,
  Af [6] (Ia 91 4 89 90),
  Af [8, 6] (Ls 92 4 91),
  Af [4, 9, 3, 1, 8, 6] (Ct 93 557 [87, 92]),
  Un 94 .not 93]
def f479x13 : List AOper := [
  Mc 4 (.bool false)]
def f479x14 : List AOper := [
  Bc 95 .add 80 1,
  Mv 80 95]
def f479x15L : ACode := (.seq (.region f479x10 false) (.seq (.cond (.t 81) .skip (.exit 2)) (.seq (.block 3 (.seq (.region f479x11 false) (.seq (.region f479x12 true) (.cond (.t 94) (.seq (.region f479x13 false) .ret) .skip)))) (.region f479x14 false))))
def f479x16 : List AOper := [
  Bc 96 .add 43 1,
  Mv 43 96]
def f479x17L : ACode := (.seq (.region f479x4 false) (.seq (.cond (.t 44) .skip (.exit 0)) (.seq (.block 1 (.seq (.region f479x5 false) (.seq (.region f479x6 true) (.seq (.seq (.region f479x7 false) (.cond (.t 76) (.seq (.region f479x8 false) .ret) .skip)) (.seq (.region f479x9 false) (.block 2 (.loop f479x15L))))))) (.region f479x16 false))))
def f479x18 : List AOper := [
  Mc 4 (.bool true)]
def f479 : AFunc := ⟨97, 2, false, [.t 4], (.seq (.region f479x0 false) (.seq (.seq (.region f479x1 false) (.cond (.t 39) (.seq (.region f479x2 false) .ret) .skip)) (.seq (.seq (.region f479x3 false) (.block 0 (.loop f479x17L))) (.seq (.region f479x18 false) .ret))))⟩
def f479x17LH : List AItem := [.inLoop f479x17L, .inBlock 0, .code (.seq (.region f479x18 false) .ret)]
def f479x15LH : List AItem := [.inLoop f479x15L, .inBlock 2, .inBlock 1, .code (.region f479x16 false), .inLoop f479x17L, .inBlock 0, .code (.seq (.region f479x18 false) .ret)]
def f566x0 : List AOper := [
  Op 2 (.box (.t 0)),
  Op 4 (.alloc (.agg [.str [], .con (.slice none 0 0), .int .i64 0])),
  Mc 5 (.bool false)]
def f566x1 : List AOper := [
  Fa 11 3 2,
  Ld 12 11,
  Ln 13 0 12,
  Mc 14 (.int .i64 0)]
def f566x2 : List AOper := [
  Bi 15 .lss 14 13]
def f566x3 : List AOper := [
  Ia 16 3 12 14,
  Ls 17 3 16,
  Op 7 (.alloc (.agg [.str [], .con (.slice none 0 0), .int .i64 0])),
  St 3 7 17]
def f566x4 : List AOper := [
  Fa 18 0 7,
  Ld 19 18,
  Mv 20 1,
  Bi 21 .neq 19 20]
def f566x5 : List AOper := [
  Fa 22 0 7,
  Ld 23 22,
  Fa 24 2 7,
  Ld 25 24,
  Op 26 (.build [.str [], .con (.slice none 0 0), .int .i64 0] [(0, 1), (2, 1)] [(.t 23), (.t 25)]),
  Op 8 (.alloc (.agg [.str [], .con (.slice none 0 0), .int .i64 0])),
  St 3 8 26]
def f566x6 : List AOper := [
  Fa 27 1 7,
  Ld 28 27,
  Ln 29 0 28,
  Mc 30 (.int .i64 0)]
def f566x7 : List AOper := [
  Bi 31 .lss 30 29]
def f566x8 : List AOper := [
  Ia 32 4 28 30,
  Ls 33 4 32,
  Op 10 (.alloc (.agg [.str [], .con (.slice none 0 0), .con (.slice none 0 0), .int .i64 0])),
  St 4 10 33]
def f566x9 : List AOper := [
  Fa 34 1 8,
  Ld 35 34,
  Fa 36 0 10,
  Ld 37 36,
  Op 38 (.bsl 6 [.int .i64 0, .str [], .int .i64 0, .int .u32 0, .int .i64 0, .bool false] 0 [] []),
  Fa 39 1 10,
  Ld 40 39,
  Af [4, 6] (Ap 41 6 56 38 40),
  Op 42 (.bsl 5 [.int .i64 0, .int .i64 0, .int .i64 0, .int .u32 0, .int .u32 0] 0 [] []),
  Fa 43 2 10,
  Ld 44 43,
  Af [8, 10, 7, 4, 6] (Ap 45 5 32 42 44),
  Fa 46 3 10,
  Ld 47 46,
  Op 48 (.build [.str [], .con (.slice none 0 0), .con (.slice none 0 0), .int .i64 0] [(0, 1), (1, 1), (2, 1), (3, 1)] [(.t 37), (.t 41), (.t 45), (.t 47)]),
  Af [3, 11, 13, 8, 10, 7, 4, 6] (Op 49 (.bsl 4 [.str [], .con (.slice none 0 0), .con (.slice none 0 0), .int .i64 0] 1 [0] [(.t 48)])),
  Af [1, 15, 3, 11, 13, 8, 10, 7, 4, 6] (Ap 50 4 72 35 49),
  Fa 51 1 8,
  Af [16, 1, 15, 3, 11, 13, 8, 10, 7, 4, 6] (St 1 51 50)]
def f566x10 : List AOper := [
  Bc 52 .add 30 1,
  Mv 30 52]
def f566x11L : ACode := (.seq (.region f566x7 false) (.seq (.cond (.t 31) .skip (.exit 2)) (.seq (.block 3 (.seq (.region f566x8 false) (.region f566x9 true))) (.region f566x10 false))))
def f566x12 : List AOper := [
  Ls 53 3 8,
  St 3 4 53,
  Mc 5 (.bool true)]
def f566x13 : List AOper := [
  Bc 54 .add 14 1,
  Mv 14 54]
def f566x14L : ACode := (.seq (.region f566x2 false) (.seq (.cond (.t 15) .skip (.exit 0)) (.seq (.block 1 (.seq (.region f566x3 false) (.seq (.seq (.region f566x4 false) (.cond (.t 21) (.exit 1) .skip)) (.seq (.region f566x5 false) (.seq (.seq (.region f566x6 false) (.block 2 (.loop f566x11L))) (.seq (.region f566x12 false) .ret)))))) (.region f566x13 false))))
def f566x15 : List AOper := [
  Op 55 (.build [.str [], .con (.slice none 0 0), .int .i64 0] [] []),
  St 3 4 55,
  Mc 5 (.bool false)]
def f566 : AFunc := ⟨56, 2, false, [.cell 4 (some 3), .t 5], (.seq (.region f566x0 false) (.seq (.seq (.region f566x1 false) (.block 0 (.loop f566x14L))) (.seq (.region f566x15 false) .ret)))⟩
def f566x14LH : List AItem := [.inLoop f566x14L, .inBlock 0, .code (.seq (.region f566x15 false) .ret)]
def f566x11LH : List AItem := [.inLoop f566x11L, .inBlock 2, .code (.seq (.region f566x12 false) .ret), .inBlock 1, .code (.region f566x13 false), .inLoop f566x14L, .inBlock 0, .code (.seq (.region f566x15 false) .ret)]
def f506x0 : List AOper := [
  Op 2 (.box (.t 0)),
  Op 4 (.alloc (.agg [.str [], .con (.slice none 0 0), .int .i64 0])),
  Mc 5 (.bool false)]
def f506x1 : List AOper := [
  Fa 8 3 2,
  Ld 9 8,
  Ln 10 0 9,
  Mc 11 (.int .i64 0)]
def f506x2 : List AOper := [
  Bi 12 .lss 11 10]
def f506x3 : List AOper := [
  Ia 13 3 9 11,
  Ls 14 3 13,
  Op 7 (.alloc (.agg [.str [], .con (.slice none 0 0), .int .i64 0])),
  St 3 7 14]
def f506x4 : List AOper := [
  Fa 15 0 7,
  Ld 16 15,
  Mv 17 1,
  Bi 18 .eql 16 17]
def f506x5 : List AOper := [
  Ls 19 3 7,
  St 3 4 19,
  Mc 5 (.bool true)]
def f506x6 : List AOper := [
  Bc 20 .add 11 1,
  Mv 11 20]
def f506x7L : ACode := (.seq (.region f506x2 false) (.seq (.cond (.t 12) .skip (.exit 0)) (.seq (.block 1 (.seq (.region f506x3 false) (.seq (.region f506x4 false) (.cond (.t 18) (.seq (.region f506x5 false) .ret) .skip)))) (.region f506x6 false))))
def f506x8 : List AOper := [
  Op 21 (.build [.str [], .con (.slice none 0 0), .int .i64 0] [] []),
  St 3 4 21,
  Mc 5 (.bool false)]
def f506 : AFunc := ⟨22, 2, false, [.cell 4 (some 3), .t 5], (.seq (.region f506x0 false) (.seq (.seq (.region f506x1 false) (.block 0 (.loop f506x7L))) (.seq (.region f506x8 false) .ret)))⟩
def f506x7LH : List AItem := [.inLoop f506x7L, .inBlock 0, .code (.seq (.region f506x8 false) .ret)]
def f670x0 : List AOper := [
  Op 2 (.box (.t 0)),
  Op 3 (.box (.t 1)),
  Mc 4 (.bool false)]
def f670x1 : List AOper := [
  Fa 5 0 2,
  Ld 6 5,
  Fa 7 0 3,
  Ld 8 7,
  Ca 9 671 [(.t 6), (.t 8), (.c (.fn 672 []))],
  Mv 10 9,
  Gt 10 (Fa 11 1 2),
  Gt 10 (Ld 12 11),
  Gt 10 (Fa 13 1 3),
  Gt 10 (Ld 14 13),
  Gt 10 (Ca 15 674 [(.t 12), (.t 14), (.c (.fn 675 []))]),
  Pa 16 10 15,
  Mv 17 16,
  Gt 17 (Fa 18 2 2),
  Gt 17 (Ld 19 18),
  Gt 17 (Fa 20 2 3),
  Gt 17 (Ld 21 20),
  Gt 17 (Ca 22 677 [(.t 19), (.t 21), (.c (.fn 678 []))]),
  Pa 23 17 22,
  Mv 24 23,
  Gt 24 (Fa 25 3 2),
  Gt 24 (Ld 26 25),
  Gt 24 (Fa 27 3 3),
  Gt 24 (Ld 28 27),
  Gt 24 (Ca 29 680 [(.t 26), (.t 28), (.c (.fn 681 []))]),
  Pa 30 24 29,
  Mv 4 30]
def f670 : AFunc := ⟨31, 2, false, [.t 4], (.seq (.region f670x0 false) (.seq (.region f670x1 false) .ret))⟩
def f435x0 : List AOper := [
  Op 1 (.box (.t 0)),
  Mc 2 (.int .i64 0)]
def f435x1 : List AOper := [
  Fa 14 0 1,
  Ld 15 14,
  Ln 16 0 15,
  Fa 17 1 1,
  Ld 18 17,
  Ln 19 0 18,
  Bi 20 .add 16 19,
  Fa 21 2 1,
  Ld 22 21,
  Ln 23 0 22,
  Bi 24 .add 20 23,
  Fa 25 3 1,
  Ld 26 25,
  Ln 27 0 26,
  Bi 28 .add 24 27,
  Mv 3 28]
def f435x2 : List AOper := [
  Fa 29 0 1,
  Ld 30 29,
  Ln 31 0 30,
  Mc 32 (.int .i64 0)]
def f435x3 : List AOper := [
  Bi 33 .lss 32 31]
def f435x4 : List AOper := [
  Ia 34 2 30 32,
  Ls 35 2 34,
  Op 5 (.alloc (.agg [.str [], .con (.slice none 0 0)])),
  St 2 5 35]
def f435x5 : List AOper := [
  Mv 36 3,
  Fa 37 1 5,
  Ld 38 37,
  Ln 39 0 38,
  Bi 40 .add 36 39,
  Mv 3 40]
def f435x6 : List AOper := [
  Bc 41 .add 32 1,
  Mv 32 41]
def f435x7L : ACode := (.seq (.region f435x3 false) (.seq (.cond (.t 33) .skip (.exit 0)) (.seq (.block 1 (.seq (.region f435x4 false) (.region f435x5 false))) (.region f435x6 false))))
def f435x8 : List AOper := [
  Fa 42 1 1,
  Ld 43 42,
  Ln 44 0 43,
  Mc 45 (.int .i64 0)]
def f435x9 : List AOper := [
  Bi 46 .lss 45 44]
def f435x10 : List AOper := [
  Ia 47 2 43 45,
  Ls 48 2 47,
  Op 7 (.alloc (.agg [.str [], .con (.slice none 0 0)])),
  St 2 7 48]
def f435x11 : List AOper := [
  Mv 49 3,
  Fa 50 1 7,
  Ld 51 50,
  Ln 52 0 51,
  Bi 53 .add 49 52,
  Mv 3 53]
def f435x12 : List AOper := [
  Bc 54 .add 45 1,
  Mv 45 54]
def f435x13L : ACode := (.seq (.region f435x9 false) (.seq (.cond (.t 46) .skip (.exit 2)) (.seq (.block 3 (.seq (.region f435x10 false) (.region f435x11 false))) (.region f435x12 false))))
def f435x14 : List AOper := [
  Fa 55 2 1,
  Ld 56 55,
  Ln 57 0 56,
  Mc 58 (.int .i64 0)]
def f435x15 : List AOper := [
  Bi 59 .lss 58 57]
def f435x16 : List AOper := [
  Ia 60 2 56 58,
  Ls 61 2 60,
  Op 9 (.alloc (.agg [.str [], .con (.slice none 0 0)])),
  St 2 9 61]
def f435x17 : List AOper := [
  Mv 62 3,
  Fa 63 1 9,
  Ld 64 63,
  Ln 65 0 64,
  Bi 66 .add 62 65,
  Mv 3 66]
def f435x18 : List AOper := [
  Bc 67 .add 58 1,
  Mv 58 67]
def f435x19L : ACode := (.seq (.region f435x15 false) (.seq (.cond (.t 59) .skip (.exit 4)) (.seq (.block 5 (.seq (.region f435x16 false) (.region f435x17 false))) (.region f435x18 false))))
def f435x20 : List AOper := [
  Fa 68 3 1,
  Ld 69 68,
  Ln 70 0 69,
  Mc 71 (.int .i64 0)]
def f435x21 : List AOper := [
  Bi 72 .lss 71 70]
def f435x22 : List AOper := [
  Ia 73 3 69 71,
  Ls 74 3 73,
  Op 11 (.alloc (.agg [.str [], .con (.slice none 0 0), .int .i64 0])),
  St 3 11 74]
def f435x23 : List AOper := [
  Mv 75 3,
  Fa 76 1 11,
  Ld 77 76,
  Ln 78 0 77,
  Bi 79 .add 75 78,
  Mv 3 79]
def f435x24 : List AOper := [
  Fa 80 1 11,
  Ld 81 80,
  Ln 82 0 81,
  Mc 83 (.int .i64 0)]
def f435x25 : List AOper := [
  Bi 84 .lss 83 82]
def f435x26 : List AOper := [
  Ia 85 4 81 83,
  Ls 86 4 85,
  Op 13 (.alloc (.agg [.str [], .con (.slice none 0 0), .con (.slice none 0 0), .int .i64 0])),
  St 4 13 86]
def f435x27 : List AOper := [
  Mv 87 3,
  Fa 88 1 13,
  Ld 89 88,
  Ln 90 0 89,
  Fa 91 2 13,
  Ld 92 91,
  Ln 93 0 92,
  Bi 94 .add 90 93,
  Bi 95 .add 87 94,
  Mv 3 95]
def f435x28 : List AOper := [
  Bc 96 .add 83 1,
  Mv 83 96]
def f435x29L : ACode := (.seq (.region f435x25 false) (.seq (.cond (.t 84) .skip (.exit 8)) (.seq (.block 9 (.seq (.region f435x26 false) (.region f435x27 false))) (.region f435x28 false))))
def f435x30 : List AOper := [
  Bc 97 .add 71 1,
  Mv 71 97]
def f435x31L : ACode := (.seq (.region f435x21 false) (.seq (.cond (.t 72) .skip (.exit 6)) (.seq (.block 7 (.seq (.region f435x22 false) (.seq (.region f435x23 false) (.seq (.region f435x24 false) (.block 8 (.loop f435x29L)))))) (.region f435x30 false))))
def f435x32 : List AOper := [
  Mv 98 3,
  Mv 2 98]
def f435 : AFunc := ⟨99, 1, false, [.t 2], (.seq (.region f435x0 false) (.seq (.region f435x1 false) (.seq (.seq (.region f435x2 false) (.block 0 (.loop f435x7L))) (.seq (.seq (.region f435x8 false) (.block 2 (.loop f435x13L))) (.seq (.seq (.region f435x14 false) (.block 4 (.loop f435x19L))) (.seq (.seq (.region f435x20 false) (.block 6 (.loop f435x31L))) (.seq (.region f435x32 false) .ret)))))))⟩
def f435x7LH : List AItem := [.inLoop f435x7L, .inBlock 0, .code (.seq (.seq (.region f435x8 false) (.block 2 (.loop f435x13L))) (.seq (.seq (.region f435x14 false) (.block 4 (.loop f435x19L))) (.seq (.seq (.region f435x20 false) (.block 6 (.loop f435x31L))) (.seq (.region f435x32 false) .ret))))]
def f435x13LH : List AItem := [.inLoop f435x13L, .inBlock 2, .code (.seq (.seq (.region f435x14 false) (.block 4 (.loop f435x19L))) (.seq (.seq (.region f435x20 false) (.block 6 (.loop f435x31L))) (.seq (.region f435x32 false) .ret)))]
def f435x19LH : List AItem := [.inLoop f435x19L, .inBlock 4, .code (.seq (.seq (.region f435x20 false) (.block 6 (.loop f435x31L))) (.seq (.region f435x32 false) .ret))]
def f435x31LH : List AItem := [.inLoop f435x31L, .inBlock 6, .code (.seq (.region f435x32 false) .ret)]
def f435x29LH : List AItem := [.inLoop f435x29L, .inBlock 8, .inBlock 7, .code (.region f435x30 false), .inLoop f435x31L, .inBlock 6, .code (.seq (.region f435x32 false) .ret)]
def f507x0 : List AOper := [
  Op 1 (.box (.t 0)),
  Op 2 (.alloc (.agg [.con (.slice none 0 0), .con (.slice none 0 0), .con (.slice none 0 0), .con (.slice none 0 0)]))]
def f507x1 : List AOper := [
  Op 3 (.alloc (.agg [.con (.slice none 0 0), .con (.slice none 0 0), .con (.slice none 0 0), .con (.slice none 0 0)]))]
def f507x2 : List AOper := [
  Fa 12 0 1,
  Ld 13 12,
  Ln 14 0 13,
  Mc 15 (.int .i64 0)]
def f507x3 : List AOper := [
  Bi 16 .lss 15 14]
def f507x4 : List AOper := [
  Ia 17 2 13 15,
  Ls 18 2 17,
  Op 5 (.alloc (.agg [.str [], .con (.slice none 0 0)])),
  St 2 5 18]
def f507x5 : List AOper := [
  Op 19 (.iarr 4 1 (.t 3) (.c (.int .i64 0))),
  Ld 20 19,
  Fa 21 0 5,
  Ld 22 21,
  Op 23 (.bsl 1 [.str []] 1 [0] [(.t 22)]),
  Ap 24 1 16 20 23,
  Op 25 (.iarr 4 1 (.t 3) (.c (.int .i64 0))),
  St 1 25 24]
def f507x6 : List AOper := [
  Bc 26 .add 15 1,
  Mv 15 26]
def f507x7L : ACode := (.seq (.region f507x3 false) (.seq (.cond (.t 16) .skip (.exit 0)) (.seq (.block 1 (.seq (.region f507x4 false) (.region f507x5 false))) (.region f507x6 false))))
def f507x8 : List AOper := [
  Fa 27 1 1,
  Ld 28 27,
  Ln 29 0 28,
  Mc 30 (.int .i64 0)]
def f507x9 : List AOper := [
  Bi 31 .lss 30 29]
def f507x10 : List AOper := [
  Ia 32 2 28 30,
  Ls 33 2 32,
  Op 7 (.alloc (.agg [.str [], .con (.slice none 0 0)])),
  St 2 7 33]
def f507x11 : List AOper := [
  Op 34 (.iarr 4 1 (.t 3) (.c (.int .i64 1))),
  Ld 35 34,
  Fa 36 0 7,
  Ld 37 36,
  Op 38 (.bsl 1 [.str []] 1 [0] [(.t 37)]),
  Ap 39 1 16 35 38,
  Op 40 (.iarr 4 1 (.t 3) (.c (.int .i64 1))),
  St 1 40 39]
def f507x12 : List AOper := [
  Bc 41 .add 30 1,
  Mv 30 41]
def f507x13L : ACode := (.seq (.region f507x9 false) (.seq (.cond (.t 31) .skip (.exit 2)) (.seq (.block 3 (.seq (.region f507x10 false) (.region f507x11 false))) (.region f507x12 false))))
def f507x14 : List AOper := [
  Fa 42 2 1,
  Ld 43 42,
  Ln 44 0 43,
  Mc 45 (.int .i64 0)]
def f507x15 : List AOper := [
  Bi 46 .lss 45 44]
def f507x16 : List AOper := [
  Ia 47 2 43 45,
  Ls 48 2 47,
  Op 9 (.alloc (.agg [.str [], .con (.slice none 0 0)])),
  St 2 9 48]
def f507x17 : List AOper := [
  Op 49 (.iarr 4 1 (.t 3) (.c (.int .i64 2))),
  Ld 50 49,
  Fa 51 0 9,
  Ld 52 51,
  Op 53 (.bsl 1 [.str []] 1 [0] [(.t 52)]),
  Ap 54 1 16 50 53,
  Op 55 (.iarr 4 1 (.t 3) (.c (.int .i64 2))),
  St 1 55 54]
def f507x18 : List AOper := [
  Bc 56 .add 45 1,
  Mv 45 56]
def f507x19L : ACode := (.seq (.region f507x15 false) (.seq (.cond (.t 46) .skip (.exit 4)) (.seq (.block 5 (.seq (.region f507x16 false) (.region f507x17 false))) (.region f507x18 false))))
def f507x20 : List AOper := [
  Fa 57 3 1,
  Ld 58 57,
  Ln 59 0 58,
  Mc 60 (.int .i64 0)]
def f507x21 : List AOper := [
  Bi 61 .lss 60 59]
def f507x22 : List AOper := [
  Ia 62 3 58 60,
  Ls 63 3 62,
  Op 11 (.alloc (.agg [.str [], .con (.slice none 0 0), .int .i64 0])),
  St 3 11 63]
def f507x23 : List AOper := [
  Op 64 (.iarr 4 1 (.t 3) (.c (.int .i64 3))),
  Ld 65 64,
  Fa 66 0 11,
  Ld 67 66,
  Op 68 (.bsl 1 [.str []] 1 [0] [(.t 67)]),
  Ap 69 1 16 65 68,
  Op 70 (.iarr 4 1 (.t 3) (.c (.int .i64 3))),
  St 1 70 69]
def f507x24 : List AOper := [
  Bc 71 .add 60 1,
  Mv 60 71]
def f507x25L : ACode := (.seq (.region f507x21 false) (.seq (.cond (.t 61) .skip (.exit 6)) (.seq (.block 7 (.seq (.region f507x22 false) (.region f507x23 false))) (.region f507x24 false))))
def f507x26 : List AOper := [
  Ls 72 4 3,
  St 4 2 72]
def f507 : AFunc := ⟨73, 1, false, [.cell 2 (some 4)], (.seq (.region f507x0 false) (.seq (.region f507x1 false) (.seq (.seq (.region f507x2 false) (.block 0 (.loop f507x7L))) (.seq (.seq (.region f507x8 false) (.block 2 (.loop f507x13L))) (.seq (.seq (.region f507x14 false) (.block 4 (.loop f507x19L))) (.seq (.seq (.region f507x20 false) (.block 6 (.loop f507x25L))) (.seq (.region f507x26 false) .ret)))))))⟩
def f508x0 : List AOper := [
  Mc 6 (.int .i64 0)]
def f508x1 : List AOper := [
  Mv 11 0,
  Ln 12 0 11,
  Bc 13 .gtr 12 64]
def f508x2 : List AOper := [
  Mc 6 (.int .i64 4)]
def f508x3 : List AOper := [
  Mv 14 0,
  Ln 15 0 14,
  Mc 16 (.int .i64 0)]
def f508x4 : List AOper := [
  Bi 17 .lss 16 15]
def f508x5 : List AOper := [
  Mv 18 16,
  Ia 19 1 14 16,
  Ld 20 19,
  Mv 7 18,
  Mv 8 20]
def f508x6 : List AOper := [
  Mv 21 0,
  Mv 22 7,
  Op 23 (.slc 1 (.t 21) none (some (.t 22)) none),
  Mv 24 8,
  Ct 25 577 [23, 24],
  Mv 9 25]
def f508x7 : List AOper := [
  Mv 26 9,
  Bc 27 .neq 26 0]
def f508x8 : List AOper := [
  Mv 28 9,
  Mv 6 28]
def f508x9 : List AOper := [
  Mv 29 1,
  Mv 30 7,
  Op 31 (.call (.t 29) [(.t 30)]),
  Bc 32 .gtr 31 64]
def f508x10 : List AOper := [
  Mc 6 (.int .i64 4)]
def f508x11 : List AOper := [
  Mv 33 2,
  Mv 34 7,
  Op 35 (.call (.t 33) [(.t 34)]),
  Mv 10 35]
def f508x12 : List AOper := [
  Mv 36 10,
  Bc 37 .neq 36 0]
def f508x13 : List AOper := [
  Mv 38 10,
  Mv 6 38]
def f508x14 : List AOper := [
  Bc 39 .add 16 1,
  Mv 16 39]
def f508x15L : ACode := (.seq (.region f508x4 false) (.seq (.cond (.t 17) .skip (.exit 0)) (.seq (.block 1 (.seq (.region f508x5 false) (.seq (.seq (.region f508x6 false) (.seq (.region f508x7 false) (.cond (.t 27) (.seq (.region f508x8 false) .ret) .skip))) (.seq (.seq (.region f508x9 false) (.cond (.t 32) (.seq (.region f508x10 false) .ret) .skip)) (.seq (.region f508x11 false) (.seq (.region f508x12 false) (.cond (.t 37) (.seq (.region f508x13 false) .ret) .skip))))))) (.region f508x14 false))))
def f508x16 : List AOper := [
  Mc 6 (.int .i64 0)]
def f508 : AFunc := ⟨40, 3, false, [.t 6], (.seq (.region f508x0 false) (.seq (.seq (.region f508x1 false) (.cond (.t 13) (.seq (.region f508x2 false) .ret) .skip)) (.seq (.seq (.region f508x3 false) (.block 0 (.loop f508x15L))) (.seq (.region f508x16 false) .ret))))⟩
def f509x0 : List AOper := [
  Mc 3 (.int .i64 0)]
def f509x1 : List AOper := [
  Fa 4 0 1,
  Ld 5 4,
  Mv 6 0,
  Ia 7 2 5 6,
  Fa 8 1 7,
  Ld 9 8,
  Ln 10 0 9,
  Mv 3 10]
def f509 : AFunc := ⟨11, 2, false, [.t 3], (.seq (.region f509x0 false) (.seq (.region f509x1 false) .ret))⟩
def f510x0 : List AOper := [
  Mc 3 (.int .i64 0)]
def f510x1 : List AOper := [
  Fa 5 0 1,
  Ld 6 5,
  Mv 7 0,
  Ia 8 2 6 7,
  Fa 9 1 8,
  Ld 10 9,
  Op 4 (.alloc (.con (.slice none 0 0))),
  St 1 4 10]
def f510x2 : List AOper := [
  Ld 11 4,
  Ln 12 0 11,
  Op 13 (.mkfn 512 [(.t 4)]),
  Ct 14 511 [12, 13],
  Mv 3 14]
def f510 : AFunc := ⟨15, 2, false, [.t 3], (.seq (.region f510x0 false) (.seq (.region f510x1 false) (.seq (.region f510x2 false) .ret)))⟩
def f511x0 : List AOper := [
  Mc 4 (.int .i64 0)]
def f511x1 : List AOper := [
  Mv 7 0,
  Mc 8 (.int .i64 0)]
def f511x2 : List AOper := [
  Bi 9 .lss 8 7]
def f511x3 : List AOper := [
  Mv 10 8,
  Mv 5 10]
def f511x4 : List AOper := [
  Mv 11 1,
  Mv 12 5,
  Op 13 (.call (.t 11) [(.t 12)]),
  Mv 6 13]
def f511x5 : List AOper := [
  Mv 14 6,
  Bc 15 .neq 14 0]
def f511x6 : List AOper := [
  Mv 16 6,
  Mv 4 16]
def f511x7 : List AOper := [
  Bc 17 .add 8 1,
  Mv 8 17]
def f511x8L : ACode := (.seq (.region f511x2 false) (.seq (.cond (.t 9) .skip (.exit 0)) (.seq (.block 1 (.seq (.region f511x3 false) (.seq (.region f511x4 false) (.seq (.region f511x5 false) (.cond (.t 15) (.seq (.region f511x6 false) .ret) .skip))))) (.region f511x7 false))))
def f511x9 : List AOper := [
  Mc 4 (.int .i64 0)]
def f511 : AFunc := ⟨18, 2, false, [.t 4], (.seq (.region f511x0 false) (.seq (.seq (.region f511x1 false) (.block 0 (.loop f511x8L))) (.seq (.region f511x9 false) .ret)))⟩
def f512x0 : List AOper := [
  Mc 3 (.int .i64 0)]
def f512x1 : List AOper := [
  Ld 4 1,
  Mv 5 0,
  Ia 6 5 4 5,
  Ls 7 5 6,
  Ct 8 325 [7],
  Mv 3 8]
def f512 : AFunc := ⟨9, 2, false, [.t 3], (.seq (.region f512x0 false) (.seq (.region f512x1 false) .ret))⟩
def f325x0 : List AOper := [
  Op 1 (.box (.t 0)),
  Mc 2 (.int .i64 0)]
def f325x1 : List AOper := [
  Fa 4 1 1,
  Ls 5 2 4,
  Ct 6 178 [5],
  Un 7 .not 6,
  Mv 3 7]
def f325x2 : List AOper := [
  Mc 2 (.int .i64 1)]
def f325x3 : List AOper := [
  Fa 9 3 1,
  Ld 10 9,
  Fa 11 1 1,
  Fa 12 1 11,
  Ld 13 12,
  Bi 14 .lss 10 13,
  Mv 15 14,
  Gf 15 (Fa 16 4 1),
  Gf 15 (Ld 17 16),
  Gf 15 (Fa 18 3 1),
  Gf 15 (Ld 19 18),
  Gf 15 (Bi 20 .lss 17 19),
  Po 21 15 20,
  Mv 22 21,
  Gf 22 (Fa 23 4 1),
  Gf 22 (Ld 24 23),
  Gf 22 (Bc 25 .gtr 24 32),
  Po 26 22 25,
  Mv 8 26]
def f325x4 : List AOper := [
  Mc 2 (.int .i64 5)]
def f325x5 : List AOper := [
  Mc 2 (.int .i64 0)]
def f325 : AFunc := ⟨27, 1, false, [.t 2], (.seq (.region f325x0 false) (.seq (.block 0 (.seq (.region f325x1 false) (.cond (.t 3) (.seq (.region f325x2 false) .ret) (.seq (.region f325x3 false) (.cond (.t 8) (.seq (.region f325x4 false) .ret) .skip))))) (.seq (.region f325x5 false) .ret)))⟩
def f513x0 : List AOper := [
  Mc 3 (.int .i64 0)]
def f513x1 : List AOper := [
  Fa 4 1 1,
  Ld 5 4,
  Mv 6 0,
  Ia 7 2 5 6,
  Fa 8 1 7,
  Ld 9 8,
  Ln 10 0 9,
  Mv 3 10]
def f513 : AFunc := ⟨11, 2, false, [.t 3], (.seq (.region f513x0 false) (.seq (.region f513x1 false) .ret))⟩
def f514x0 : List AOper := [
  Mc 3 (.int .i64 0)]
def f514x1 : List AOper := [
  Fa 5 1 1,
  Ld 6 5,
  Mv 7 0,
  Ia 8 2 6 7,
  Fa 9 1 8,
  Ld 10 9,
  Op 4 (.alloc (.con (.slice none 0 0))),
  St 1 4 10]
def f514x2 : List AOper := [
  Ld 11 4,
  Ln 12 0 11,
  Op 13 (.mkfn 515 [(.t 4)]),
  Ct 14 511 [12, 13],
  Mv 3 14]
def f514 : AFunc := ⟨15, 2, false, [.t 3], (.seq (.region f514x0 false) (.seq (.region f514x1 false) (.seq (.region f514x2 false) .ret)))⟩
def f515x0 : List AOper := [
  Mc 3 (.int .i64 0)]
def f515x1 : List AOper := [
  Ld 7 1,
  Mv 8 0,
  Ia 9 2 7 8,
  Fa 10 1 9,
  Ld 11 10,
  Ct 12 516 [11],
  Mv 6 12,
  Ex 13 6 0,
  Ex 14 6 1,
  Op 4 (.alloc (.agg [.int .i64 0, .int .i64 0, .int .i64 0, .con (.slice none 0 0)])),
  St 4 4 13,
  Mv 5 14]
def f515x2 : List AOper := [
  Mv 15 5,
  Mv 3 15]
def f515 : AFunc := ⟨16, 2, false, [.t 3], (.seq (.region f515x0 false) (.seq (.region f515x1 false) (.seq (.region f515x2 false) .ret)))⟩
def f517x0 : List AOper := [
  Mc 3 (.int .i64 0)]
def f517x1 : List AOper := [
  Fa 4 2 1,
  Ld 5 4,
  Mv 6 0,
  Ia 7 2 5 6,
  Fa 8 1 7,
  Ld 9 8,
  Ln 10 0 9,
  Mv 3 10]
def f517 : AFunc := ⟨11, 2, false, [.t 3], (.seq (.region f517x0 false) (.seq (.region f517x1 false) .ret))⟩
def f518x0 : List AOper := [
  Mc 3 (.int .i64 0)]
def f518x1 : List AOper := [
  Fa 5 2 1,
  Ld 6 5,
  Mv 7 0,
  Ia 8 2 6 7,
  Fa 9 1 8,
  Ld 10 9,
  Op 4 (.alloc (.con (.slice none 0 0))),
  St 1 4 10]
def f518x2 : List AOper := [
  Ld 11 4,
  Ln 12 0 11,
  Op 13 (.mkfn 519 [(.t 4)]),
  Ct 14 511 [12, 13],
  Mv 3 14]
def f518 : AFunc := ⟨15, 2, false, [.t 3], (.seq (.region f518x0 false) (.seq (.region f518x1 false) (.seq (.region f518x2 false) .ret)))⟩
def f519x0 : List AOper := [
  Mc 3 (.int .i64 0)]
def f519x1 : List AOper := [
  Ld 4 1,
  Mv 5 0,
  Ia 6 3 4 5,
  Ls 7 3 6,
  Ct 8 520 [7],
  Mv 3 8]
def f519 : AFunc := ⟨9, 2, false, [.t 3], (.seq (.region f519x0 false) (.seq (.region f519x1 false) .ret))⟩
def f520x0 : List AOper := [
  Op 1 (.box (.t 0)),
  Mc 2 (.int .i64 0)]
def f520x1 : List AOper := [
  Fa 3 1 1,
  Ld 4 3,
  Ca 5 581 [(.t 4), (.c (.int .i64 (-1))), (.c (.int .i64 65535))],
  Un 6 .not 5,
  Mv 7 6,
  Gf 7 (Fa 8 2 1),
  Gf 7 (Ld 9 8),
  Gf 7 (Ca 10 581 [(.t 9), (.c (.int .i64 (-1))), (.c (.int .i64 65535))]),
  Gf 7 (Un 11 .not 10),
  Po 12 7 11]
def f520x2 : List AOper := [
  Mc 2 (.int .i64 5)]
def f520x3 : List AOper := [
  Mc 2 (.int .i64 0)]
def f520 : AFunc := ⟨13, 1, false, [.t 2], (.seq (.region f520x0 false) (.seq (.seq (.region f520x1 false) (.cond (.t 12) (.seq (.region f520x2 false) .ret) .skip)) (.seq (.region f520x3 false) .ret)))⟩
def f521x0 : List AOper := [
  Mc 3 (.int .i64 0)]
def f521x1 : List AOper := [
  Fa 4 3 1,
  Ld 5 4,
  Mv 6 0,
  Ia 7 3 5 6,
  Fa 8 1 7,
  Ld 9 8,
  Ln 10 0 9,
  Mv 3 10]
def f521 : AFunc := ⟨11, 2, false, [.t 3], (.seq (.region f521x0 false) (.seq (.region f521x1 false) .ret))⟩
def f522x0 : List AOper := [
  Mc 4 (.int .i64 0)]
def f522x1 : List AOper := [
  Ls 5 4 1,
  Fa 6 3 2,
  Ld 7 6,
  Mv 8 0,
  Af [2] (Ia 9 3 7 8),
  Af [4, 2] (Ls 10 3 9),
  Af [0, 5, 4, 2] (Ct 11 523 [5, 10]),
  Mv 4 11]
def f522 : AFunc := ⟨12, 3, false, [.t 4], (.seq (.region f522x0 false) (.seq (.region f522x1 true) .ret))⟩
def f523x0 : List AOper := [
  Op 2 (.box (.t 0)),
  Op 3 (.box (.t 1)),
  Mc 4 (.int .i64 0)]
def f523x1 : List AOper := [
  Fa 8 1 3,
  Ld 9 8,
  Ln 10 0 9,
  Mc 11 (.int .i64 0)]
def f523x2 : List AOper := [
  Bi 12 .lss 11 10]
def f523x3 : List AOper := [
  Mv 13 11,
  Ia 14 4 9 11,
  Ls 15 4 14,
  Op 6 (.alloc (.agg [.str [], .con (.slice none 0 0), .con (.slice none 0 0), .int .i64 0])),
  Mv 5 13,
  St 4 6 15]
def f523x4 : List AOper := [
  Ls 16 4 2,
  Fa 17 1 3,
  Ld 18 17,
  Mv 19 5,
  Af [2] (Op 20 (.slc 4 (.t 18) none (some (.t 19)) none)),
  Ls 21 4 6,
  Af [0, 4, 5, 2] (Ct 22 582 [16, 20, 21]),
  Mv 7 22]
def f523x5 : List AOper := [
  Mv 23 7,
  Bc 24 .neq 23 0]
def f523x6 : List AOper := [
  Mv 25 7,
  Mv 4 25]
def f523x7 : List AOper := [
  Bc 26 .add 11 1,
  Mv 11 26]
def f523x8L : ACode := (.seq (.region f523x2 false) (.seq (.cond (.t 12) .skip (.exit 0)) (.seq (.block 1 (.seq (.region f523x3 false) (.seq (.region f523x4 true) (.seq (.region f523x5 false) (.cond (.t 24) (.seq (.region f523x6 false) .ret) .skip))))) (.region f523x7 false))))
def f523x9 : List AOper := [
  Fa 27 2 3,
  Ld 28 27,
  Bc 29 .neq 28 1,
  Mv 30 29,
  Gt 30 (Fa 31 2 3),
  Gt 30 (Ld 32 31),
  Gt 30 (Bc 33 .neq 32 2),
  Pa 34 30 33]
def f523x10 : List AOper := [
  Mc 4 (.int .i64 15)]
def f523x11 : List AOper := [
  Mc 4 (.int .i64 0)]
def f523 : AFunc := ⟨35, 2, false, [.t 4], (.seq (.region f523x0 false) (.seq (.seq (.region f523x1 false) (.block 0 (.loop f523x8L))) (.seq (.seq (.region f523x9 false) (.cond (.t 34) (.seq (.region f523x10 false) .ret) .skip)) (.seq (.region f523x11 false) .ret))))⟩
def f332x0 : List AOper := [
  Op 1 (.box (.t 0)),
  Mc 2 (.str []),
  Mc 3 (.int .i64 0)]
def f332x1 : List AOper := [
  Ls 6 5 1,
  Ct 7 325 [6],
  Mv 4 7]
def f332x2 : List AOper := [
  Mv 8 4,
  Bc 9 .neq 8 0]
def f332x3 : List AOper := [
  Mv 10 4,
  Mc 2 (.str []),
  Mv 3 10]
def f332x4 : List AOper := [
  Mc 5 (.str [100, 101, 110, 121, 32])]
def f332x5 : List AOper := [
  Fa 11 0 1,
  Ld 12 11]
def f332x6 : List AOper := [
  Mc 5 (.str [112, 101, 114, 109, 105, 116, 32])]
def f332x7 : List AOper := [
  Mv 13 5,
  Fa 14 1 1,
  Ls 15 2 14,
  Ct 16 229 [15],
  Bi 17 .add 13 16,
  Mv 5 17]
def f332x8 : List AOper := [
  Fa 18 3 1,
  Ld 19 18,
  Fa 20 1 1,
  Fa 21 1 20,
  Ld 22 21,
  Bi 23 .neq 19 22,
  Mv 24 23,
  Gf 24 (Fa 25 4 1),
  Gf 24 (Ld 26 25),
  Gf 24 (Fa 27 1 1),
  Gf 24 (Fa 28 1 27),
  Gf 24 (Ld 29 28),
  Gf 24 (Bi 30 .neq 26 29),
  Po 31 24 30]
def f332x9 : List AOper := [
  Mv 32 5,
  Fa 33 3 1,
  Ld 34 33,
  Af [2] (Ct 35 337 [34]),
  Op 36 (.bin .add (.c (.str [32])) (.t 35)),
  Op 37 (.bin .add (.t 36) (.c (.str [45]))),
  Fa 38 4 1,
  Ld 39 38,
  Af [7, 3, 2] (Ct 40 337 [39]),
  Bi 41 .add 37 40,
  Bi 42 .add 32 41,
  Mv 5 42]
def f332x10 : List AOper := [
  Mv 43 5,
  Mv 2 43,
  Mc 3 (.int .i64 0)]
def f332 : AFunc := ⟨44, 1, false, [.t 2, .t 3], (.seq (.region f332x0 false) (.seq (.seq (.region f332x1 false) (.seq (.region f332x2 false) (.cond (.t 9) (.seq (.region f332x3 false) .ret) .skip))) (.seq (.region f332x4 false) (.seq (.seq (.region f332x5 false) (.cond (.t 12) (.region f332x6 false) .skip)) (.seq (.region f332x7 false) (.seq (.seq (.region f332x8 false) (.cond (.t 31) (.region f332x9 true) .skip)) (.seq (.region f332x10 false) .ret)))))))⟩
def f452x0 : List AOper := [
  Mc 2 (.str [])]
def f452x1 : List AOper := [
  Mv 3 0]
def f452x2 : List AOper := [
  Mc 2 (.str [112, 101, 114, 109, 105, 116, 32])]
def f452x3 : List AOper := [
  Mc 2 (.str [100, 101, 110, 121, 32])]
def f452 : AFunc := ⟨4, 1, false, [.t 2], (.seq (.region f452x0 false) (.seq (.seq (.region f452x1 false) (.cond (.t 3) (.seq (.region f452x2 false) .ret) .skip)) (.seq (.region f452x3 false) .ret)))⟩
def f453x0 : List AOper := [
  Mc 2 (.str [])]
def f453x1 : List AOper := [
  Mv 3 0,
  Bc 4 .lss 3 0]
def f453x2 : List AOper := [
  Mc 2 (.str [42])]
def f453x3 : List AOper := [
  Mv 5 0,
  Ct 6 337 [5],
  Mv 2 6]
def f453 : AFunc := ⟨7, 1, false, [.t 2], (.seq (.region f453x0 false) (.seq (.seq (.region f453x1 false) (.cond (.t 4) (.seq (.region f453x2 false) .ret) .skip)) (.seq (.region f453x3 false) .ret)))⟩
def f454x0 : List AOper := [
  Op 1 (.box (.t 0)),
  Mc 2 (.str [])]
def f454x1 : List AOper := [
  Fa 11 0 1,
  Ld 12 11,
  Op 13 (.bin .add (.c (.str [112, 111, 108, 105, 99, 121, 32])) (.t 12)),
  Op 14 (.bin .add (.t 13) (.c (.str [10]))),
  Mv 3 14]
def f454x2 : List AOper := [
  Fa 15 1 1,
  Ld 16 15,
  Ln 17 0 16,
  Mc 18 (.int .i64 0)]
def f454x3 : List AOper := [
  Bi 19 .lss 18 17]
def f454x4 : List AOper := [
  Ia 20 4 16 18,
  Ls 21 4 20,
  Op 5 (.alloc (.agg [.str [], .con (.slice none 0 0), .con (.slice none 0 0), .int .i64 0])),
  St 4 5 21]
def f454x5 : List AOper := [
  Mv 22 3,
  Fa 23 0 5,
  Ld 24 23,
  Op 25 (.bin .add (.c (.str [116, 101, 114, 109, 32])) (.t 24)),
  Op 26 (.bin .add (.t 25) (.c (.str [10]))),
  Bi 27 .add 22 26,
  Mv 3 27]
def f454x6 : List AOper := [
  Fa 28 1 5,
  Ld 29 28,
  Ln 30 0 29,
  Mc 31 (.int .i64 0)]
def f454x7 : List AOper := [
  Bi 32 .lss 31 30]
def f454x8 : List AOper := [
  Ia 33 6 29 31,
  Ls 34 6 33,
  Op 7 (.alloc (.agg [.int .i64 0, .str [], .int .i64 0, .int .u32 0, .int .i64 0, .bool false])),
  St 6 7 34]
def f454x9 : List AOper := [
  Mc 8 (.str [])]
def f454x10 : List AOper := [
  Fa 35 5 7,
  Ld 36 35]
def f454x11 : List AOper := [
  Mc 8 (.str [110, 111, 116, 32])]
def f454x12 : List AOper := [
  Mv 37 3,
  Mv 38 8,
  Op 39 (.bin .add (.c (.str [109, 97, 116, 99, 104, 32])) (.t 38)),
  Ls 40 6 7,
  Ct 41 524 [40],
  Bi 42 .add 39 41,
  Op 43 (.bin .add (.t 42) (.c (.str [10]))),
  Bi 44 .add 37 43,
  Mv 3 44]
def f454x13 : List AOper := [
  Bc 45 .add 31 1,
  Mv 31 45]
def f454x14L : ACode := (.seq (.region f454x7 false) (.seq (.cond (.t 32) .skip (.exit 2)) (.seq (.block 3 (.seq (.region f454x8 false) (.seq (.region f454x9 false) (.seq (.seq (.region f454x10 false) (.cond (.t 36) (.region f454x11 false) .skip)) (.region f454x12 false))))) (.region f454x13 false))))
def f454x15 : List AOper := [
  Fa 46 2 5,
  Ld 47 46,
  Ln 48 0 47,
  Mc 49 (.int .i64 0)]
def f454x16 : List AOper := [
  Bi 50 .lss 49 48]
def f454x17 : List AOper := [
  Ia 51 5 47 49,
  Ls 52 5 51,
  Op 10 (.alloc (.agg [.int .i64 0, .int .i64 0, .int .i64 0, .int .u32 0, .int .u32 0])),
  St 5 10 52]
def f454x18 : List AOper := [
  Mv 53 3,
  Ls 54 5 10,
  Ct 55 525 [54],
  Op 56 (.bin .add (.c (.str [115, 101, 116, 32])) (.t 55)),
  Op 57 (.bin .add (.t 56) (.c (.str [10]))),
  Bi 58 .add 53 57,
  Mv 3 58]
def f454x19 : List AOper := [
  Bc 59 .add 49 1,
  Mv 49 59]
def f454x20L : ACode := (.seq (.region f454x16 false) (.seq (.cond (.t 50) .skip (.exit 4)) (.seq (.block 5 (.seq (.region f454x17 false) (.region f454x18 false))) (.region f454x19 false))))
def f454x21 : List AOper := [
  Mv 60 3,
  Fa 61 3 5,
  Ld 62 61,
  Ct 63 526 [62],
  Op 64 (.bin .add (.t 63) (.c (.str [10]))),
  Bi 65 .add 60 64,
  Mv 3 65]
def f454x22 : List AOper := [
  Bc 66 .add 18 1,
  Mv 18 66]
def f454x23L : ACode := (.seq (.region f454x3 false) (.seq (.cond (.t 19) .skip (.exit 0)) (.seq (.block 1 (.seq (.region f454x4 false) (.seq (.region f454x5 false) (.seq (.seq (.region f454x6 false) (.block 2 (.loop f454x14L))) (.seq (.seq (.region f454x15 false) (.block 4 (.loop f454x20L))) (.region f454x21 false)))))) (.region f454x22 false))))
def f454x24 : List AOper := [
  Mv 67 3,
  Op 68 (.bin .add (.t 67) (.c (.str [100, 101, 102, 97, 117, 108, 116, 32]))),
  Fa 69 2 1,
  Ld 70 69,
  Ct 71 526 [70],
  Bi 72 .add 68 71,
  Op 73 (.bin .add (.t 72) (.c (.str [10]))),
  Mv 2 73]
def f454 : AFunc := ⟨74, 1, false, [.t 2], (.seq (.region f454x0 false) (.seq (.region f454x1 false) (.seq (.seq (.region f454x2 false) (.block 0 (.loop f454x23L))) (.seq (.region f454x24 false) .ret))))⟩
def f466x0 : List AOper := [
  Mv 7 0,
  Op 8 (.mkfn 1049117 [(.t 7)]),
  Mv 5 8]
def f466x1 : List AOper := [
  Mv 9 0,
  Nc 10 9,
  Fa 11 10 10,
  Ld 12 11]
def f466x2 : List AOper := [
  Mv 13 0,
  Op 14 (.mkfn 1049118 [(.t 13)]),
  Mv 5 14]
def f466x3 : List AOper := [
  Mv 15 0,
  Nc 16 15,
  Fa 17 9 16,
  Ld 18 17]
def f466x4 : List AOper := [
  Mv 19 0,
  Op 20 (.mkfn 1049119 [(.t 19)]),
  Mv 5 20]
def f466x5 : List AOper := [
  Mv 21 5,
  Mv 22 1,
  Op 23 (.call (.t 21) [(.t 22)])]
def f466x6 : List AOper := [
  ⟨none, .store 1 (.t 4) (.c (.int .i64 0)), none, []⟩]
def g466 : AGuard := ⟨24, 2, [Op 4 (.alloc (.int .i64 0))], [Op 6 (.mkfn 540 [(.t 4)])], (.t 6), (.seq (.region f466x0 false) (.seq (.seq (.region f466x1 false) (.cond (.t 12) (.region f466x2 false) (.seq (.region f466x3 false) (.cond (.t 18) (.region f466x4 false) .skip)))) (.seq (.region f466x5 false) (.seq (.region f466x6 false) .ret)))), [.cell 4 none]⟩
def f554x0 : List AOper := [
  Mc 4 (.bool false)]
def f554x1 : List AOper := [
  Mv 7 0,
  Ln 8 0 7,
  Mv 9 1,
  Ln 10 0 9,
  Bi 11 .neq 8 10]
def f554x2 : List AOper := [
  Mc 4 (.bool false)]
def f554x3 : List AOper := [
  Mv 12 0,
  Ln 13 0 12,
  Mc 14 (.int .i64 0)]
def f554x4 : List AOper := [
  Bi 15 .lss 14 13]
def f554x5 : List AOper := [
  Mv 16 14,
  Mv 5 16]
def f554x6 : List AOper := [
  Mv 17 0,
  Mv 18 5,
  Ia 19 2 17 18,
  Fa 20 0 19,
  Af [2] (Ld 21 20),
  Mv 22 1,
  Mv 23 5,
  Ia 24 2 22 23,
  Fa 25 0 24,
  Af [7] (Ld 26 25),
  Bi 27 .neq 21 26,
  Mv 28 27,
  Gf 28 (Mv 29 0),
  Gf 28 (Mv 30 5),
  Af [4, 9, 2, 7] (Gf 28 (Ia 31 2 29 30)),
  Gf 28 (Fa 32 1 31),
  Af [14, 4, 9, 2, 7] (Gf 28 (Ld 33 32)),
  Af [16, 14, 4, 9, 2, 7] (Gf 28 (Ln 34 0 33)),
  Gf 28 (Mv 35 1),
  Gf 28 (Mv 36 5),
  Af [4, 9, 2, 7] (Gf 28 (Ia 37 2 35 36)),
  Gf 28 (Fa 38 1 37),
  Af [20, 4, 9, 2, 7] (Gf 28 (Ld 39 38)),
  Af [22, 20, 4, 9, 2, 7] (Gf 28 (Ln 40 0 39)),
  Gf 28 (Bi 41 .neq 34 40),
  Po 42 28 41]
def f554x7 : List AOper := [
  Mc 4 (.bool false)]
def f554x8 : List AOper := [
  Mv 43 0,
  Mv 44 5,
  Ia 45 2 43 44,
  Fa 46 1 45,
  Ld 47 46,
  Ln 48 0 47,
  Mc 49 (.int .i64 0)]
def f554x9 : List AOper := [
  Bi 50 .lss 49 48]
def f554x10 : List AOper := [
  Mv 51 49,
  Mv 6 51]
def f554x11 : List AOper := [
  Mv 52 0,
  Mv 53 5,
  Ia 54 2 52 53,
  Fa 55 1 54,
  Af [2] (Ld 56 55),
  Mv 57 6,
  Af [4, 2] (Ia 58 5 56 57),
  Af [6, 4, 2] (Ls 59 5 58),
  Mv 60 1,
  Mv 61 5,
  Ia 62 2 60 61,
  Fa 63 1 62,
  Af [10] (Ld 64 63),
  Mv 65 6,
  Af [12, 10] (Ia 66 5 64 65),
  Af [14, 12, 10] (Ls 67 5 66),
  Op 68 (.eqs [.bool, .int, .int, .int, .int] true (.t 59) (.t 67))]
def f554x12 : List AOper := [
  Mc 4 (.bool false)]
def f554x13 : List AOper := [
  Bc 69 .add 49 1,
  Mv 49 69]
def f554x14L : ACode := (.seq (.region f554x9 false) (.seq (.cond (.t 50) .skip (.exit 2)) (.seq (.block 3 (.seq (.region f554x10 false) (.seq (.region f554x11 true) (.cond (.t 68) (.seq (.region f554x12 false) .ret) .skip)))) (.region f554x13 false))))
def f554x15 : List AOper := [
  Bc 70 .add 14 1,
  Mv 14 70]
def f554x16L : ACode := (.seq (.region f554x4 false) (.seq (.cond (.t 15) .skip (.exit 0)) (.seq (.block 1 (.seq (.region f554x5 false) (.seq (.seq (.region f554x6 true) (.cond (.t 42) (.seq (.region f554x7 false) .ret) .skip)) (.seq (.region f554x8 false) (.block 2 (.loop f554x14L)))))) (.region f554x15 false))))
def f554x17 : List AOper := [
  Mc 4 (.bool true)]
def f554 : AFunc := ⟨71, 2, false, [.t 4], (.seq (.region f554x0 false) (.seq (.seq (.region f554x1 false) (.cond (.t 11) (.seq (.region f554x2 false) .ret) .skip)) (.seq (.seq (.region f554x3 false) (.block 0 (.loop f554x16L))) (.seq (.region f554x17 false) .ret))))⟩
def f554x16LH : List AItem := [.inLoop f554x16L, .inBlock 0, .code (.seq (.region f554x17 false) .ret)]
def f554x14LH : List AItem := [.inLoop f554x14L, .inBlock 2, .inBlock 1, .code (.region f554x15 false), .inLoop f554x16L, .inBlock 0, .code (.seq (.region f554x17 false) .ret)]
def f555x0 : List AOper := [
  Mc 4 (.bool false)]
def f555x1 : List AOper := [
  Mv 7 0,
  Ln 8 0 7,
  Mv 9 1,
  Ln 10 0 9,
  Bi 11 .neq 8 10]
def f555x2 : List AOper := [
  Mc 4 (.bool false)]
def f555x3 : List AOper := [
  Mv 12 0,
  Ln 13 0 12,
  Mc 14 (.int .i64 0)]
def f555x4 : List AOper := [
  Bi 15 .lss 14 13]
def f555x5 : List AOper := [
  Mv 16 14,
  Mv 5 16]
def f555x6 : List AOper := [
  Mv 17 0,
  Mv 18 5,
  Ia 19 2 17 18,
  Fa 20 0 19,
  Af [2] (Ld 21 20),
  Mv 22 1,
  Mv 23 5,
  Ia 24 2 22 23,
  Fa 25 0 24,
  Af [7] (Ld 26 25),
  Bi 27 .neq 21 26,
  Mv 28 27,
  Gf 28 (Mv 29 0),
  Gf 28 (Mv 30 5),
  Af [4, 9, 2, 7] (Gf 28 (Ia 31 2 29 30)),
  Gf 28 (Fa 32 1 31),
  Af [14, 4, 9, 2, 7] (Gf 28 (Ld 33 32)),
  Af [16, 14, 4, 9, 2, 7] (Gf 28 (Ln 34 0 33)),
  Gf 28 (Mv 35 1),
  Gf 28 (Mv 36 5),
  Af [4, 9, 2, 7] (Gf 28 (Ia 37 2 35 36)),
  Gf 28 (Fa 38 1 37),
  Af [20, 4, 9, 2, 7] (Gf 28 (Ld 39 38)),
  Af [22, 20, 4, 9, 2, 7] (Gf 28 (Ln 40 0 39)),
  Gf 28 (Bi 41 .neq 34 40),
  Po 42 28 41]
def f555x7 : List AOper := [
  Mc 4 (.bool false)]
def f555x8 : List AOper := [
  Mv 43 0,
  Mv 44 5,
  Ia 45 2 43 44,
  Fa 46 1 45,
  Ld 47 46,
  Ln 48 0 47,
  Mc 49 (.int .i64 0)]
def f555x9 : List AOper := [
  Bi 50 .lss 49 48]
def f555x10 : List AOper := [
  Mv 51 49,
  Mv 6 51]
def f555x11 : List AOper := [
  Mv 52 0,
  Mv 53 5,
  Ia 54 2 52 53,
  Fa 55 1 54,
  Af [2] (Ld 56 55),
  Mv 57 6,
  Af [4, 2] (Ia 58 2 56 57),
  Af [6, 4, 2] (Ls 59 2 58),
  Mv 60 1,
  Mv 61 5,
  Ia 62 2 60 61,
  Fa 63 1 62,
  Af [10] (Ld 64 63),
  Mv 65 6,
  Af [12, 10] (Ia 66 2 64 65),
  Af [14, 12, 10] (Ls 67 2 66),
  Op 68 (.eqs [.bool, .str] true (.t 59) (.t 67))]
def f555x12 : List AOper := [
  Mc 4 (.bool false)]
def f555x13 : List AOper := [
  Bc 69 .add 49 1,
  Mv 49 69]
def f555x14L : ACode := (.seq (.region f555x9 false) (.seq (.cond (.t 50) .skip (.exit 2)) (.seq (.block 3 (.seq (.region f555x10 false) (.seq (.region f555x11 true) (.cond (.t 68) (.seq (.region f555x12 false) .ret) .skip)))) (.region f555x13 false))))
def f555x15 : List AOper := [
  Bc 70 .add 14 1,
  Mv 14 70]
def f555x16L : ACode := (.seq (.region f555x4 false) (.seq (.cond (.t 15) .skip (.exit 0)) (.seq (.block 1 (.seq (.region f555x5 false) (.seq (.seq (.region f555x6 true) (.cond (.t 42) (.seq (.region f555x7 false) .ret) .skip)) (.seq (.region f555x8 false) (.block 2 (.loop f555x14L)))))) (.region f555x15 false))))
def f555x17 : List AOper := [
  Mc 4 (.bool true)]
def f555 : AFunc := ⟨71, 2, false, [.t 4], (.seq (.region f555x0 false) (.seq (.seq (.region f555x1 false) (.cond (.t 11) (.seq (.region f555x2 false) .ret) .skip)) (.seq (.seq (.region f555x3 false) (.block 0 (.loop f555x16L))) (.seq (.region f555x17 false) .ret))))⟩
def f555x16LH : List AItem := [.inLoop f555x16L, .inBlock 0, .code (.seq (.region f555x17 false) .ret)]
def f555x14LH : List AItem := [.inLoop f555x14L, .inBlock 2, .inBlock 1, .code (.region f555x15 false), .inLoop f555x16L, .inBlock 0, .code (.seq (.region f555x17 false) .ret)]
def f556x0 : List AOper := [
  Mc 4 (.bool false)]
def f556x1 : List AOper := [
  Mv 7 0,
  Ln 8 0 7,
  Mv 9 1,
  Ln 10 0 9,
  Bi 11 .neq 8 10]
def f556x2 : List AOper := [
  Mc 4 (.bool false)]
def f556x3 : List AOper := [
  Mv 12 0,
  Ln 13 0 12,
  Mc 14 (.int .i64 0)]
def f556x4 : List AOper := [
  Bi 15 .lss 14 13]
def f556x5 : List AOper := [
  Mv 16 14,
  Mv 5 16]
def f556x6 : List AOper := [
  Mv 17 0,
  Mv 18 5,
  Ia 19 2 17 18,
  Fa 20 0 19,
  Af [2] (Ld 21 20),
  Mv 22 1,
  Mv 23 5,
  Ia 24 2 22 23,
  Fa 25 0 24,
  Af [7] (Ld 26 25),
  Bi 27 .neq 21 26,
  Mv 28 27,
  Gf 28 (Mv 29 0),
  Gf 28 (Mv 30 5),
  Af [4, 9, 2, 7] (Gf 28 (Ia 31 2 29 30)),
  Gf 28 (Fa 32 1 31),
  Af [14, 4, 9, 2, 7] (Gf 28 (Ld 33 32)),
  Af [16, 14, 4, 9, 2, 7] (Gf 28 (Ln 34 0 33)),
  Gf 28 (Mv 35 1),
  Gf 28 (Mv 36 5),
  Af [4, 9, 2, 7] (Gf 28 (Ia 37 2 35 36)),
  Gf 28 (Fa 38 1 37),
  Af [20, 4, 9, 2, 7] (Gf 28 (Ld 39 38)),
  Af [22, 20, 4, 9, 2, 7] (Gf 28 (Ln 40 0 39)),
  Gf 28 (Bi 41 .neq 34 40),
  Po 42 28 41]
def f556x7 : List AOper := [
  Mc 4 (.bool false)]
def f556x8 : List AOper := [
  Mv 43 0,
  Mv 44 5,
  Ia 45 2 43 44,
  Fa 46 1 45,
  Ld 47 46,
  Ln 48 0 47,
  Mc 49 (.int .i64 0)]
def f556x9 : List AOper := [
  Bi 50 .lss 49 48]
def f556x10 : List AOper := [
  Mv 51 49,
  Mv 6 51]
def f556x11 : List AOper := [
  Mv 52 0,
  Mv 53 5,
  Ia 54 2 52 53,
  Fa 55 1 54,
  Af [2] (Ld 56 55),
  Mv 57 6,
  Af [4, 2] (Ia 58 3 56 57),
  Af [6, 4, 2] (Ls 59 3 58),
  Mv 60 1,
  Mv 61 5,
  Ia 62 2 60 61,
  Fa 63 1 62,
  Af [10] (Ld 64 63),
  Mv 65 6,
  Af [12, 10] (Ia 66 3 64 65),
  Af [14, 12, 10] (Ls 67 3 66),
  Op 68 (.eqs [.bool, .int, .int] true (.t 59) (.t 67))]
def f556x12 : List AOper := [
  Mc 4 (.bool false)]
def f556x13 : List AOper := [
  Bc 69 .add 49 1,
  Mv 49 69]
def f556x14L : ACode := (.seq (.region f556x9 false) (.seq (.cond (.t 50) .skip (.exit 2)) (.seq (.block 3 (.seq (.region f556x10 false) (.seq (.region f556x11 true) (.cond (.t 68) (.seq (.region f556x12 false) .ret) .skip)))) (.region f556x13 false))))
def f556x15 : List AOper := [
  Bc 70 .add 14 1,
  Mv 14 70]
def f556x16L : ACode := (.seq (.region f556x4 false) (.seq (.cond (.t 15) .skip (.exit 0)) (.seq (.block 1 (.seq (.region f556x5 false) (.seq (.seq (.region f556x6 true) (.cond (.t 42) (.seq (.region f556x7 false) .ret) .skip)) (.seq (.region f556x8 false) (.block 2 (.loop f556x14L)))))) (.region f556x15 false))))
def f556x17 : List AOper := [
  Mc 4 (.bool true)]
def f556 : AFunc := ⟨71, 2, false, [.t 4], (.seq (.region f556x0 false) (.seq (.seq (.region f556x1 false) (.cond (.t 11) (.seq (.region f556x2 false) .ret) .skip)) (.seq (.seq (.region f556x3 false) (.block 0 (.loop f556x16L))) (.seq (.region f556x17 false) .ret))))⟩
def f556x16LH : List AItem := [.inLoop f556x16L, .inBlock 0, .code (.seq (.region f556x17 false) .ret)]
def f556x14LH : List AItem := [.inLoop f556x14L, .inBlock 2, .inBlock 1, .code (.region f556x15 false), .inLoop f556x16L, .inBlock 0, .code (.seq (.region f556x17 false) .ret)]
def f557x0 : List AOper := [
  Op 2 (.box (.t 0)),
  Op 3 (.box (.t 1)),
  Mc 4 (.bool false)]
def f557x1 : List AOper := [
  Fa 7 0 2,
  Ld 8 7,
  Fa 9 0 3,
  Ld 10 9,
  Bi 11 .neq 8 10,
  Mv 12 11,
  Gf 12 (Fa 13 3 2),
  Gf 12 (Ld 14 13),
  Gf 12 (Fa 15 3 3),
  Gf 12 (Ld 16 15),
  Gf 12 (Bi 17 .neq 14 16),
  Po 18 12 17,
  Mv 19 18,
  Gf 19 (Fa 20 1 2),
  Gf 19 (Ld 21 20),
  Gf 19 (Ln 22 0 21),
  Gf 19 (Fa 23 1 3),
  Gf 19 (Ld 24 23),
  Gf 19 (Ln 25 0 24),
  Gf 19 (Bi 26 .neq 22 25),
  Po 27 19 26,
  Mv 28 27,
  Gf 28 (Fa 29 2 2),
  Gf 28 (Ld 30 29),
  Gf 28 (Ln 31 0 30),
  Gf 28 (Fa 32 2 3),
  Gf 28 (Ld 33 32),
  Gf 28 (Ln 34 0 33),
  Gf 28 (Bi 35 .neq 31 34),
  Po 36 28 35]
def f557x2 : List AOper := [
  Mc 4 (.bool false)]
def f557x3 : List AOper := [
  Fa 37 1 2,
  Ld 38 37,
  Ln 39 0 38,
  Mc 40 (.int .i64 0)]
def f557x4 : List AOper := [
  Bi 41 .lss 40 39]
def f557x5 : List AOper := [
  Mv 42 40,
  Mv 5 42]
def f557x6 : List AOper := [
  Fa 43 1 2,
  Ld 44 43,
  Mv 45 5,
  Af [1] (Ia 46 6 44 45),
  Af [3, 1] (Ls 47 6 46),
  Fa 48 1 3,
  Ld 49 48,
  Mv 50 5,
  Af [6] (Ia 51 6 49 50),
  Af [8, 6] (Ls 52 6 51),
  Op 53 (.eqs [.int, .str, .int, .int, .int, .bool] true (.t 47) (.t 52))]
def f557x7 : List AOper := [
  Mc 4 (.bool false)]
def f557x8 : List AOper := [
  Bc 54 .add 40 1,
  Mv 40 54]
def f557x9L : ACode := (.seq (.region f557x4 false) (.seq (.cond (.t 41) .skip (.exit 0)) (.seq (.block 1 (.seq (.region f557x5 false) (.seq (.region f557x6 true) (.cond (.t 53) (.seq (.region f557x7 false) .ret) .skip)))) (.region f557x8 false))))
def f557x10 : List AOper := [
  Fa 55 2 2,
  Ld 56 55,
  Ln 57 0 56,
  Mc 58 (.int .i64 0)]
def f557x11 : List AOper := [
  Bi 59 .lss 58 57]
def f557x12 : List AOper := [
  Mv 60 58,
  Mv 6 60]
def f557x13 : List AOper := [
  Fa 61 2 2,
  Ld 62 61,
  Mv 63 6,
  Af [1] (Ia 64 5 62 63),
  Af [3, 1] (Ls 65 5 64),
  Fa 66 2 3,
  Ld 67 66,
  Mv 68 6,
  Af [6] (Ia 69 5 67 68),
  Af [8, 6] (Ls 70 5 69),
  Op 71 (.eqs [.int, .int, .int, .int, .int] true (.t 65) (.t 70))]
def f557x14 : List AOper := [
  Mc 4 (.bool false)]
def f557x15 : List AOper := [
  Bc 72 .add 58 1,
  Mv 58 72]
def f557x16L : ACode := (.seq (.region f557x11 false) (.seq (.cond (.t 59) .skip (.exit 2)) (.seq (.block 3 (.seq (.region f557x12 false) (.seq (.region f557x13 true) (.cond (.t 71) (.seq (.region f557x14 false) .ret) .skip)))) (.region f557x15 false))))
def f557x17 : List AOper := [
  Mc 4 (.bool true)]
def f557 : AFunc := ⟨73, 2, false, [.t 4], (.seq (.region f557x0 false) (.seq (.seq (.region f557x1 false) (.cond (.t 36) (.seq (.region f557x2 false) .ret) .skip)) (.seq (.seq (.region f557x3 false) (.block 0 (.loop f557x9L))) (.seq (.seq (.region f557x10 false) (.block 2 (.loop f557x16L))) (.seq (.region f557x17 false) .ret)))))⟩
def f557x9LH : List AItem := [.inLoop f557x9L, .inBlock 0, .code (.seq (.seq (.region f557x10 false) (.block 2 (.loop f557x16L))) (.seq (.region f557x17 false) .ret))]
def f557x16LH : List AItem := [.inLoop f557x16L, .inBlock 2, .code (.seq (.region f557x17 false) .ret)]
def f671x0 : List AOper := [
  Mc 6 (.bool false)]
def f671x1 : List AOper := [
  Mv 8 0,
  Ln 9 0 8,
  Mv 10 1,
  Ln 11 0 10,
  Bi 12 .neq 9 11]
def f671x2 : List AOper := [
  Mc 6 (.bool false)]
def f671x3 : List AOper := [
  Mv 13 0,
  Ln 14 0 13,
  Mc 15 (.int .i64 0)]
def f671x4 : List AOper := [
  Bi 16 .lss 15 14]
def f671x5 : List AOper := [
  Mv 17 15,
  Mv 7 17]
def f671x6 : List AOper := [
  Mv 18 2,
  Mv 19 0,
  Mv 20 7,
  Ia 21 2 19 20,
  Af [3] (Ls 22 2 21),
  Mv 23 1,
  Mv 24 7,
  Ia 25 2 23 24,
  Af [7] (Ls 26 2 25),
  Af [4, 8, 3, 7] (Op 27 (.call (.t 18) [(.t 22), (.t 26)])),
  Un 28 .not 27]
def f671x7 : List AOper := [
  Mc 6 (.bool false)]
def f671x8 : List AOper := [
  Bc 29 .add 15 1,
  Mv 15 29]
def f671x9L : ACode := (.seq (.region f671x4 false) (.seq (.cond (.t 16) .skip (.exit 0)) (.seq (.block 1 (.seq (.region f671x5 false) (.seq (.region f671x6 true) (.cond (.t 28) (.seq (.region f671x7 false) .ret) .skip)))) (.region f671x8 false))))
def f671x10 : List AOper := [
  Mc 6 (.bool true)]
def f671 : AFunc := ⟨30, 3, false, [.t 6], (.seq (.region f671x0 false) (.seq (.seq (.region f671x1 false) (.cond (.t 12) (.seq (.region f671x2 false) .ret) .skip)) (.seq (.seq (.region f671x3 false) (.block 0 (.loop f671x9L))) (.seq (.region f671x10 false) .ret))))⟩
def f671x9LH : List AItem := [.inLoop f671x9L, .inBlock 0, .code (.seq (.region f671x10 false) .ret)]
def f672x0 : List AOper := [
  Op 2 (.box (.t 0)),
  Op 3 (.box (.t 1)),
  Mc 4 (.bool false)]
def f672x1 : List AOper := [
  Fa 5 0 2,
  Ld 6 5,
  Fa 7 0 3,
  Ld 8 7,
  Bi 9 .eql 6 8,
  Mv 10 9,
  Gt 10 (Fa 11 1 2),
  Gt 10 (Ld 12 11),
  Gt 10 (Fa 13 1 3),
  Gt 10 (Ld 14 13),
  Gt 10 (Ct 15 673 [12, 14]),
  Pa 16 10 15,
  Mv 4 16]
def f672 : AFunc := ⟨17, 2, false, [.t 4], (.seq (.region f672x0 false) (.seq (.region f672x1 false) .ret))⟩
def f673x0 : List AOper := [
  Mc 4 (.bool false)]
def f673x1 : List AOper := [
  Mv 6 0,
  Ln 7 0 6,
  Mv 8 1,
  Ln 9 0 8,
  Bi 10 .neq 7 9]
def f673x2 : List AOper := [
  Mc 4 (.bool false)]
def f673x3 : List AOper := [
  Mv 11 0,
  Ln 12 0 11,
  Mc 13 (.int .i64 0)]
def f673x4 : List AOper := [
  Bi 14 .lss 13 12]
def f673x5 : List AOper := [
  Mv 15 13,
  Mv 5 15]
def f673x6 : List AOper := [
  Mv 16 0,
  Mv 17 5,
  Ia 18 5 16 17,
  Af [2] (Ls 19 5 18),
  Mv 20 1,
  Mv 21 5,
  Ia 22 5 20 21,
  Af [6] (Ls 23 5 22),
  Op 24 (.eqs [.bool, .int, .int, .int, .int] true (.t 19) (.t 23))]
def f673x7 : List AOper := [
  Mc 4 (.bool false)]
def f673x8 : List AOper := [
  Bc 25 .add 13 1,
  Mv 13 25]
def f673x9L : ACode := (.seq (.region f673x4 false) (.seq (.cond (.t 14) .skip (.exit 0)) (.seq (.block 1 (.seq (.region f673x5 false) (.seq (.region f673x6 true) (.cond (.t 24) (.seq (.region f673x7 false) .ret) .skip)))) (.region f673x8 false))))
def f673x10 : List AOper := [
  Mc 4 (.bool true)]
def f673 : AFunc := ⟨26, 2, false, [.t 4], (.seq (.region f673x0 false) (.seq (.seq (.region f673x1 false) (.cond (.t 10) (.seq (.region f673x2 false) .ret) .skip)) (.seq (.seq (.region f673x3 false) (.block 0 (.loop f673x9L))) (.seq (.region f673x10 false) .ret))))⟩
def f673x9LH : List AItem := [.inLoop f673x9L, .inBlock 0, .code (.seq (.region f673x10 false) .ret)]
def f674x0 : List AOper := [
  Mc 6 (.bool false)]
def f674x1 : List AOper := [
  Mv 8 0,
  Ln 9 0 8,
  Mv 10 1,
  Ln 11 0 10,
  Bi 12 .neq 9 11]
def f674x2 : List AOper := [
  Mc 6 (.bool false)]
def f674x3 : List AOper := [
  Mv 13 0,
  Ln 14 0 13,
  Mc 15 (.int .i64 0)]
def f674x4 : List AOper := [
  Bi 16 .lss 15 14]
def f674x5 : List AOper := [
  Mv 17 15,
  Mv 7 17]
def f674x6 : List AOper := [
  Mv 18 2,
  Mv 19 0,
  Mv 20 7,
  Ia 21 2 19 20,
  Af [3] (Ls 22 2 21),
  Mv 23 1,
  Mv 24 7,
  Ia 25 2 23 24,
  Af [7] (Ls 26 2 25),
  Af [4, 8, 3, 7] (Op 27 (.call (.t 18) [(.t 22), (.t 26)])),
  Un 28 .not 27]
def f674x7 : List AOper := [
  Mc 6 (.bool false)]
def f674x8 : List AOper := [
  Bc 29 .add 15 1,
  Mv 15 29]
def f674x9L : ACode := (.seq (.region f674x4 false) (.seq (.cond (.t 16) .skip (.exit 0)) (.seq (.block 1 (.seq (.region f674x5 false) (.seq (.region f674x6 true) (.cond (.t 28) (.seq (.region f674x7 false) .ret) .skip)))) (.region f674x8 false))))
def f674x10 : List AOper := [
  Mc 6 (.bool true)]
def f674 : AFunc := ⟨30, 3, false, [.t 6], (.seq (.region f674x0 false) (.seq (.seq (.region f674x1 false) (.cond (.t 12) (.seq (.region f674x2 false) .ret) .skip)) (.seq (.seq (.region f674x3 false) (.block 0 (.loop f674x9L))) (.seq (.region f674x10 false) .ret))))⟩
def f674x9LH : List AItem := [.inLoop f674x9L, .inBlock 0, .code (.seq (.region f674x10 false) .ret)]
def f675x0 : List AOper := [
  Op 2 (.box (.t 0)),
  Op 3 (.box (.t 1)),
  Mc 4 (.bool false)]
def f675x1 : List AOper := [
  Fa 5 0 2,
  Ld 6 5,
  Fa 7 0 3,
  Ld 8 7,
  Bi 9 .eql 6 8,
  Mv 10 9,
  Gt 10 (Fa 11 1 2),
  Gt 10 (Ld 12 11),
  Gt 10 (Fa 13 1 3),
  Gt 10 (Ld 14 13),
  Gt 10 (Ct 15 676 [12, 14]),
  Pa 16 10 15,
  Mv 4 16]
def f675 : AFunc := ⟨17, 2, false, [.t 4], (.seq (.region f675x0 false) (.seq (.region f675x1 false) .ret))⟩
def f676x0 : List AOper := [
  Mc 4 (.bool false)]
def f676x1 : List AOper := [
  Mv 6 0,
  Ln 7 0 6,
  Mv 8 1,
  Ln 9 0 8,
  Bi 10 .neq 7 9]
def f676x2 : List AOper := [
  Mc 4 (.bool false)]
def f676x3 : List AOper := [
  Mv 11 0,
  Ln 12 0 11,
  Mc 13 (.int .i64 0)]
def f676x4 : List AOper := [
  Bi 14 .lss 13 12]
def f676x5 : List AOper := [
  Mv 15 13,
  Mv 5 15]
def f676x6 : List AOper := [
  Mv 16 0,
  Mv 17 5,
  Ia 18 2 16 17,
  Af [2] (Ls 19 2 18),
  Mv 20 1,
  Mv 21 5,
  Ia 22 2 20 21,
  Af [6] (Ls 23 2 22),
  Op 24 (.eqs [.bool, .str] true (.t 19) (.t 23))]
def f676x7 : List AOper := [
  Mc 4 (.bool false)]
def f676x8 : List AOper := [
  Bc 25 .add 13 1,
  Mv 13 25]
def f676x9L : ACode := (.seq (.region f676x4 false) (.seq (.cond (.t 14) .skip (.exit 0)) (.seq (.block 1 (.seq (.region f676x5 false) (.seq (.region f676x6 true) (.cond (.t 24) (.seq (.region f676x7 false) .ret) .skip)))) (.region f676x8 false))))
def f676x10 : List AOper := [
  Mc 4 (.bool true)]
def f676 : AFunc := ⟨26, 2, false, [.t 4], (.seq (.region f676x0 false) (.seq (.seq (.region f676x1 false) (.cond (.t 10) (.seq (.region f676x2 false) .ret) .skip)) (.seq (.seq (.region f676x3 false) (.block 0 (.loop f676x9L))) (.seq (.region f676x10 false) .ret))))⟩
def f676x9LH : List AItem := [.inLoop f676x9L, .inBlock 0, .code (.seq (.region f676x10 false) .ret)]
def f677x0 : List AOper := [
  Mc 6 (.bool false)]
def f677x1 : List AOper := [
  Mv 8 0,
  Ln 9 0 8,
  Mv 10 1,
  Ln 11 0 10,
  Bi 12 .neq 9 11]
def f677x2 : List AOper := [
  Mc 6 (.bool false)]
def f677x3 : List AOper := [
  Mv 13 0,
  Ln 14 0 13,
  Mc 15 (.int .i64 0)]
def f677x4 : List AOper := [
  Bi 16 .lss 15 14]
def f677x5 : List AOper := [
  Mv 17 15,
  Mv 7 17]
def f677x6 : List AOper := [
  Mv 18 2,
  Mv 19 0,
  Mv 20 7,
  Ia 21 2 19 20,
  Af [3] (Ls 22 2 21),
  Mv 23 1,
  Mv 24 7,
  Ia 25 2 23 24,
  Af [7] (Ls 26 2 25),
  Af [4, 8, 3, 7] (Op 27 (.call (.t 18) [(.t 22), (.t 26)])),
  Un 28 .not 27]
def f677x7 : List AOper := [
  Mc 6 (.bool false)]
def f677x8 : List AOper := [
  Bc 29 .add 15 1,
  Mv 15 29]
def f677x9L : ACode := (.seq (.region f677x4 false) (.seq (.cond (.t 16) .skip (.exit 0)) (.seq (.block 1 (.seq (.region f677x5 false) (.seq (.region f677x6 true) (.cond (.t 28) (.seq (.region f677x7 false) .ret) .skip)))) (.region f677x8 false))))
def f677x10 : List AOper := [
  Mc 6 (.bool true)]
def f677 : AFunc := ⟨30, 3, false, [.t 6], (.seq (.region f677x0 false) (.seq (.seq (.region f677x1 false) (.cond (.t 12) (.seq (.region f677x2 false) .ret) .skip)) (.seq (.seq (.region f677x3 false) (.block 0 (.loop f677x9L))) (.seq (.region f677x10 false) .ret))))⟩
def f677x9LH : List AItem := [.inLoop f677x9L, .inBlock 0, .code (.seq (.region f677x10 false) .ret)]
def f678x0 : List AOper := [
  Op 2 (.box (.t 0)),
  Op 3 (.box (.t 1)),
  Mc 4 (.bool false)]
def f678x1 : List AOper := [
  Fa 5 0 2,
  Ld 6 5,
  Fa 7 0 3,
  Ld 8 7,
  Bi 9 .eql 6 8,
  Mv 10 9,
  Gt 10 (Fa 11 1 2),
  Gt 10 (Ld 12 11),
  Gt 10 (Fa 13 1 3),
  Gt 10 (Ld 14 13),
  Gt 10 (Ct 15 679 [12, 14]),
  Pa 16 10 15,
  Mv 4 16]
def f678 : AFunc := ⟨17, 2, false, [.t 4], (.seq (.region f678x0 false) (.seq (.region f678x1 false) .ret))⟩
def f679x0 : List AOper := [
  Mc 4 (.bool false)]
def f679x1 : List AOper := [
  Mv 6 0,
  Ln 7 0 6,
  Mv 8 1,
  Ln 9 0 8,
  Bi 10 .neq 7 9]
def f679x2 : List AOper := [
  Mc 4 (.bool false)]
def f679x3 : List AOper := [
  Mv 11 0,
  Ln 12 0 11,
  Mc 13 (.int .i64 0)]
def f679x4 : List AOper := [
  Bi 14 .lss 13 12]
def f679x5 : List AOper := [
  Mv 15 13,
  Mv 5 15]
def f679x6 : List AOper := [
  Mv 16 0,
  Mv 17 5,
  Ia 18 3 16 17,
  Af [2] (Ls 19 3 18),
  Mv 20 1,
  Mv 21 5,
  Ia 22 3 20 21,
  Af [6] (Ls 23 3 22),
  Op 24 (.eqs [.bool, .int, .int] true (.t 19) (.t 23))]
def f679x7 : List AOper := [
  Mc 4 (.bool false)]
def f679x8 : List AOper := [
  Bc 25 .add 13 1,
  Mv 13 25]
def f679x9L : ACode := (.seq (.region f679x4 false) (.seq (.cond (.t 14) .skip (.exit 0)) (.seq (.block 1 (.seq (.region f679x5 false) (.seq (.region f679x6 true) (.cond (.t 24) (.seq (.region f679x7 false) .ret) .skip)))) (.region f679x8 false))))
def f679x10 : List AOper := [
  Mc 4 (.bool true)]
def f679 : AFunc := ⟨26, 2, false, [.t 4], (.seq (.region f679x0 false) (.seq (.seq (.region f679x1 false) (.cond (.t 10) (.seq (.region f679x2 false) .ret) .skip)) (.seq (.seq (.region f679x3 false) (.block 0 (.loop f679x9L))) (.seq (.region f679x10 false) .ret))))⟩
def f679x9LH : List AItem := [.inLoop f679x9L, .inBlock 0, .code (.seq (.region f679x10 false) .ret)]
def f680x0 : List AOper := [
  Mc 6 (.bool false)]
def f680x1 : List AOper := [
  Mv 8 0,
  Ln 9 0 8,
  Mv 10 1,
  Ln 11 0 10,
  Bi 12 .neq 9 11]
def f680x2 : List AOper := [
  Mc 6 (.bool false)]
def f680x3 : List AOper := [
  Mv 13 0,
  Ln 14 0 13,
  Mc 15 (.int .i64 0)]
def f680x4 : List AOper := [
  Bi 16 .lss 15 14]
def f680x5 : List AOper := [
  Mv 17 15,
  Mv 7 17]
def f680x6 : List AOper := [
  Mv 18 2,
  Mv 19 0,
  Mv 20 7,
  Ia 21 3 19 20,
  Af [3] (Ls 22 3 21),
  Mv 23 1,
  Mv 24 7,
  Ia 25 3 23 24,
  Af [7] (Ls 26 3 25),
  Af [4, 8, 3, 7] (Op 27 (.call (.t 18) [(.t 22), (.t 26)])),
  Un 28 .not 27]
def f680x7 : List AOper := [
  Mc 6 (.bool false)]
def f680x8 : List AOper := [
  Bc 29 .add 15 1,
  Mv 15 29]
def f680x9L : ACode := (.seq (.region f680x4 false) (.seq (.cond (.t 16) .skip (.exit 0)) (.seq (.block 1 (.seq (.region f680x5 false) (.seq (.region f680x6 true) (.cond (.t 28) (.seq (.region f680x7 false) .ret) .skip)))) (.region f680x8 false))))
def f680x10 : List AOper := [
  Mc 6 (.bool true)]
def f680 : AFunc := ⟨30, 3, false, [.t 6], (.seq (.region f680x0 false) (.seq (.seq (.region f680x1 false) (.cond (.t 12) (.seq (.region f680x2 false) .ret) .skip)) (.seq (.seq (.region f680x3 false) (.block 0 (.loop f680x9L))) (.seq (.region f680x10 false) .ret))))⟩
def f680x9LH : List AItem := [.inLoop f680x9L, .inBlock 0, .code (.seq (.region f680x10 false) .ret)]
def f681x0 : List AOper := [
  Op 2 (.box (.t 0)),
  Op 3 (.box (.t 1)),
  Mc 4 (.bool false)]
def f681x1 : List AOper := [
  Fa 5 0 2,
  Ld 6 5,
  Fa 7 0 3,
  Ld 8 7,
  Bi 9 .eql 6 8,
  Mv 10 9,
  Gt 10 (Fa 11 2 2),
  Gt 10 (Ld 12 11),
  Gt 10 (Fa 13 2 3),
  Gt 10 (Ld 14 13),
  Gt 10 (Bi 15 .eql 12 14),
  Pa 16 10 15,
  Mv 17 16,
  Gt 17 (Fa 18 1 2),
  Gt 17 (Ld 19 18),
  Gt 17 (Fa 20 1 3),
  Gt 17 (Ld 21 20),
  Gt 17 (Ca 22 682 [(.t 19), (.t 21), (.c (.fn 683 []))]),
  Pa 23 17 22,
  Mv 4 23]
def f681 : AFunc := ⟨24, 2, false, [.t 4], (.seq (.region f681x0 false) (.seq (.region f681x1 false) .ret))⟩
def f682x0 : List AOper := [
  Mc 6 (.bool false)]
def f682x1 : List AOper := [
  Mv 8 0,
  Ln 9 0 8,
  Mv 10 1,
  Ln 11 0 10,
  Bi 12 .neq 9 11]
def f682x2 : List AOper := [
  Mc 6 (.bool false)]
def f682x3 : List AOper := [
  Mv 13 0,
  Ln 14 0 13,
  Mc 15 (.int .i64 0)]
def f682x4 : List AOper := [
  Bi 16 .lss 15 14]
def f682x5 : List AOper := [
  Mv 17 15,
  Mv 7 17]
def f682x6 : List AOper := [
  Mv 18 2,
  Mv 19 0,
  Mv 20 7,
  Ia 21 4 19 20,
  Af [3] (Ls 22 4 21),
  Mv 23 1,
  Mv 24 7,
  Ia 25 4 23 24,
  Af [7] (Ls 26 4 25),
  Af [4, 8, 3, 7] (Op 27 (.call (.t 18) [(.t 22), (.t 26)])),
  Un 28 .not 27]
def f682x7 : List AOper := [
  Mc 6 (.bool false)]
def f682x8 : List AOper := [
  Bc 29 .add 15 1,
  Mv 15 29]
def f682x9L : ACode := (.seq (.region f682x4 false) (.seq (.cond (.t 16) .skip (.exit 0)) (.seq (.block 1 (.seq (.region f682x5 false) (.seq (.region f682x6 true) (.cond (.t 28) (.seq (.region f682x7 false) .ret) .skip)))) (.region f682x8 false))))
def f682x10 : List AOper := [
  Mc 6 (.bool true)]
def f682 : AFunc := ⟨30, 3, false, [.t 6], (.seq (.region f682x0 false) (.seq (.seq (.region f682x1 false) (.cond (.t 12) (.seq (.region f682x2 false) .ret) .skip)) (.seq (.seq (.region f682x3 false) (.block 0 (.loop f682x9L))) (.seq (.region f682x10 false) .ret))))⟩
def f682x9LH : List AItem := [.inLoop f682x9L, .inBlock 0, .code (.seq (.region f682x10 false) .ret)]
def f683x0 : List AOper := [
  Op 2 (.box (.t 0)),
  Op 3 (.box (.t 1)),
  Mc 4 (.bool false)]
def f683x1 : List AOper := [
  Fa 5 0 2,
  Ld 6 5,
  Fa 7 0 3,
  Ld 8 7,
  Bi 9 .eql 6 8,
  Mv 10 9,
  Gt 10 (Fa 11 3 2),
  Gt 10 (Ld 12 11),
  Gt 10 (Fa 13 3 3),
  Gt 10 (Ld 14 13),
  Gt 10 (Bi 15 .eql 12 14),
  Pa 16 10 15,
  Mv 17 16,
  Gt 17 (Fa 18 1 2),
  Gt 17 (Ld 19 18),
  Gt 17 (Fa 20 1 3),
  Gt 17 (Ld 21 20),
  Gt 17 (Ct 22 684 [19, 21]),
  Pa 23 17 22,
  Mv 24 23,
  Gt 24 (Fa 25 2 2),
  Gt 24 (Ld 26 25),
  Gt 24 (Fa 27 2 3),
  Gt 24 (Ld 28 27),
  Gt 24 (Ct 29 685 [26, 28]),
  Pa 30 24 29,
  Mv 4 30]
def f683 : AFunc := ⟨31, 2, false, [.t 4], (.seq (.region f683x0 false) (.seq (.region f683x1 false) .ret))⟩
def f684x0 : List AOper := [
  Mc 4 (.bool false)]
def f684x1 : List AOper := [
  Mv 6 0,
  Ln 7 0 6,
  Mv 8 1,
  Ln 9 0 8,
  Bi 10 .neq 7 9]
def f684x2 : List AOper := [
  Mc 4 (.bool false)]
def f684x3 : List AOper := [
  Mv 11 0,
  Ln 12 0 11,
  Mc 13 (.int .i64 0)]
def f684x4 : List AOper := [
  Bi 14 .lss 13 12]
def f684x5 : List AOper := [
  Mv 15 13,
  Mv 5 15]
def f684x6 : List AOper := [
  Mv 16 0,
  Mv 17 5,
  Ia 18 6 16 17,
  Af [2] (Ls 19 6 18),
  Mv 20 1,
  Mv 21 5,
  Ia 22 6 20 21,
  Af [6] (Ls 23 6 22),
  Op 24 (.eqs [.int, .str, .int, .int, .int, .bool] true (.t 19) (.t 23))]
def f684x7 : List AOper := [
  Mc 4 (.bool false)]
def f684x8 : List AOper := [
  Bc 25 .add 13 1,
  Mv 13 25]
def f684x9L : ACode := (.seq (.region f684x4 false) (.seq (.cond (.t 14) .skip (.exit 0)) (.seq (.block 1 (.seq (.region f684x5 false) (.seq (.region f684x6 true) (.cond (.t 24) (.seq (.region f684x7 false) .ret) .skip)))) (.region f684x8 false))))
def f684x10 : List AOper := [
  Mc 4 (.bool true)]
def f684 : AFunc := ⟨26, 2, false, [.t 4], (.seq (.region f684x0 false) (.seq (.seq (.region f684x1 false) (.cond (.t 10) (.seq (.region f684x2 false) .ret) .skip)) (.seq (.seq (.region f684x3 false) (.block 0 (.loop f684x9L))) (.seq (.region f684x10 false) .ret))))⟩
def f684x9LH : List AItem := [.inLoop f684x9L, .inBlock 0, .code (.seq (.region f684x10 false) .ret)]
def f685x0 : List AOper := [
  Mc 4 (.bool false)]
def f685x1 : List AOper := [
  Mv 6 0,
  Ln 7 0 6,
  Mv 8 1,
  Ln 9 0 8,
  Bi 10 .neq 7 9]
def f685x2 : List AOper := [
  Mc 4 (.bool false)]
def f685x3 : List AOper := [
  Mv 11 0,
  Ln 12 0 11,
  Mc 13 (.int .i64 0)]
def f685x4 : List AOper := [
  Bi 14 .lss 13 12]
def f685x5 : List AOper := [
  Mv 15 13,
  Mv 5 15]
def f685x6 : List AOper := [
  Mv 16 0,
  Mv 17 5,
  Ia 18 5 16 17,
  Af [2] (Ls 19 5 18),
  Mv 20 1,
  Mv 21 5,
  Ia 22 5 20 21,
  Af [6] (Ls 23 5 22),
  Op 24 (.eqs [.int, .int, .int, .int, .int] true (.t 19) (.t 23))]
def f685x7 : List AOper := [
  Mc 4 (.bool false)]
def f685x8 : List AOper := [
  Bc 25 .add 13 1,
  Mv 13 25]
def f685x9L : ACode := (.seq (.region f685x4 false) (.seq (.cond (.t 14) .skip (.exit 0)) (.seq (.block 1 (.seq (.region f685x5 false) (.seq (.region f685x6 true) (.cond (.t 24) (.seq (.region f685x7 false) .ret) .skip)))) (.region f685x8 false))))
def f685x10 : List AOper := [
  Mc 4 (.bool true)]
def f685 : AFunc := ⟨26, 2, false, [.t 4], (.seq (.region f685x0 false) (.seq (.seq (.region f685x1 false) (.cond (.t 10) (.seq (.region f685x2 false) .ret) .skip)) (.seq (.seq (.region f685x3 false) (.block 0 (.loop f685x9L))) (.seq (.region f685x10 false) .ret))))⟩
def f685x9LH : List AItem := [.inLoop f685x9L, .inBlock 0, .code (.seq (.region f685x10 false) .ret)]
def f577x0 : List AOper := [
  Mc 4 (.int .i64 0)]
def f577x1 : List AOper := [
  Mv 6 1,
  Ct 7 623 [6],
  Un 8 .not 7,
  Mv 5 8]
def f577x2 : List AOper := [
  Mc 4 (.int .i64 1)]
def f577x3 : List AOper := [
  Mv 10 0,
  Ln 11 0 10,
  Bc 12 .gtr 11 0,
  Mv 13 12,
  Gt 13 (Mv 14 1),
  Gt 13 (Mv 15 0),
  Gt 13 (Mv 16 0),
  Gt 13 (Ln 17 0 16),
  Gt 13 (Bc 18 .sub 17 1),
  Gt 13 (Ia 19 1 15 18),
  Gt 13 (Ld 20 19),
  Gt 13 (Bi 21 .leq 14 20),
  Pa 22 13 21,
  Mv 9 22]
def f577x4 : List AOper := [
  Mc 4 (.int .i64 16)]
def f577x5 : List AOper := [
  Mc 4 (.int .i64 0)]
def f577 : AFunc := ⟨23, 2, false, [.t 4], (.seq (.region f577x0 false) (.seq (.block 0 (.seq (.region f577x1 false) (.cond (.t 5) (.seq (.region f577x2 false) .ret) (.seq (.region f577x3 false) (.cond (.t 9) (.seq (.region f577x4 false) .ret) .skip))))) (.seq (.region f577x5 false) .ret)))⟩
def f178x0 : List AOper := [
  Op 1 (.box (.t 0)),
  Mc 2 (.bool false)]
def f178x1 : List AOper := [
  Fa 3 1 1,
  Ld 4 3,
  Bc 5 .geq 4 0,
  Mv 6 5,
  Gt 6 (Fa 7 1 1),
  Af [1] (Gt 6 (Ld 8 7)),
  Gt 6 (Bc 9 .leq 8 32),
  Pa 10 6 9,
  Mv 11 10,
  Gt 11 (Fa 12 0 1),
  Af [5, 1] (Gt 11 (Ld 13 12)),
  Gt 11 (Fa 14 1 1),
  Af [5, 1] (Gt 11 (Ld 15 14)),
  Af [10, 12, 5, 1] (Gt 11 (Ct 16 181 [13, 15])),
  Gt 11 (Fa 17 0 1),
  Af [5, 1] (Gt 11 (Ld 18 17)),
  Gt 11 (Bi 19 .eql 16 18),
  Pa 20 11 19,
  Mv 2 20]
def f178 : AFunc := ⟨21, 1, false, [.t 2], (.seq (.region f178x0 false) (.seq (.region f178x1 true) .ret))⟩
def f579x0 : List AOper := [
  Op 4 (.alloc (.agg [.int .i64 0, .int .i64 0, .int .i64 0, .con (.slice none 0 0)]))]
def f579x1 : List AOper := [
  Mv 6 1,
  Bc 7 .gtr 6 32]
def f579x2 : List AOper := [
  Op 8 (.build [] [] []),
  Op 9 (.mkifc 129 (.t 8)),
  ⟨none, .panic (.t 9), none, []⟩]
def f579x3 : List AOper := [
  Mv 10 0,
  Mv 11 1,
  Ct 12 624 [10, 11],
  Op 13 (.bsl 4 [.int .i64 0, .int .i64 0, .int .i64 0, .con (.slice none 0 0)] 1 [0] [(.t 12)]),
  Mv 5 13]
def f579x4 : List AOper := [
  Mv 14 0,
  Ct 15 625 [14],
  Op 16 (.bin .eql (.t 15) (.c (.int .u8 124)))]
def f579x5 : List AOper := [
  Mv 17 0,
  Nc 18 17,
  Fa 19 1 18,
  Ld 20 19,
  Bc 21 .add 20 1,
  Nc 22 17,
  Fa 23 1 22,
  St 1 23 21]
def f579x6 : List AOper := [
  Mv 24 5,
  Mv 25 0,
  Mv 26 1,
  Ct 27 624 [25, 26],
  Op 28 (.bsl 4 [.int .i64 0, .int .i64 0, .int .i64 0, .con (.slice none 0 0)] 1 [0] [(.t 27)]),
  Ap 29 4 48 24 28,
  Mv 5 29]
def f579x7L : ACode := (.seq (.seq (.region f579x4 false) (.cond (.t 16) .skip (.exit 0))) (.block 1 (.seq (.region f579x5 false) (.region f579x6 false))))
def f579x8 : List AOper := [
  Mv 30 5,
  Ln 31 0 30,
  Bc 32 .eql 31 1]
def f579x9 : List AOper := [
  Mv 33 5,
  Op 34 (.iadr 4 (.t 33) (.c (.int .i64 0))),
  Ls 35 4 34,
  St 4 4 35]
def f579x10 : List AOper := [
  Mv 36 5,
  Op 37 (.build [.int .i64 0, .int .i64 0, .int .i64 0, .con (.slice none 0 0)] [(0, 1), (3, 1)] [(.c (.int .i64 4)), (.t 36)]),
  St 4 4 37]
def f579 : AFunc := ⟨38, 2, false, [.cell 4 (some 4)], (.seq (.region f579x0 false) (.seq (.seq (.region f579x1 false) (.cond (.t 7) (.region f579x2 false) .skip)) (.seq (.region f579x3 false) (.seq (.block 0 (.loop f579x7L)) (.seq (.seq (.region f579x8 false) (.cond (.t 32) (.seq (.region f579x9 false) .ret) .skip)) (.seq (.region f579x10 false) .ret))))))⟩
def f580x0 : List AOper := [
  Op 1 (.box (.t 0)),
  Mc 2 (.str []),
  Mc 3 (.int .i64 0)]
def f580x1 : List AOper := [
  Ls 5 4 1,
  Ct 6 626 [5],
  Mv 4 6]
def f580x2 : List AOper := [
  Mv 7 4,
  Bc 8 .neq 7 0]
def f580x3 : List AOper := [
  Mv 9 4,
  Mc 2 (.str []),
  Mv 3 9]
def f580x4 : List AOper := [
  Ls 10 4 1,
  Ct 11 627 [10],
  Mv 2 11,
  Mc 3 (.int .i64 0)]
def f580 : AFunc := ⟨12, 1, false, [.t 2, .t 3], (.seq (.region f580x0 false) (.seq (.seq (.region f580x1 false) (.seq (.region f580x2 false) (.cond (.t 8) (.seq (.region f580x3 false) .ret) .skip))) (.seq (.region f580x4 false) .ret)))⟩
def f581x0 : List AOper := [
  Mc 6 (.bool false)]
def f581x1 : List AOper := [
  Mv 7 1,
  Mv 8 0,
  Bi 9 .leq 7 8,
  Mv 10 9,
  Gt 10 (Mv 11 0),
  Gt 10 (Mv 12 2),
  Gt 10 (Bi 13 .leq 11 12),
  Pa 14 10 13,
  Mv 6 14]
def f581 : AFunc := ⟨15, 3, false, [.t 6], (.seq (.region f581x0 false) (.seq (.region f581x1 false) .ret))⟩
def f582x0 : List AOper := [
  Op 3 (.box (.t 0)),
  Op 5 (.box (.t 2)),
  Mc 6 (.int .i64 0)]
def f582x1 : List AOper := [
  Fa 15 0 5,
  Ld 16 15,
  Ct 17 623 [16],
  Un 18 .not 17]
def f582x2 : List AOper := [
  Mc 6 (.int .i64 1)]
def f582x3 : List AOper := [
  Mv 19 1,
  Ln 20 0 19,
  Mc 21 (.int .i64 0)]
def f582x4 : List AOper := [
  Bi 22 .lss 21 20]
def f582x5 : List AOper := [
  Ia 23 4 19 21,
  Ls 24 4 23,
  Op 8 (.alloc (.agg [.str [], .con (.slice none 0 0), .con (.slice none 0 0), .int .i64 0])),
  St 4 8 24]
def f582x6 : List AOper := [
  Fa 25 0 8,
  Ld 26 25,
  Fa 27 0 5,
  Ld 28 27,
  Bi 29 .eql 26 28]
def f582x7 : List AOper := [
  Mc 6 (.int .i64 7)]
def f582x8 : List AOper := [
  Bc 30 .add 21 1,
  Mv 21 30]
def f582x9L : ACode := (.seq (.region f582x4 false) (.seq (.cond (.t 22) .skip (.exit 0)) (.seq (.block 1 (.seq (.region f582x5 false) (.seq (.region f582x6 false) (.cond (.t 29) (.seq (.region f582x7 false) .ret) .skip)))) (.region f582x8 false))))
def f582x10 : List AOper := [
  Fa 31 1 5,
  Ld 32 31,
  Ln 33 0 32,
  Bc 34 .gtr 33 64]
def f582x11 : List AOper := [
  Mc 6 (.int .i64 4)]
def f582x12 : List AOper := [
  Fa 35 1 5,
  Ld 36 35,
  Ln 37 0 36,
  Mc 38 (.int .i64 0)]
def f582x13 : List AOper := [
  Bi 39 .lss 38 37]
def f582x14 : List AOper := [
  Ia 40 6 36 38,
  Ls 41 6 40,
  Op 10 (.alloc (.agg [.int .i64 0, .str [], .int .i64 0, .int .u32 0, .int .i64 0, .bool false])),
  St 6 10 41]
def f582x15 : List AOper := [
  Ls 42 4 3,
  Ls 43 6 10,
  Ct 44 594 [42, 43],
  Mv 11 44]
def f582x16 : List AOper := [
  Mv 45 11,
  Bc 46 .neq 45 0]
def f582x17 : List AOper := [
  Mv 47 11,
  Mv 6 47]
def f582x18 : List AOper := [
  Bc 48 .add 38 1,
  Mv 38 48]
def f582x19L : ACode := (.seq (.region f582x13 false) (.seq (.cond (.t 39) .skip (.exit 2)) (.seq (.block 3 (.seq (.region f582x14 false) (.seq (.region f582x15 false) (.seq (.region f582x16 false) (.cond (.t 46) (.seq (.region f582x17 false) .ret) .skip))))) (.region f582x18 false))))
def f582x20 : List AOper := [
  Fa 49 2 5,
  Ld 50 49,
  Ln 51 0 50,
  Bc 52 .gtr 51 64]
def f582x21 : List AOper := [
  Mc 6 (.int .i64 4)]
def f582x22 : List AOper := [
  Fa 53 2 5,
  Ld 54 53,
  Ln 55 0 54,
  Mc 56 (.int .i64 0)]
def f582x23 : List AOper := [
  Bi 57 .lss 56 55]
def f582x24 : List AOper := [
  Ia 58 5 54 56,
  Ls 59 5 58,
  Op 13 (.alloc (.agg [.int .i64 0, .int .i64 0, .int .i64 0, .int .u32 0, .int .u32 0])),
  St 5 13 59]
def f582x25 : List AOper := [
  Ls 60 5 13,
  Ct 61 596 [60],
  Mv 14 61]
def f582x26 : List AOper := [
  Mv 62 14,
  Bc 63 .neq 62 0]
def f582x27 : List AOper := [
  Mv 64 14,
  Mv 6 64]
def f582x28 : List AOper := [
  Bc 65 .add 56 1,
  Mv 56 65]
def f582x29L : ACode := (.seq (.region f582x23 false) (.seq (.cond (.t 57) .skip (.exit 4)) (.seq (.block 5 (.seq (.region f582x24 false) (.seq (.region f582x25 false) (.seq (.region f582x26 false) (.cond (.t 63) (.seq (.region f582x27 false) .ret) .skip))))) (.region f582x28 false))))
def f582x30 : List AOper := [
  Fa 66 3 5,
  Ld 67 66,
  Ca 68 581 [(.t 67), (.c (.int .i64 1)), (.c (.int .i64 3))],
  Un 69 .not 68]
def f582x31 : List AOper := [
  Mc 6 (.int .i64 15)]
def f582x32 : List AOper := [
  Mc 6 (.int .i64 0)]
def f582 : AFunc := ⟨70, 3, false, [.t 6], (.seq (.region f582x0 false) (.seq (.seq (.region f582x1 false) (.cond (.t 18) (.seq (.region f582x2 false) .ret) .skip)) (.seq (.seq (.region f582x3 false) (.block 0 (.loop f582x9L))) (.seq (.seq (.region f582x10 false) (.cond (.t 34) (.seq (.region f582x11 false) .ret) .skip)) (.seq (.seq (.region f582x12 false) (.block 2 (.loop f582x19L))) (.seq (.seq (.region f582x20 false) (.cond (.t 52) (.seq (.region f582x21 false) .ret) .skip)) (.seq (.seq (.region f582x22 false) (.block 4 (.loop f582x29L))) (.seq (.seq (.region f582x30 false) (.cond (.t 69) (.seq (.region f582x31 false) .ret) .skip)) (.seq (.region f582x32 false) .ret)))))))))⟩
def f229x0 : List AOper := [
  Op 1 (.box (.t 0)),
  Mc 2 (.str [])]
def f229x1 : List AOper := [
  Ls 3 2 1,
  Ct 4 178 [3],
  Un 5 .not 4]
def f229x2 : List AOper := [
  Mc 2 (.str [])]
def f229x3 : List AOper := [
  Fa 6 0 1,
  Ld 7 6,
  Af [1] (Ct 8 227 [7]),
  Op 9 (.bin .add (.t 8) (.c (.str [47]))),
  Fa 10 1 1,
  Ld 11 10,
  Af [5, 2, 1] (Ct 12 246 [11]),
  Bi 13 .add 9 12,
  Mv 2 13]
def f229 : AFunc := ⟨14, 1, false, [.t 2], (.seq (.region f229x0 false) (.seq (.seq (.region f229x1 false) (.cond (.t 5) (.seq (.region f229x2 false) .ret) .skip)) (.seq (.region f229x3 true) .ret)))⟩
def f337x0 : List AOper := [
  Mc 2 (.str [])]
def f337x1 : List AOper := [
  Mv 3 0,
  Ct 4 246 [3],
  Mv 2 4]
def f337 : AFunc := ⟨5, 1, false, [.t 2], (.seq (.region f337x0 false) (.seq (.region f337x1 false) .ret))⟩
def f524x0 : List AOper := [
  Op 1 (.box (.t 0)),
  Mc 2 (.str [])]
def f524x1 : List AOper := [
  Fa 4 2 1,
  Ld 5 4,
  Ct 6 337 [5],
  Mv 3 6]
def f524x2 : List AOper := [
  Fa 7 0 1,
  Ld 8 7]
def f524x3 : List AOper := [
  Bc 10 .eql 8 1,
  Mv 9 10]
def f524x4 : List AOper := [
  Fa 11 1 1,
  Ld 12 11,
  Op 13 (.bin .add (.c (.str [112, 114, 101, 102, 105, 120, 45, 108, 105, 115, 116, 32])) (.t 12)),
  Mv 2 13]
def f524x5 : List AOper := [
  Bc 15 .eql 8 2,
  Mv 14 15]
def f524x6 : List AOper := [
  Fa 16 1 1,
  Ld 17 16,
  Op 18 (.bin .add (.c (.str [112, 97, 116, 104, 45, 108, 105, 115, 116, 32])) (.t 17)),
  Mv 2 18]
def f524x7 : List AOper := [
  Bc 20 .eql 8 3,
  Mv 19 20]
def f524x8 : List AOper := [
  Fa 21 1 1,
  Ld 22 21,
  Op 23 (.bin .add (.c (.str [99, 111, 109, 109, 117, 110, 105, 116, 121, 45, 108, 105, 115, 116, 32])) (.t 22)),
  Mv 2 23]
def f524x9 : List AOper := [
  Bc 25 .eql 8 4,
  Mv 24 25]
def f524x10 : List AOper := [
  Mv 26 3,
  Op 27 (.bin .add (.c (.str [112, 114, 111, 116, 111, 99, 111, 108, 32])) (.t 26)),
  Mv 2 27]
def f524x11 : List AOper := [
  Bc 29 .eql 8 5,
  Mv 28 29]
def f524x12 : List AOper := [
  Mv 30 3,
  Op 31 (.bin .add (.c (.str [116, 97, 103, 32])) (.t 30)),
  Mv 2 31]
def f524x13 : List AOper := [
  Bc 33 .eql 8 6,
  Mv 32 33]
def f524x14 : List AOper := [
  Mv 34 3,
  Op 35 (.bin .add (.c (.str [109, 101, 116, 114, 105, 99, 32])) (.t 34)),
  Mv 2 35]
def f524x15 : List AOper := [
  Bc 37 .eql 8 7,
  Mv 36 37]
def f524x16 : List AOper := [
  Fa 38 3 1,
  Ls 39 2 38,
  Ct 40 229 [39],
  Op 41 (.bin .add (.c (.str [110, 101, 120, 116, 45, 104, 111, 112, 32])) (.t 40)),
  Mv 2 41]
def f524x17 : List AOper := [
  Mv 42 3,
  Op 43 (.bin .add (.c (.str [112, 97, 116, 104, 45, 108, 101, 110, 103, 116, 104, 32])) (.t 42)),
  Mv 2 43]
def f524 : AFunc := ⟨44, 1, false, [.t 2], (.seq (.region f524x0 false) (.seq (.region f524x1 false) (.seq (.seq (.region f524x2 false) (.block 0 (.seq (.region f524x3 false) (.cond (.t 9) (.seq (.region f524x4 false) .ret) (.seq (.region f524x5 false) (.cond (.t 14) (.seq (.region f524x6 false) .ret) (.seq (.region f524x7 false) (.cond (.t 19) (.seq (.region f524x8 false) .ret) (.seq (.region f524x9 false) (.cond (.t 24) (.seq (.region f524x10 false) .ret) (.seq (.region f524x11 false) (.cond (.t 28) (.seq (.region f524x12 false) .ret) (.seq (.region f524x13 false) (.cond (.t 32) (.seq (.region f524x14 false) .ret) (.seq (.region f524x15 false) (.cond (.t 36) (.seq (.region f524x16 false) .ret) .skip)))))))))))))))) (.seq (.region f524x17 false) .ret))))⟩
def f525x0 : List AOper := [
  Op 1 (.box (.t 0)),
  Mc 2 (.str [])]
def f525x1 : List AOper := [
  Fa 4 1 1,
  Ld 5 4,
  Ct 6 337 [5],
  Mv 3 6]
def f525x2 : List AOper := [
  Fa 7 0 1,
  Ld 8 7]
def f525x3 : List AOper := [
  Bc 10 .eql 8 1,
  Mv 9 10]
def f525x4 : List AOper := [
  Mv 11 3,
  Op 12 (.bin .add (.c (.str [112, 114, 101, 102, 32])) (.t 11)),
  Mv 2 12]
def f525x5 : List AOper := [
  Bc 14 .eql 8 2,
  Mv 13 14]
def f525x6 : List AOper := [
  Mv 15 3,
  Op 16 (.bin .add (.c (.str [109, 101, 100, 32])) (.t 15)),
  Mv 2 16]
def f525x7 : List AOper := [
  Bc 18 .eql 8 3,
  Mv 17 18]
def f525x8 : List AOper := [
  Mv 19 3,
  Op 20 (.bin .add (.c (.str [109, 101, 116, 114, 105, 99, 32])) (.t 19)),
  Mv 2 20]
def f525x9 : List AOper := [
  Bc 22 .eql 8 4,
  Mv 21 22]
def f525x10 : List AOper := [
  Mv 23 3,
  Op 24 (.bin .add (.c (.str [116, 97, 103, 32])) (.t 23)),
  Mv 2 24]
def f525x11 : List AOper := [
  Bc 26 .eql 8 5,
  Mv 25 26]
def f525x12 : List AOper := [
  Fa 27 4 1,
  Ld 28 27,
  Ct 29 227 [28],
  Op 30 (.bin .add (.c (.str [110, 101, 120, 116, 45, 104, 111, 112, 32])) (.t 29)),
  Mv 2 30]
def f525x13 : List AOper := [
  Bc 32 .eql 8 6,
  Mv 31 32]
def f525x14 : List AOper := [
  Fa 33 3 1,
  Ld 34 33,
  Ct 35 583 [34],
  Op 36 (.bin .add (.c (.str [97, 100, 100, 32])) (.t 35)),
  Mv 2 36]
def f525x15 : List AOper := [
  Bc 38 .eql 8 7,
  Mv 37 38]
def f525x16 : List AOper := [
  Fa 39 3 1,
  Ld 40 39,
  Ct 41 583 [40],
  Op 42 (.bin .add (.c (.str [100, 101, 108, 101, 116, 101, 32])) (.t 41)),
  Mv 2 42]
def f525x17 : List AOper := [
  Fa 43 2 1,
  Ld 44 43,
  Ct 45 337 [44],
  Op 46 (.bin .add (.c (.str [112, 114, 101, 112, 101, 110, 100, 32])) (.t 45)),
  Op 47 (.bin .add (.t 46) (.c (.str [32]))),
  Mv 48 3,
  Bi 49 .add 47 48,
  Mv 2 49]
def f525 : AFunc := ⟨50, 1, false, [.t 2], (.seq (.region f525x0 false) (.seq (.region f525x1 false) (.seq (.seq (.region f525x2 false) (.block 0 (.seq (.region f525x3 false) (.cond (.t 9) (.seq (.region f525x4 false) .ret) (.seq (.region f525x5 false) (.cond (.t 13) (.seq (.region f525x6 false) .ret) (.seq (.region f525x7 false) (.cond (.t 17) (.seq (.region f525x8 false) .ret) (.seq (.region f525x9 false) (.cond (.t 21) (.seq (.region f525x10 false) .ret) (.seq (.region f525x11 false) (.cond (.t 25) (.seq (.region f525x12 false) .ret) (.seq (.region f525x13 false) (.cond (.t 31) (.seq (.region f525x14 false) .ret) (.seq (.region f525x15 false) (.cond (.t 37) (.seq (.region f525x16 false) .ret) .skip)))))))))))))))) (.seq (.region f525x17 false) .ret))))⟩
def f526x0 : List AOper := [
  Mc 2 (.str [])]
def f526x1 : List AOper := [
  Mv 3 0]
def f526x2 : List AOper := [
  Bc 5 .eql 3 1,
  Mv 4 5]
def f526x3 : List AOper := [
  Mc 2 (.str [97, 99, 99, 101, 112, 116])]
def f526x4 : List AOper := [
  Bc 7 .eql 3 2,
  Mv 6 7]
def f526x5 : List AOper := [
  Mc 2 (.str [114, 101, 106, 101, 99, 116])]
def f526x6 : List AOper := [
  Mc 2 (.str [110, 101, 120, 116])]
def f526 : AFunc := ⟨8, 1, false, [.t 2], (.seq (.region f526x0 false) (.seq (.seq (.region f526x1 false) (.block 0 (.seq (.region f526x2 false) (.cond (.t 4) (.seq (.region f526x3 false) .ret) (.seq (.region f526x4 false) (.cond (.t 6) (.seq (.region f526x5 false) .ret) .skip)))))) (.seq (.region f526x6 false) .ret)))⟩
def f541x0 : List AOper := [
  Mv 17 0,
  Mv 18 1,
  Ct 19 585 [17, 18]]
def f541x1 : List AOper := [
  Mv 20 0,
  Nc 21 20,
  Fa 22 8 21,
  Ld 23 22]
def f541x2 : List AOper := [
  Bc 26 .eql 23 1,
  Mv 25 26]
def f541x3 : List AOper := [
  Mv 27 0,
  Nc 28 27,
  Fa 29 0 28,
  Fa 30 0 29,
  Ld 31 30,
  Mv 32 0,
  Nc 33 32,
  Fa 34 0 33,
  Fa 35 0 34,
  Ld 36 35,
  Af [9] (Ln 37 0 36),
  Bc 38 .sub 37 1,
  Af [4, 10, 9] (Ia 39 2 31 38),
  Mv 4 39]
def f541x4 : List AOper := [
  Mv 41 1,
  Ct 42 334 [41],
  Mv 40 42,
  Ex 43 40 0,
  Ex 44 40 1,
  Op 5 (.alloc (.agg [.bool false, .int .u32 0, .int .i64 0, .int .i64 0, .int .i64 0])),
  St 5 5 43,
  Mv 6 44]
def f541x5 : List AOper := [
  Mv 45 6,
  Bc 46 .eql 45 0,
  Ct 47 586 [46]]
def f541x6 : List AOper := [
  Mv 48 4,
  Nc 49 48,
  Fa 50 1 49,
  Ld 51 50,
  Ln 52 0 51,
  Ct 53 587 [52]]
def f541x7 : List AOper := [
  Mv 54 4,
  Mv 55 4,
  Nc 56 55,
  Fa 57 1 56,
  Ld 58 57,
  Ls 59 5 5,
  Af [5] (Op 60 (.bsl 5 [.bool false, .int .u32 0, .int .i64 0, .int .i64 0, .int .i64 0] 1 [0] [(.t 59)])),
  Af [4, 6, 5] (Ap 61 5 40 58 60),
  Nc 62 54,
  Fa 63 1 62,
  Af [7, 4, 6, 5] (St 1 63 61)]
def f541x8 : List AOper := [
  Bc 65 .eql 23 2,
  Mv 64 65]
def f541x9 : List AOper := [
  Mv 66 0,
  Nc 67 66,
  Fa 68 0 67,
  Fa 69 1 68,
  Ld 70 69,
  Mv 71 0,
  Nc 72 71,
  Fa 73 0 72,
  Fa 74 1 73,
  Ld 75 74,
  Af [9] (Ln 76 0 75),
  Bc 77 .sub 76 1,
  Af [4, 10, 9] (Ia 78 2 70 77),
  Mv 7 78]
def f541x10 : List AOper := [
  Mv 80 1,
  Ct 81 588 [80],
  Mv 79 81,
  Ex 82 79 0,
  Ex 83 79 1,
  Mv 8 82,
  Mv 9 83]
def f541x11 : List AOper := [
  Mv 85 9,
  Ct 86 516 [85],
  Mv 84 86,
  Ex 87 84 0,
  Ex 88 84 1,
  Op 10 (.alloc (.agg [.int .i64 0, .int .i64 0, .int .i64 0, .con (.slice none 0 0)])),
  St 4 10 87,
  Mv 11 88]
def f541x12 : List AOper := [
  Mv 89 11,
  Bc 90 .eql 89 0,
  Ct 91 586 [90]]
def f541x13 : List AOper := [
  Mv 92 7,
  Nc 93 92,
  Fa 94 1 93,
  Ld 95 94,
  Ln 96 0 95,
  Ct 97 587 [96]]
def f541x14 : List AOper := [
  Mv 98 7,
  Mv 99 7,
  Nc 100 99,
  Fa 101 1 100,
  Ld 102 101,
  Mv 103 8,
  Mv 104 9,
  Op 105 (.build [.bool false, .str []] [(0, 1), (1, 1)] [(.t 103), (.t 104)]),
  Op 106 (.bsl 2 [.bool false, .str []] 1 [0] [(.t 105)]),
  Ap 107 2 24 102 106,
  Nc 108 98,
  Fa 109 1 108,
  St 1 109 107]
def f541x15 : List AOper := [
  Bc 111 .eql 23 3,
  Mv 110 111]
def f541x16 : List AOper := [
  Mv 112 0,
  Nc 113 112,
  Fa 114 0 113,
  Fa 115 2 114,
  Ld 116 115,
  Mv 117 0,
  Nc 118 117,
  Fa 119 0 118,
  Fa 120 2 119,
  Ld 121 120,
  Af [9] (Ln 122 0 121),
  Bc 123 .sub 122 1,
  Af [4, 10, 9] (Ia 124 2 116 123),
  Mv 12 124]
def f541x17 : List AOper := [
  Mv 126 1,
  Ct 127 588 [126],
  Mv 125 127,
  Ex 128 125 0,
  Ex 129 125 1,
  Mv 13 128,
  Mv 14 129]
def f541x18 : List AOper := [
  Mc 15 (.int .i64 0)]
def f541x19 : List AOper := [
  Mv 130 15,
  Mv 131 14,
  Ln 132 1 131,
  Bi 133 .lss 130 132,
  Mv 134 133,
  Gt 134 (Mv 135 14),
  Gt 134 (Mv 136 15),
  Gt 134 (Op 137 (.istr (.t 135) (.t 136))),
  Gt 134 (Op 138 (.bin .neq (.t 137) (.c (.int .u8 58)))),
  Pa 139 134 138]
def f541x20 : List AOper := [
  Mv 140 15,
  Bc 141 .add 140 1,
  Mv 15 141]
def f541x21L : ACode := (.seq (.seq (.region f541x19 false) (.cond (.t 139) .skip (.exit 1))) (.block 2 (.region f541x20 false)))
def f541x22 : List AOper := [
  Mv 142 15,
  Mv 143 14,
  Ln 144 1 143,
  Bi 145 .lss 142 144,
  Ct 146 586 [145]]
def f541x23 : List AOper := [
  Mv 147 13,
  Mv 148 14,
  Mv 149 15,
  Op 150 (.slstr (.t 148) none (some (.t 149))),
  Ct 151 589 [150],
  Mv 152 14,
  Mv 153 15,
  Bc 154 .add 153 1,
  Op 155 (.slstr (.t 152) (some (.t 154)) none),
  Af [4] (Ct 156 589 [155]),
  Op 157 (.build [.bool false, .int .i64 0, .int .i64 0] [(0, 1), (1, 1), (2, 1)] [(.t 147), (.t 151), (.t 156)]),
  Op 16 (.alloc (.agg [.bool false, .int .i64 0, .int .i64 0])),
  Af [11, 9, 4] (St 3 16 157)]
def f541x24 : List AOper := [
  Mv 158 12,
  Nc 159 158,
  Fa 160 1 159,
  Ld 161 160,
  Ln 162 0 161,
  Ct 163 587 [162]]
def f541x25 : List AOper := [
  Ls 164 3 16,
  Ct 165 520 [164],
  Ct 166 590 [165]]
def f541x26 : List AOper := [
  Mv 167 12,
  Mv 168 12,
  Nc 169 168,
  Fa 170 1 169,
  Ld 171 170,
  Ls 172 3 16,
  Af [5] (Op 173 (.bsl 3 [.bool false, .int .i64 0, .int .i64 0] 1 [0] [(.t 172)])),
  Af [4, 6, 5] (Ap 174 3 24 171 173),
  Nc 175 167,
  Fa 176 1 175,
  Af [7, 4, 6, 5] (St 1 176 174)]
def f541x27 : List AOper := [
  Ca 24 586 [(.c (.bool false))]]
def f541 : AFunc := ⟨177, 2, false, [], (.seq (.seq (.region f541x0 false) (.cond (.t 19) .ret .skip)) (.seq (.region f541x1 false) (.block 0 (.seq (.region f541x2 false) (.cond (.t 25) (.seq (.region f541x3 true) (.seq (.region f541x4 false) (.seq (.region f541x5 false) (.seq (.region f541x6 false) (.region f541x7 true))))) (.seq (.region f541x8 false) (.cond (.t 64) (.seq (.region f541x9 true) (.seq (.region f541x10 false) (.seq (.region f541x11 false) (.seq (.region f541x12 false) (.seq (.region f541x13 false) (.region f541x14 false)))))) (.seq (.region f541x15 false) (.cond (.t 110) (.seq (.region f541x16 true) (.seq (.region f541x17 false) (.seq (.region f541x18 false) (.seq (.block 1 (.loop f541x21L)) (.seq (.region f541x22 false) (.seq (.region f541x23 true) (.seq (.region f541x24 false) (.seq (.region f541x25 false) (.region f541x26 true))))))))) (.region f541x27 false))))))))))⟩
def f542x0 : List AOper := [
  Mv 10 0,
  Ct 11 591 [10],
  Mv 4 11]
def f542x1 : List AOper := [
  Mv 12 4,
  Nc 13 12,
  Fa 14 1 13,
  Ld 15 14,
  Mv 16 4,
  Nc 17 16,
  Fa 18 1 17,
  Ld 19 18,
  Af [7] (Ln 20 0 19),
  Bc 21 .sub 20 1,
  Af [3, 8, 7] (Ia 22 4 15 21),
  Mv 5 22]
def f542x2 : List AOper := [
  Mv 24 1,
  Ct 25 592 [24],
  Mv 23 25,
  Ex 26 23 0,
  Ex 27 23 1,
  Mv 6 26,
  Mv 7 27]
def f542x3 : List AOper := [
  Mv 53 1,
  Op 54 (.bin .eql (.t 53) (.c (.str [97, 99, 99, 101, 112, 116]))),
  Mv 52 54]
def f542x4 : List AOper := [
  Mv 55 5,
  Nc 56 55,
  Fa 57 3 56,
  ⟨none, .store 1 (.t 57) (.c (.int .i64 1)), none, []⟩]
def f542x5 : List AOper := [
  Mv 59 1,
  Op 60 (.bin .eql (.t 59) (.c (.str [114, 101, 106, 101, 99, 116]))),
  Mv 58 60]
def f542x6 : List AOper := [
  Mv 61 5,
  Nc 62 61,
  Fa 63 3 62,
  ⟨none, .store 1 (.t 63) (.c (.int .i64 2)), none, []⟩]
def f542x7 : List AOper := [
  Mv 65 1,
  Op 66 (.bin .eql (.t 65) (.c (.str [110, 101, 120, 116]))),
  Mv 64 66]
def f542x8 : List AOper := [
  Mv 67 5,
  Nc 68 67,
  Fa 69 3 68,
  ⟨none, .store 1 (.t 69) (.c (.int .i64 3)), none, []⟩]
def f542x9 : List AOper := [
  Mv 71 6,
  Op 72 (.bin .eql (.t 71) (.c (.str [109, 97, 116, 99, 104]))),
  Mv 70 72]
def f542x10 : List AOper := [
  Mv 73 5,
  Nc 74 73,
  Fa 75 2 74,
  Ld 76 75,
  Ln 77 0 76,
  Bc 78 .eql 77 0,
  Ct 79 586 [78]]
def f542x11 : List AOper := [
  Mv 80 7,
  Ct 81 593 [80],
  Op 8 (.alloc (.agg [.int .i64 0, .str [], .int .i64 0, .int .u32 0, .int .i64 0, .bool false])),
  St 6 8 81]
def f542x12 : List AOper := [
  Mv 82 5,
  Nc 83 82,
  Fa 84 1 83,
  Ld 85 84,
  Ln 86 0 85,
  Ct 87 587 [86]]
def f542x13 : List AOper := [
  Mv 88 0,
  Nc 89 88,
  Fa 90 4 89,
  Ls 91 4 90,
  Ls 92 6 8,
  Af [3, 4] (Ct 93 594 [91, 92]),
  Af [5, 3, 4] (Ct 94 590 [93])]
def f542x14 : List AOper := [
  Mv 95 5,
  Mv 96 5,
  Nc 97 96,
  Fa 98 1 97,
  Ld 99 98,
  Ls 100 6 8,
  Af [5] (Op 101 (.bsl 6 [.int .i64 0, .str [], .int .i64 0, .int .u32 0, .int .i64 0, .bool false] 1 [0] [(.t 100)])),
  Af [4, 6, 5] (Ap 102 6 56 99 101),
  Nc 103 95,
  Fa 104 1 103,
  Af [7, 4, 6, 5] (St 1 104 102)]
def f542x15 : List AOper := [
  Mv 28 6,
  Op 29 (.bin .eql (.t 28) (.c (.str [115, 101, 116]))),
  Ct 30 586 [29]]
def f542x16 : List AOper := [
  Mv 31 7,
  Ct 32 595 [31],
  Op 9 (.alloc (.agg [.int .i64 0, .int .i64 0, .int .i64 0, .int .u32 0, .int .u32 0])),
  St 5 9 32]
def f542x17 : List AOper := [
  Mv 33 5,
  Nc 34 33,
  Fa 35 2 34,
  Ld 36 35,
  Ln 37 0 36,
  Ct 38 587 [37]]
def f542x18 : List AOper := [
  Ls 39 5 9,
  Ct 40 596 [39],
  Ct 41 590 [40]]
def f542x19 : List AOper := [
  Mv 42 5,
  Mv 43 5,
  Nc 44 43,
  Fa 45 2 44,
  Ld 46 45,
  Ls 47 5 9,
  Af [5] (Op 48 (.bsl 5 [.int .i64 0, .int .i64 0, .int .i64 0, .int .u32 0, .int .u32 0] 1 [0] [(.t 47)])),
  Af [4, 6, 5] (Ap 49 5 32 46 48),
  Nc 50 42,
  Fa 51 2 50,
  Af [7, 4, 6, 5] (St 1 51 49)]
def f542x20 : List AOper := [
  Mv 105 0,
  Mv 106 5,
  Nc 107 106,
  Fa 108 3 107,
  Ld 109 108,
  Bc 110 .eql 109 0,
  Nc 111 105,
  Fa 112 10 111,
  St 1 112 110]
def f542 : AFunc := ⟨113, 2, false, [], (.seq (.region f542x0 false) (.seq (.region f542x1 true) (.seq (.region f542x2 false) (.seq (.block 0 (.seq (.region f542x3 false) (.cond (.t 52) (.region f542x4 false) (.seq (.region f542x5 false) (.cond (.t 58) (.region f542x6 false) (.seq (.region f542x7 false) (.cond (.t 64) (.region f542x8 false) (.seq (.region f542x9 false) (.cond (.t 70) (.seq (.region f542x10 false) (.seq (.region f542x11 false) (.seq (.region f542x12 false) (.seq (.region f542x13 true) (.region f542x14 true))))) (.seq (.region f542x15 false) (.seq (.region f542x16 false) (.seq (.region f542x17 false) (.seq (.region f542x18 false) (.region f542x19 true)))))))))))))) (.region f542x20 false)))))⟩
def f543x0 : List AOper := [
  Mv 9 1,
  Ct 10 592 [9],
  Mv 8 10,
  Ex 11 8 0,
  Ex 12 8 1,
  Mv 4 11,
  Mv 5 12]
def f543x1 : List AOper := [
  Mv 13 0,
  Ct 14 591 [13],
  Mv 6 14]
def f543x2 : List AOper := [
  Mv 53 1,
  Op 54 (.bin .eql (.t 53) (.c (.str [100, 101, 102, 97, 117, 108, 116, 32, 97, 99, 99, 101, 112, 116]))),
  Mv 52 54]
def f543x3 : List AOper := [
  Mv 55 6,
  Nc 56 55,
  Fa 57 2 56,
  ⟨none, .store 1 (.t 57) (.c (.int .i64 1)), none, []⟩]
def f543x4 : List AOper := [
  Mv 58 0,
  Nc 59 58,
  Fa 60 9 59,
  ⟨none, .store 1 (.t 60) (.c (.bool false)), none, []⟩]
def f543x5 : List AOper := [
  Mv 62 1,
  Op 63 (.bin .eql (.t 62) (.c (.str [100, 101, 102, 97, 117, 108, 116, 32, 114, 101, 106, 101, 99, 116]))),
  Mv 61 63]
def f543x6 : List AOper := [
  Mv 64 6,
  Nc 65 64,
  Fa 66 2 65,
  ⟨none, .store 1 (.t 66) (.c (.int .i64 2)), none, []⟩]
def f543x7 : List AOper := [
  Mv 67 0,
  Nc 68 67,
  Fa 69 9 68,
  ⟨none, .store 1 (.t 69) (.c (.bool false)), none, []⟩]
def f543x8 : List AOper := [
  Mv 15 4,
  Op 16 (.bin .eql (.t 15) (.c (.str [116, 101, 114, 109]))),
  Ct 17 586 [16]]
def f543x9 : List AOper := [
  Mv 18 5,
  Ct 19 597 [18],
  Op 20 (.build [.str [], .con (.slice none 0 0), .con (.slice none 0 0), .int .i64 0] [(0, 1), (3, 1)] [(.t 19), (.c (.int .i64 1))]),
  Op 7 (.alloc (.agg [.str [], .con (.slice none 0 0), .con (.slice none 0 0), .int .i64 0])),
  St 4 7 20]
def f543x10 : List AOper := [
  Mv 21 6,
  Nc 22 21,
  Fa 23 1 22,
  Ld 24 23,
  Ln 25 0 24,
  Ct 26 587 [25]]
def f543x11 : List AOper := [
  Mv 27 0,
  Nc 28 27,
  Fa 29 4 28,
  Ls 30 4 29,
  Mv 31 6,
  Nc 32 31,
  Fa 33 1 32,
  Ld 34 33,
  Ls 35 4 7,
  Af [3, 7, 8] (Ct 36 582 [30, 34, 35]),
  Af [9, 3, 7, 8] (Ct 37 590 [36])]
def f543x12 : List AOper := [
  Fa 38 3 7,
  ⟨none, .store 1 (.t 38) (.c (.int .i64 0)), none, []⟩]
def f543x13 : List AOper := [
  Mv 39 6,
  Mv 40 6,
  Nc 41 40,
  Fa 42 1 41,
  Ld 43 42,
  Ls 44 4 7,
  Af [5] (Op 45 (.bsl 4 [.str [], .con (.slice none 0 0), .con (.slice none 0 0), .int .i64 0] 1 [0] [(.t 44)])),
  Af [4, 6, 5] (Ap 46 4 72 43 45),
  Nc 47 39,
  Fa 48 1 47,
  Af [7, 4, 6, 5] (St 1 48 46)]
def f543x14 : List AOper := [
  Mv 49 0,
  Nc 50 49,
  Fa 51 10 50,
  ⟨none, .store 1 (.t 51) (.c (.bool true)), none, []⟩]
def f543 : AFunc := ⟨70, 2, false, [], (.seq (.region f543x0 false) (.seq (.region f543x1 false) (.block 0 (.seq (.region f543x2 false) (.cond (.t 52) (.seq (.region f543x3 false) (.region f543x4 false)) (.seq (.region f543x5 false) (.cond (.t 61) (.seq (.region f543x6 false) (.region f543x7 false)) (.seq (.region f543x8 false) (.seq (.region f543x9 false) (.seq (.region f543x10 false) (.seq (.region f543x11 true) (.seq (.region f543x12 false) (.seq (.region f543x13 true) (.region f543x14 false))))))))))))))⟩
def f623x0 : List AOper := [
  Mc 2 (.bool false)]
def f623x1 : List AOper := [
  Mv 5 0,
  Ln 6 1 5,
  Mc 7 (.int .i64 0)]
def f623x2 : List AOper := [
  Bi 8 .lss 7 6]
def f623x3 : List AOper := [
  Mv 9 7,
  Mv 3 9]
def f623x4 : List AOper := [
  Mv 10 0,
  Mv 11 3,
  Op 12 (.istr (.t 10) (.t 11)),
  Mv 4 12]
def f623x5 : List AOper := [
  Mv 13 4,
  Op 14 (.bin .geq (.t 13) (.c (.int .u8 97))),
  Mv 15 14,
  Gt 15 (Mv 16 4),
  Gt 15 (Op 17 (.bin .leq (.t 16) (.c (.int .u8 122)))),
  Pa 18 15 17,
  Mv 19 18,
  Gf 19 (Mv 20 4),
  Gf 19 (Op 21 (.bin .geq (.t 20) (.c (.int .u8 65)))),
  Gf 19 (Mv 22 21),
  Gt 22 (Mv 23 4),
  Gt 22 (Op 24 (.bin .leq (.t 23) (.c (.int .u8 90)))),
  Gf 19 (Pa 25 22 24),
  Po 26 19 25,
  Mv 27 26,
  Gf 27 (Mv 28 4),
  Gf 27 (Op 29 (.bin .geq (.t 28) (.c (.int .u8 48)))),
  Gf 27 (Mv 30 29),
  Gt 30 (Mv 31 4),
  Gt 30 (Op 32 (.bin .leq (.t 31) (.c (.int .u8 57)))),
  Gf 27 (Pa 33 30 32),
  Po 34 27 33,
  Mv 35 34,
  Gf 35 (Mv 36 4),
  Gf 35 (Op 37 (.bin .eql (.t 36) (.c (.int .u8 45)))),
  Po 38 35 37,
  Un 39 .not 38]
def f623x6 : List AOper := [
  Mc 2 (.bool false)]
def f623x7 : List AOper := [
  Bc 40 .add 7 1,
  Mv 7 40]
def f623x8L : ACode := (.seq (.region f623x2 false) (.seq (.cond (.t 8) .skip (.exit 0)) (.seq (.block 1 (.seq (.region f623x3 false) (.seq (.region f623x4 false) (.seq (.region f623x5 false) (.cond (.t 39) (.seq (.region f623x6 false) .ret) .skip))))) (.region f623x7 false))))
def f623x9 : List AOper := [
  Mv 41 0,
  Ln 42 1 41,
  Bc 43 .geq 42 1,
  Mv 44 43,
  Gt 44 (Mv 45 0),
  Gt 44 (Ln 46 1 45),
  Gt 44 (Bc 47 .leq 46 32),
  Pa 48 44 47,
  Mv 2 48]
def f623 : AFunc := ⟨49, 1, false, [.t 2], (.seq (.region f623x0 false) (.seq (.seq (.region f623x1 false) (.block 0 (.loop f623x8L))) (.seq (.region f623x9 false) .ret)))⟩
def f181x0 : List AOper := [
  Mc 4 (.int .u32 0)]
def f181x1 : List AOper := [
  Mv 5 0,
  Mv 6 1,
  Ct 7 183 [6],
  Bi 8 .and 5 7,
  Mv 4 8]
def f181 : AFunc := ⟨9, 2, false, [.t 4], (.seq (.region f181x0 false) (.seq (.region f181x1 false) .ret))⟩
def f624x0 : List AOper := [
  Op 4 (.alloc (.agg [.int .i64 0, .int .i64 0, .int .i64 0, .con (.slice none 0 0)]))]
def f624x1 : List AOper := [
  Mv 6 0,
  Mv 7 1,
  Ct 8 646 [6, 7],
  Op 9 (.bsl 4 [.int .i64 0, .int .i64 0, .int .i64 0, .con (.slice none 0 0)] 1 [0] [(.t 8)]),
  Mv 5 9]
def f624x2 : List AOper := [
  Mv 10 0,
  Ct 11 625 [10],
  Op 12 (.bin .eql (.t 11) (.c (.int .u8 32)))]
def f624x3 : List AOper := [
  Mv 13 0,
  Nc 14 13,
  Fa 15 1 14,
  Ld 16 15,
  Bc 17 .add 16 1,
  Nc 18 13,
  Fa 19 1 18,
  St 1 19 17]
def f624x4 : List AOper := [
  Mv 20 5,
  Mv 21 0,
  Mv 22 1,
  Ct 23 646 [21, 22],
  Op 24 (.bsl 4 [.int .i64 0, .int .i64 0, .int .i64 0, .con (.slice none 0 0)] 1 [0] [(.t 23)]),
  Ap 25 4 48 20 24,
  Mv 5 25]
def f624x5L : ACode := (.seq (.seq (.region f624x2 false) (.cond (.t 12) .skip (.exit 0))) (.block 1 (.seq (.region f624x3 false) (.region f624x4 false))))
def f624x6 : List AOper := [
  Mv 26 5,
  Ln 27 0 26,
  Bc 28 .eql 27 1]
def f624x7 : List AOper := [
  Mv 29 5,
  Op 30 (.iadr 4 (.t 29) (.c (.int .i64 0))),
  Ls 31 4 30,
  St 4 4 31]
def f624x8 : List AOper := [
  Mv 32 5,
  Op 33 (.build [.int .i64 0, .int .i64 0, .int .i64 0, .con (.slice none 0 0)] [(0, 1), (3, 1)] [(.c (.int .i64 3)), (.t 32)]),
  St 4 4 33]
def f624 : AFunc := ⟨34, 2, false, [.cell 4 (some 4)], (.seq (.region f624x0 false) (.seq (.region f624x1 false) (.seq (.block 0 (.loop f624x5L)) (.seq (.seq (.region f624x6 false) (.cond (.t 28) (.seq (.region f624x7 false) .ret) .skip)) (.seq (.region f624x8 false) .ret)))))⟩
def f625x0 : List AOper := [
  Mc 2 (.int .u8 0)]
def f625x1 : List AOper := [
  Mv 3 0,
  Nc 4 3,
  Fa 5 1 4,
  Ld 6 5,
  Mv 7 0,
  Nc 8 7,
  Fa 9 0 8,
  Ld 10 9,
  Af [7] (Ln 11 1 10),
  Bi 12 .lss 6 11]
def f625x2 : List AOper := [
  Mv 13 0,
  Nc 14 13,
  Fa 15 0 14,
  Ld 16 15,
  Mv 17 0,
  Nc 18 17,
  Fa 19 1 18,
  Ld 20 19,
  Op 21 (.istr (.t 16) (.t 20)),
  Mv 2 21]
def f625x3 : List AOper := [
  Mc 2 (.int .u8 0)]
def f625 : AFunc := ⟨22, 1, false, [.t 2], (.seq (.region f625x0 false) (.seq (.seq (.region f625x1 true) (.cond (.t 12) (.seq (.region f625x2 true) .ret) .skip)) (.seq (.region f625x3 false) .ret)))⟩
def f626x0 : List AOper := [
  Op 1 (.box (.t 0)),
  Mc 2 (.int .i64 0)]
def f626x1 : List AOper := [
  Op 3 (.alloc (.int .i64 0)),
  ⟨none, .store 1 (.t 3) (.c (.int .i64 0)), none, []⟩]
def f626x2 : List AOper := [
  Ls 4 4 1,
  Ca 5 647 [(.t 4), (.c (.int .i64 1)), (.t 3)],
  Mv 2 5]
def f626 : AFunc := ⟨6, 1, false, [.t 2], (.seq (.region f626x0 false) (.seq (.region f626x1 false) (.seq (.region f626x2 false) .ret)))⟩
def f627x0 : List AOper := [
  Op 1 (.box (.t 0)),
  Mc 2 (.str [])]
def f627x1 : List AOper := [
  Mc 3 (.str [32])]
def f627x2 : List AOper := [
  Fa 7 0 1,
  Ld 8 7]
def f627x3 : List AOper := [
  Bc 10 .eql 8 0,
  Mv 9 10]
def f627x4 : List AOper := [
  Mc 2 (.str [40, 41])]
def f627x5 : List AOper := [
  Bc 12 .eql 8 2,
  Mv 11 12]
def f627x6 : List AOper := [
  Mc 2 (.str [46])]
def f627x7 : List AOper := [
  Bc 14 .eql 8 1,
  Mv 13 14]
def f627x8 : List AOper := [
  Fa 15 1 1,
  Ld 16 15,
  Fa 17 2 1,
  Ld 18 17,
  Bi 19 .eql 16 18]
def f627x9 : List AOper := [
  Fa 20 1 1,
  Ld 21 20,
  Ct 22 337 [21],
  Mv 2 22]
def f627x10 : List AOper := [
  Fa 23 1 1,
  Ld 24 23,
  Af [1] (Ct 25 337 [24]),
  Op 26 (.bin .add (.c (.str [91])) (.t 25)),
  Op 27 (.bin .add (.t 26) (.c (.str [45]))),
  Fa 28 2 1,
  Ld 29 28,
  Af [6, 2, 1] (Ct 30 337 [29]),
  Bi 31 .add 27 30,
  Op 32 (.bin .add (.t 31) (.c (.str [93]))),
  Mv 2 32]
def f627x11 : List AOper := [
  Bc 34 .eql 8 5,
  Mv 33 34]
def f627x12 : List AOper := [
  Fa 35 0 1,
  Ld 36 35,
  Fa 37 3 1,
  Ld 38 37,
  Af [3] (Op 39 (.iadr 4 (.t 38) (.c (.int .i64 0)))),
  Af [4, 3] (Ls 40 4 39),
  Af [1, 5, 4, 3] (Ct 41 648 [36, 40]),
  Op 42 (.bin .add (.t 41) (.c (.str [42]))),
  Mv 2 42]
def f627x13 : List AOper := [
  Bc 44 .eql 8 6,
  Mv 43 44]
def f627x14 : List AOper := [
  Fa 45 0 1,
  Ld 46 45,
  Fa 47 3 1,
  Ld 48 47,
  Af [3] (Op 49 (.iadr 4 (.t 48) (.c (.int .i64 0)))),
  Af [4, 3] (Ls 50 4 49),
  Af [1, 5, 4, 3] (Ct 51 648 [46, 50]),
  Op 52 (.bin .add (.t 51) (.c (.str [43]))),
  Mv 2 52]
def f627x15 : List AOper := [
  Bc 54 .eql 8 7,
  Mv 53 54]
def f627x16 : List AOper := [
  Fa 55 0 1,
  Ld 56 55,
  Fa 57 3 1,
  Ld 58 57,
  Af [3] (Op 59 (.iadr 4 (.t 58) (.c (.int .i64 0)))),
  Af [4, 3] (Ls 60 4 59),
  Af [1, 5, 4, 3] (Ct 61 648 [56, 60]),
  Op 62 (.bin .add (.t 61) (.c (.str [63]))),
  Mv 2 62]
def f627x17 : List AOper := [
  Bc 64 .eql 8 4,
  Mv 63 64]
def f627x18 : List AOper := [
  Fa 65 3 1,
  Ld 66 65,
  Ln 67 0 66,
  Bc 68 .eql 67 0]
def f627x19 : List AOper := [
  Mc 2 (.str [33])]
def f627x20 : List AOper := [
  Mc 3 (.str [124])]
def f627x21 : List AOper := [
  Mc 4 (.str [])]
def f627x22 : List AOper := [
  Fa 69 3 1,
  Ld 70 69,
  Ln 71 0 70,
  Mc 72 (.int .i64 0)]
def f627x23 : List AOper := [
  Bi 73 .lss 72 71]
def f627x24 : List AOper := [
  Mv 74 72,
  Ia 75 4 70 72,
  Ls 76 4 75,
  Op 6 (.alloc (.agg [.int .i64 0, .int .i64 0, .int .i64 0, .con (.slice none 0 0)])),
  Mv 5 74,
  St 4 6 76]
def f627x25 : List AOper := [
  Mv 77 5,
  Bc 78 .gtr 77 0]
def f627x26 : List AOper := [
  Mv 79 4,
  Mv 80 3,
  Bi 81 .add 79 80,
  Mv 4 81]
def f627x27 : List AOper := [
  Mv 82 4,
  Fa 83 0 1,
  Ld 84 83,
  Ls 85 4 6,
  Ct 86 648 [84, 85],
  Bi 87 .add 82 86,
  Mv 4 87]
def f627x28 : List AOper := [
  Bc 88 .add 72 1,
  Mv 72 88]
def f627x29L : ACode := (.seq (.region f627x23 false) (.seq (.cond (.t 73) .skip (.exit 1)) (.seq (.block 2 (.seq (.region f627x24 false) (.seq (.seq (.region f627x25 false) (.cond (.t 78) (.region f627x26 false) .skip)) (.region f627x27 false)))) (.region f627x28 false))))
def f627x30 : List AOper := [
  Mv 89 4,
  Mv 2 89]
def f627 : AFunc := ⟨90, 1, false, [.t 2], (.seq (.region f627x0 false) (.seq (.region f627x1 false) (.seq (.seq (.region f627x2 false) (.block 0 (.seq (.region f627x3 false) (.cond (.t 9) (.seq (.region f627x4 false) .ret) (.seq (.region f627x5 false) (.cond (.t 11) (.seq (.region f627x6 false) .ret) (.seq (.region f627x7 false) (.cond (.t 13) (.seq (.seq (.region f627x8 false) (.cond (.t 19) (.seq (.region f627x9 false) .ret) .skip)) (.seq (.region f627x10 true) .ret)) (.seq (.region f627x11 false) (.cond (.t 33) (.seq (.region f627x12 true) .ret) (.seq (.region f627x13 false) (.cond (.t 43) (.seq (.region f627x14 true) .ret) (.seq (.region f627x15 false) (.cond (.t 53) (.seq (.region f627x16 true) .ret) (.seq (.region f627x17 false) (.cond (.t 63) (.seq (.seq (.region f627x18 false) (.cond (.t 68) (.seq (.region f627x19 false) .ret) .skip)) (.region f627x20 false)) .skip)))))))))))))))) (.seq (.region f627x21 false) (.seq (.seq (.region f627x22 false) (.block 1 (.loop f627x29L))) (.seq (.region f627x30 false) .ret))))))⟩
def f594x0 : List AOper := [
  Op 2 (.box (.t 0)),
  Op 3 (.box (.t 1)),
  Mc 4 (.int .i64 0)]
def f594x1 : List AOper := [
  Fa 8 0 3,
  Ld 9 8,
  Fa 10 5 3,
  Ld 11 10,
  Op 12 (.build [.int .i64 0, .str [], .int .i64 0, .int .u32 0, .int .i64 0, .bool false] [(0, 1), (5, 1)] [(.t 9), (.t 11)]),
  Op 5 (.alloc (.agg [.int .i64 0, .str [], .int .i64 0, .int .u32 0, .int .i64 0, .bool false])),
  St 6 5 12]
def f594x2 : List AOper := [
  Mc 6 (.int .i64 0),
  Mc 7 (.int .i64 4294967295)]
def f594x3 : List AOper := [
  Fa 13 0 3,
  Ld 14 13]
def f594x4 : List AOper := [
  Bc 16 .eql 14 1,
  Mv 15 16]
def f594x5 : List AOper := [
  Bc 17 .eql 14 2,
  Mv 15 17]
def f594x6 : List AOper := [
  Bc 18 .eql 14 3,
  Mv 15 18]
def f594x7 : List AOper := [
  Fa 19 1 3,
  Ld 20 19,
  Fa 21 1 5,
  St 1 21 20]
def f594x8 : List AOper := [
  Ls 22 6 3,
  Ls 23 6 5,
  Op 24 (.eqs [.int, .str, .int, .int, .int, .bool] true (.t 22) (.t 23))]
def f594x9 : List AOper := [
  Mc 4 (.int .i64 1)]
def f594x10 : List AOper := [
  Fa 25 0 3,
  Ld 26 25,
  Bc 27 .sub 26 1,
  Op 28 (.iarr 4 1 (.t 2) (.t 27)),
  Af [1] (Ld 29 28),
  Fa 30 1 3,
  Ld 31 30,
  Af [4, 6, 1] (Ct 32 630 [29, 31]),
  Un 33 .not 32]
def f594x11 : List AOper := [
  Mc 4 (.int .i64 6)]
def f594x12 : List AOper := [
  Mc 4 (.int .i64 0)]
def f594x13 : List AOper := [
  Bc 35 .eql 14 7,
  Mv 34 35]
def f594x14 : List AOper := [
  Fa 36 3 3,
  Ls 37 2 36,
  Fa 38 3 5,
  St 2 38 37]
def f594x15 : List AOper := [
  Ls 39 6 3,
  Ls 40 6 5,
  Op 41 (.eqs [.int, .str, .int, .int, .int, .bool] true (.t 39) (.t 40)),
  Mv 42 41,
  Gf 42 (Fa 43 3 3),
  Gf 42 (Ls 44 2 43),
  Gf 42 (Ct 45 178 [44]),
  Gf 42 (Un 46 .not 45),
  Po 47 42 46]
def f594x16 : List AOper := [
  Mc 4 (.int .i64 1)]
def f594x17 : List AOper := [
  Mc 4 (.int .i64 0)]
def f594x18 : List AOper := [
  Bc 49 .eql 14 4,
  Mv 48 49]
def f594x19 : List AOper := [
  Mc 6 (.int .i64 1),
  Mc 7 (.int .i64 7)]
def f594x20 : List AOper := [
  Bc 51 .eql 14 6,
  Mv 50 51]
def f594x21 : List AOper := [
  Mc 7 (.int .i64 16777216)]
def f594x22 : List AOper := [
  Bc 53 .eql 14 8,
  Mv 52 53]
def f594x23 : List AOper := [
  Mc 7 (.int .i64 2000)]
def f594x24 : List AOper := [
  Bc 55 .eql 14 5,
  Mv 54 55]
def f594x25 : List AOper := [
  Mc 4 (.int .i64 15)]
def f594x26 : List AOper := [
  Fa 56 2 3,
  Ld 57 56,
  Fa 58 2 5,
  St 1 58 57]
def f594x27 : List AOper := [
  Ls 59 6 3,
  Ls 60 6 5,
  Op 61 (.eqs [.int, .str, .int, .int, .int, .bool] true (.t 59) (.t 60))]
def f594x28 : List AOper := [
  Mc 4 (.int .i64 1)]
def f594x29 : List AOper := [
  Fa 62 2 3,
  Ld 63 62,
  Mv 64 6,
  Mv 65 7,
  Ct 66 581 [63, 64, 65],
  Un 67 .not 66]
def f594x30 : List AOper := [
  Mc 4 (.int .i64 5)]
def f594x31 : List AOper := [
  Mc 4 (.int .i64 0)]
def f594 : AFunc := ⟨68, 2, false, [.t 4], (.seq (.region f594x0 false) (.seq (.region f594x1 false) (.seq (.region f594x2 false) (.seq (.seq (.region f594x3 false) (.block 0 (.seq (.seq (.region f594x4 false) (.cond (.t 15) .skip (.seq (.region f594x5 false) (.cond (.t 15) .skip (.region f594x6 false))))) (.cond (.t 15) (.seq (.region f594x7 false) (.seq (.seq (.region f594x8 false) (.cond (.t 24) (.seq (.region f594x9 false) .ret) .skip)) (.seq (.seq (.region f594x10 true) (.cond (.t 33) (.seq (.region f594x11 false) .ret) .skip)) (.seq (.region f594x12 false) .ret)))) (.seq (.region f594x13 false) (.cond (.t 34) (.seq (.region f594x14 false) (.seq (.seq (.region f594x15 false) (.cond (.t 47) (.seq (.region f594x16 false) .ret) .skip)) (.seq (.region f594x17 false) .ret))) (.seq (.region f594x18 false) (.cond (.t 48) (.region f594x19 false) (.seq (.region f594x20 false) (.cond (.t 50) (.region f594x21 false) (.seq (.region f594x22 false) (.cond (.t 52) (.region f594x23 false) (.seq (.region f594x24 false) (.cond (.t 54) .skip (.seq (.region f594x25 false) .ret))))))))))))))) (.seq (.region f594x26 false) (.seq (.seq (.region f594x27 false) (.cond (.t 61) (.seq (.region f594x28 false) .ret) .skip)) (.seq (.seq (.region f594x29 false) (.cond (.t 67) (.seq (.region f594x30 false) .ret) .skip)) (.seq (.region f594x31 false) .ret))))))))⟩
def f596x0 : List AOper := [
  Op 1 (.box (.t 0)),
  Mc 2 (.int .i64 0)]
def f596x1 : List AOper := [
  Fa 5 0 1,
  Ld 6 5,
  Op 7 (.build [.int .i64 0, .int .i64 0, .int .i64 0, .int .u32 0, .int .u32 0] [(0, 1)] [(.t 6)]),
  Op 3 (.alloc (.agg [.int .i64 0, .int .i64 0, .int .i64 0, .int .u32 0, .int .u32 0])),
  St 5 3 7]
def f596x2 : List AOper := [
  Mc 4 (.bool true)]
def f596x3 : List AOper := [
  Fa 8 0 1,
  Ld 9 8]
def f596x4 : List AOper := [
  Bc 11 .eql 9 1,
  Mv 10 11]
def f596x5 : List AOper := [
  Bc 12 .eql 9 2,
  Mv 10 12]
def f596x6 : List AOper := [
  Bc 13 .eql 9 4,
  Mv 10 13]
def f596x7 : List AOper := [
  Fa 14 1 1,
  Ld 15 14,
  Fa 16 1 3,
  St 1 16 15]
def f596x8 : List AOper := [
  Fa 17 1 1,
  Ld 18 17,
  Ca 19 581 [(.t 18), (.c (.int .i64 0)), (.c (.int .i64 4294967295))],
  Mv 4 19]
def f596x9 : List AOper := [
  Bc 21 .eql 9 3,
  Mv 20 21]
def f596x10 : List AOper := [
  Fa 22 1 1,
  Ld 23 22,
  Fa 24 1 3,
  St 1 24 23]
def f596x11 : List AOper := [
  Fa 25 1 1,
  Ld 26 25,
  Ca 27 581 [(.t 26), (.c (.int .i64 0)), (.c (.int .i64 16777216))],
  Mv 4 27]
def f596x12 : List AOper := [
  Bc 29 .eql 9 5,
  Mv 28 29]
def f596x13 : List AOper := [
  Fa 30 4 1,
  Ld 31 30,
  Fa 32 4 3,
  St 1 32 31]
def f596x14 : List AOper := [
  Fa 33 4 1,
  Ld 34 33,
  Op 35 (.bin .neq (.t 34) (.c (.int .u32 0))),
  Mv 4 35]
def f596x15 : List AOper := [
  Bc 37 .eql 9 6,
  Mv 36 37]
def f596x16 : List AOper := [
  Bc 38 .eql 9 7,
  Mv 36 38]
def f596x17 : List AOper := [
  Fa 39 3 1,
  Ld 40 39,
  Fa 41 3 3,
  St 1 41 40]
def f596x18 : List AOper := [
  Bc 43 .eql 9 8,
  Mv 42 43]
def f596x19 : List AOper := [
  Fa 44 2 1,
  Ld 45 44,
  Fa 46 1 1,
  Ld 47 46,
  Fa 48 2 3,
  Af [1] (St 1 48 45),
  Fa 49 1 3,
  Af [3, 5, 1] (St 1 49 47)]
def f596x20 : List AOper := [
  Fa 50 2 1,
  Ld 51 50,
  Ca 52 581 [(.t 51), (.c (.int .i64 1)), (.c (.int .i64 4294967295))],
  Mv 53 52,
  Gt 53 (Fa 54 1 1),
  Gt 53 (Ld 55 54),
  Gt 53 (Ca 56 581 [(.t 55), (.c (.int .i64 1)), (.c (.int .i64 16))]),
  Pa 57 53 56,
  Mv 4 57]
def f596x21 : List AOper := [
  Mc 2 (.int .i64 15)]
def f596x22 : List AOper := [
  Ls 58 5 1,
  Ls 59 5 3,
  Op 60 (.eqs [.int, .int, .int, .int, .int] true (.t 58) (.t 59))]
def f596x23 : List AOper := [
  Mc 2 (.int .i64 1)]
def f596x24 : List AOper := [
  Mv 61 4,
  Un 62 .not 61]
def f596x25 : List AOper := [
  Mc 2 (.int .i64 5)]
def f596x26 : List AOper := [
  Mc 2 (.int .i64 0)]
def f596 : AFunc := ⟨63, 1, false, [.t 2], (.seq (.region f596x0 false) (.seq (.region f596x1 false) (.seq (.region f596x2 false) (.seq (.seq (.region f596x3 false) (.block 0 (.seq (.seq (.region f596x4 false) (.cond (.t 10) .skip (.seq (.region f596x5 false) (.cond (.t 10) .skip (.region f596x6 false))))) (.cond (.t 10) (.seq (.region f596x7 false) (.region f596x8 false)) (.seq (.region f596x9 false) (.cond (.t 20) (.seq (.region f596x10 false) (.region f596x11 false)) (.seq (.region f596x12 false) (.cond (.t 28) (.seq (.region f596x13 false) (.region f596x14 false)) (.seq (.seq (.region f596x15 false) (.cond (.t 36) .skip (.region f596x16 false))) (.cond (.t 36) (.region f596x17 false) (.seq (.region f596x18 false) (.cond (.t 42) (.seq (.region f596x19 true) (.region f596x20 false)) (.seq (.region f596x21 false) .ret))))))))))))) (.seq (.seq (.region f596x22 false) (.cond (.t 60) (.seq (.region f596x23 false) .ret) .skip)) (.seq (.seq (.region f596x24 false) (.cond (.t 62) (.seq (.region f596x25 false) .ret) .skip)) (.seq (.region f596x26 false) .ret)))))))⟩
def f227x0 : List AOper := [
  Mc 2 (.str [])]
def f227x1 : List AOper := [
  Op 3 (.alloc (.agg [.str [], .str [], .str [], .str []]))]
def f227x2 : List AOper := [
  Mc 5 (.int .i64 0)]
def f227x3 : List AOper := [
  Bc 6 .lss 5 4]
def f227x4 : List AOper := [
  Mv 7 5,
  Mv 4 7]
def f227x5 : List AOper := [
  Mv 8 4,
  Mv 9 0,
  Mv 10 4,
  Op 11 (.bin .mul (.c (.int .i64 8)) (.t 10)),
  Op 12 (.bin .sub (.c (.int .i64 24)) (.t 11)),
  Bi 13 .shr 9 12,
  Op 14 (.bin .and (.t 13) (.c (.int .u32 255))),
  Cv 15 .i64 14,
  Ct 16 246 [15],
  Op 17 (.iarr 4 1 (.t 3) (.t 8)),
  St 1 17 16]
def f227x6 : List AOper := [
  Bc 18 .add 5 1,
  Mv 5 18]
def f227x7L : ACode := (.seq (.region f227x3 false) (.seq (.cond (.t 6) .skip (.exit 0)) (.seq (.block 1 (.seq (.region f227x4 false) (.region f227x5 false))) (.region f227x6 false))))
def f227x8 : List AOper := [
  Op 19 (.slarr 4 1 (.t 3) none none none),
  Ca 20 247 [(.t 19), (.c (.str [46]))],
  Mv 2 20]
def f227 : AFunc := ⟨21, 1, false, [.t 2], (.seq (.region f227x0 false) (.seq (.region f227x1 false) (.seq (.seq (.region f227x2 false) (.block 0 (.loop f227x7L))) (.seq (.region f227x8 false) .ret))))⟩
def f246x0 : List AOper := [
  Mc 2 (.str [])]
def f246x1 : List AOper := [
  Mv 3 0,
  Ct 4 258 [3],
  Mv 2 4]
def f246 : AFunc := ⟨5, 1, false, [.t 2], (.seq (.region f246x0 false) (.seq (.region f246x1 false) .ret))⟩
def f583x0 : List AOper := [
  Mc 2 (.str [])]
def f583x1 : List AOper := [
  Ct 8 628 [],
  Mv 7 8,
  Ex 9 7 0,
  Ex 10 7 1,
  Op 3 (.alloc (.agg [.int .u32 0, .int .u32 0, .int .u32 0, .int .u32 0])),
  Op 4 (.alloc (.agg [.str [], .str [], .str [], .str []])),
  St 4 3 9,
  St 4 4 10]
def f583x2 : List AOper := [
  Ls 11 4 3,
  Mc 12 (.int .i64 0)]
def f583x3 : List AOper := [
  Bc 13 .lss 12 4]
def f583x4 : List AOper := [
  Mv 14 12,
  Op 15 (.ival 4 1 none (.t 11) (.t 12)),
  Mv 5 14,
  Mv 6 15]
def f583x5 : List AOper := [
  Mv 16 0,
  Mv 17 6,
  Bi 18 .eql 16 17]
def f583x6 : List AOper := [
  Mv 19 5,
  Op 20 (.iarr 4 1 (.t 4) (.t 19)),
  Ld 21 20,
  Mv 2 21]
def f583x7 : List AOper := [
  Bc 22 .add 12 1,
  Mv 12 22]
def f583x8L : ACode := (.seq (.region f583x3 false) (.seq (.cond (.t 13) .skip (.exit 0)) (.seq (.block 1 (.seq (.region f583x4 false) (.seq (.region f583x5 false) (.cond (.t 18) (.seq (.region f583x6 false) .ret) .skip)))) (.region f583x7 false))))
def f583x9 : List AOper := [
  Mv 23 0,
  Op 24 (.bin .shr (.t 23) (.c (.int .u64 16))),
  Cv 25 .i64 24,
  Ct 26 337 [25],
  Op 27 (.bin .add (.t 26) (.c (.str [58]))),
  Mv 28 0,
  Op 29 (.bin .and (.t 28) (.c (.int .u32 65535))),
  Cv 30 .i64 29,
  Ct 31 337 [30],
  Bi 32 .add 27 31,
  Mv 2 32]
def f583 : AFunc := ⟨33, 1, false, [.t 2], (.seq (.region f583x0 false) (.seq (.region f583x1 false) (.seq (.seq (.region f583x2 false) (.block 0 (.loop f583x8L))) (.seq (.region f583x9 false) .ret))))⟩
def f585x0 : List AOper := [
  Mc 4 (.bool false)]
def f585x1 : List AOper := [
  Mv 11 1,
  Ct 12 592 [11],
  Mv 10 12,
  Ex 13 10 0,
  Ex 14 10 1,
  Mv 5 13,
  Mv 6 14]
def f585x2 : List AOper := [
  Mc 7 (.int .i64 0)]
def f585x3 : List AOper := [
  Mv 15 5]
def f585x4 : List AOper := [
  Op 17 (.bin .eql (.t 15) (.c (.str [112, 114, 101, 102, 105, 120, 45, 108, 105, 115, 116]))),
  Mv 16 17]
def f585x5 : List AOper := [
  Mc 7 (.int .i64 1)]
def f585x6 : List AOper := [
  Op 19 (.bin .eql (.t 15) (.c (.str [112, 97, 116, 104, 45, 108, 105, 115, 116]))),
  Mv 18 19]
def f585x7 : List AOper := [
  Mc 7 (.int .i64 2)]
def f585x8 : List AOper := [
  Op 21 (.bin .eql (.t 15) (.c (.str [99, 111, 109, 109, 117, 110, 105, 116, 121, 45, 108, 105, 115, 116]))),
  Mv 20 21]
def f585x9 : List AOper := [
  Mc 7 (.int .i64 3)]
def f585x10 : List AOper := [
  Op 23 (.bin .eql (.t 15) (.c (.str [112, 111, 108, 105, 99, 121]))),
  Mv 22 23]
def f585x11 : List AOper := [
  Mc 7 (.int .i64 4)]
def f585x12 : List AOper := [
  Mc 4 (.bool false)]
def f585x13 : List AOper := [
  Mv 24 7,
  Mv 25 0,
  Nc 26 25,
  Fa 27 8 26,
  Ld 28 27,
  Bi 29 .geq 24 28,
  Ct 30 586 [29]]
def f585x14 : List AOper := [
  Mv 31 6,
  Ct 32 597 [31],
  Mv 8 32]
def f585x15 : List AOper := [
  Mv 33 0,
  Mv 34 7,
  Nc 35 33,
  Fa 36 8 35,
  St 1 36 34]
def f585x16 : List AOper := [
  Mv 37 0,
  Mv 38 7,
  Bc 39 .sub 38 1,
  Nc 40 37,
  Fa 41 4 40,
  Op 42 (.iarr 4 1 (.t 41) (.t 39)),
  Ld 43 42,
  Mv 9 43]
def f585x17 : List AOper := [
  Mv 44 9,
  Ln 45 0 44,
  Bc 46 .geq 45 64]
def f585x18 : List AOper := [
  Ca 47 590 [(.c (.int .i64 4))]]
def f585x19 : List AOper := [
  Mv 48 9,
  Mv 49 8,
  Ct 50 577 [48, 49],
  Ct 51 590 [50]]
def f585x20 : List AOper := [
  Mv 52 0,
  Mv 53 7,
  Bc 54 .sub 53 1,
  Mv 55 9,
  Mv 56 8,
  Op 57 (.bsl 1 [.str []] 1 [0] [(.t 56)]),
  Af [5] (Ap 58 1 16 55 57),
  Nc 59 52,
  Fa 60 4 59,
  Op 61 (.iarr 4 1 (.t 60) (.t 54)),
  Af [6, 5] (St 1 61 58)]
def f585x21 : List AOper := [
  Mv 62 7]
def f585x22 : List AOper := [
  Bc 64 .eql 62 1,
  Mv 63 64]
def f585x23 : List AOper := [
  Mv 65 0,
  Mv 66 0,
  Nc 67 66,
  Fa 68 0 67,
  Fa 69 0 68,
  Ld 70 69,
  Mv 71 8,
  Op 72 (.build [.str [], .con (.slice none 0 0)] [(0, 1)] [(.t 71)]),
  Op 73 (.bsl 2 [.str [], .con (.slice none 0 0)] 1 [0] [(.t 72)]),
  Ap 74 2 40 70 73,
  Nc 75 65,
  Fa 76 0 75,
  Fa 77 0 76,
  St 1 77 74]
def f585x24 : List AOper := [
  Bc 79 .eql 62 2,
  Mv 78 79]
def f585x25 : List AOper := [
  Mv 80 0,
  Mv 81 0,
  Nc 82 81,
  Fa 83 0 82,
  Fa 84 1 83,
  Ld 85 84,
  Mv 86 8,
  Op 87 (.build [.str [], .con (.slice none 0 0)] [(0, 1)] [(.t 86)]),
  Op 88 (.bsl 2 [.str [], .con (.slice none 0 0)] 1 [0] [(.t 87)]),
  Ap 89 2 40 85 88,
  Nc 90 80,
  Fa 91 0 90,
  Fa 92 1 91,
  St 1 92 89]
def f585x26 : List AOper := [
  Bc 94 .eql 62 3,
  Mv 93 94]
def f585x27 : List AOper := [
  Mv 95 0,
  Mv 96 0,
  Nc 97 96,
  Fa 98 0 97,
  Fa 99 2 98,
  Ld 100 99,
  Mv 101 8,
  Op 102 (.build [.str [], .con (.slice none 0 0)] [(0, 1)] [(.t 101)]),
  Op 103 (.bsl 2 [.str [], .con (.slice none 0 0)] 1 [0] [(.t 102)]),
  Ap 104 2 40 100 103,
  Nc 105 95,
  Fa 106 0 105,
  Fa 107 2 106,
  St 1 107 104]
def f585x28 : List AOper := [
  Bc 109 .eql 62 4,
  Mv 108 109]
def f585x29 : List AOper := [
  Mv 110 0,
  Mv 111 0,
  Nc 112 111,
  Fa 113 0 112,
  Fa 114 3 113,
  Ld 115 114,
  Mv 116 8,
  Op 117 (.build [.str [], .con (.slice none 0 0), .int .i64 0] [(0, 1)] [(.t 116)]),
  Op 118 (.bsl 3 [.str [], .con (.slice none 0 0), .int .i64 0] 1 [0] [(.t 117)]),
  Ap 119 3 48 115 118,
  Nc 120 110,
  Fa 121 0 120,
  Fa 122 3 121,
  St 1 122 119]
def f585x30 : List AOper := [
  Mv 123 0,
  Nc 124 123,
  Fa 125 9 124,
  ⟨none, .store 1 (.t 125) (.c (.bool true)), none, []⟩]
def f585x31 : List AOper := [
  Mc 4 (.bool true)]
def f585 : AFunc := ⟨126, 2, false, [.t 4], (.seq (.region f585x0 false) (.seq (.region f585x1 false) (.seq (.region f585x2 false) (.seq (.seq (.region f585x3 false) (.block 0 (.seq (.region f585x4 false) (.cond (.t 16) (.region f585x5 false) (.seq (.region f585x6 false) (.cond (.t 18) (.region f585x7 false) (.seq (.region f585x8 false) (.cond (.t 20) (.region f585x9 false) (.seq (.region f585x10 false) (.cond (.t 22) (.region f585x11 false) (.seq (.region f585x12 false) .ret))))))))))) (.seq (.region f585x13 false) (.seq (.region f585x14 false) (.seq (.region f585x15 false) (.seq (.region f585x16 false) (.seq (.seq (.region f585x17 false) (.cond (.t 46) (.region f585x18 false) .skip)) (.seq (.region f585x19 false) (.seq (.region f585x20 true) (.seq (.seq (.region f585x21 false) (.block 1 (.seq (.region f585x22 false) (.cond (.t 63) (.region f585x23 false) (.seq (.region f585x24 false) (.cond (.t 78) (.region f585x25 false) (.seq (.region f585x26 false) (.cond (.t 93) (.region f585x27 false) (.seq (.region f585x28 false) (.cond (.t 108) (.seq (.region f585x29 false) (.region f585x30 false)) .skip)))))))))) (.seq (.region f585x31 false) .ret)))))))))))))⟩
def f334x0 : List AOper := [
  Op 2 (.alloc (.agg [.bool false, .int .u32 0, .int .i64 0, .int .i64 0, .int .i64 0])),
  Mc 3 (.int .i64 0)]
def f334x1 : List AOper := [
  Mv 14 0,
  Ct 15 339 [14],
  Mv 13 15,
  Ex 16 13 0,
  Ex 17 13 1,
  Mv 4 16,
  Mv 5 17]
def f334x2 : List AOper := [
  Mv 18 5,
  Bc 19 .neq 18 0,
  Mv 20 19,
  Gf 20 (Mv 21 4),
  Gf 20 (Ln 22 0 21),
  Gf 20 (Bc 23 .lss 22 2),
  Po 24 20 23,
  Mv 25 24,
  Gf 25 (Mv 26 4),
  Gf 25 (Ln 27 0 26),
  Gf 25 (Bc 28 .gtr 27 3),
  Po 29 25 28]
def f334x3 : List AOper := [
  Op 30 (.build [.bool false, .int .u32 0, .int .i64 0, .int .i64 0, .int .i64 0] [] []),
  St 5 2 30,
  Mc 3 (.int .i64 2)]
def f334x4 : List AOper := [
  Mv 32 4,
  Op 33 (.iadr 1 (.t 32) (.c (.int .i64 1))),
  Ld 34 33,
  Ct 35 233 [34],
  Mv 31 35,
  Ex 36 31 0,
  Ex 37 31 1,
  Op 6 (.alloc (.agg [.int .u32 0, .int .i64 0])),
  St 2 6 36,
  Mv 5 37]
def f334x5 : List AOper := [
  Mv 38 5,
  Bc 39 .neq 38 0]
def f334x6 : List AOper := [
  Op 40 (.build [.bool false, .int .u32 0, .int .i64 0, .int .i64 0, .int .i64 0] [] []),
  St 5 2 40,
  Mc 3 (.int .i64 2)]
def f334x7 : List AOper := [
  Mv 41 4,
  Op 42 (.iadr 1 (.t 41) (.c (.int .i64 0))),
  Af [1] (Ld 43 42),
  Op 44 (.bin .eql (.t 43) (.c (.str [112, 101, 114, 109, 105, 116]))),
  Ls 45 2 6,
  Fa 46 1 6,
  Ld 47 46,
  Fa 48 1 6,
  Ld 49 48,
  Op 50 (.build [.bool false, .int .u32 0, .int .i64 0, .int .i64 0, .int .i64 0] [(0, 1), (1, 2), (3, 1), (4, 1)] [(.t 44), (.t 45), (.t 47), (.t 49)]),
  Op 7 (.alloc (.agg [.bool false, .int .u32 0, .int .i64 0, .int .i64 0, .int .i64 0])),
  Af [10, 4, 6, 8, 2, 1] (St 5 7 50)]
def f334x8 : List AOper := [
  Mv 51 4,
  Ln 52 0 51,
  Bc 53 .eql 52 3]
def f334x9 : List AOper := [
  Mv 55 4,
  Op 56 (.iadr 1 (.t 55) (.c (.int .i64 2))),
  Ld 57 56,
  Ct 58 340 [57],
  Mv 54 58,
  Ex 59 54 0,
  Ex 60 54 1,
  Ex 61 54 2,
  Mv 8 59,
  Mv 9 60,
  Mv 10 61]
def f334x10 : List AOper := [
  Mv 62 10,
  Un 63 .not 62]
def f334x11 : List AOper := [
  Op 64 (.build [.bool false, .int .u32 0, .int .i64 0, .int .i64 0, .int .i64 0] [] []),
  St 5 2 64,
  Mc 3 (.int .i64 2)]
def f334x12 : List AOper := [
  Mv 65 8,
  Mv 66 9,
  Fa 67 3 7,
  St 1 67 65,
  Fa 68 4 7,
  St 1 68 66]
def f334x13 : List AOper := [
  Ls 70 5 7,
  Ct 71 332 [70],
  Mv 69 71,
  Ex 72 69 0,
  Ex 73 69 1,
  Mv 11 72,
  Mv 12 73]
def f334x14 : List AOper := [
  Mv 74 12,
  Bc 75 .neq 74 0,
  Mv 76 75,
  Gf 76 (Mv 77 11),
  Gf 76 (Mv 78 0),
  Gf 76 (Bi 79 .neq 77 78),
  Po 80 76 79]
def f334x15 : List AOper := [
  Op 81 (.build [.bool false, .int .u32 0, .int .i64 0, .int .i64 0, .int .i64 0] [] []),
  St 5 2 81,
  Mc 3 (.int .i64 2)]
def f334x16 : List AOper := [
  Ls 82 5 7,
  St 5 2 82,
  Mc 3 (.int .i64 0)]
def f334 : AFunc := ⟨83, 1, false, [.cell 2 (some 5), .t 3], (.seq (.region f334x0 false) (.seq (.region f334x1 false) (.seq (.seq (.region f334x2 false) (.cond (.t 29) (.seq (.region f334x3 false) .ret) .skip)) (.seq (.region f334x4 false) (.seq (.seq (.region f334x5 false) (.cond (.t 39) (.seq (.region f334x6 false) .ret) .skip)) (.seq (.region f334x7 true) (.seq (.seq (.region f334x8 false) (.cond (.t 53) (.seq (.region f334x9 false) (.seq (.seq (.region f334x10 false) (.cond (.t 63) (.seq (.region f334x11 false) .ret) .skip)) (.region f334x12 false))) .skip)) (.seq (.seq (.region f334x13 false) (.seq (.region f334x14 false) (.cond (.t 80) (.seq (.region f334x15 false) .ret) .skip))) (.seq (.region f334x16 false) .ret)))))))))⟩
def f586x0 : List AOper := [
  Mv 2 0,
  Un 3 .not 2]
def f586x1 : List AOper := [
  Op 4 (.build [.int .i64 0] [(0, 1)] [(.c (.int .i64 2))]),
  Op 5 (.mkifc 138 (.t 4)),
  ⟨none, .panic (.t 5), none, []⟩]
def f586 : AFunc := ⟨6, 1, false, [], (.seq (.region f586x0 false) (.cond (.t 3) (.region f586x1 false) .skip))⟩
def f587x0 : List AOper := [
  Mv 2 0,
  Bc 3 .geq 2 64]
def f587x1 : List AOper := [
  Ca 4 590 [(.c (.int .i64 4))]]
def f587 : AFunc := ⟨5, 1, false, [], (.seq (.region f587x0 false) (.cond (.t 3) (.region f587x1 false) .skip))⟩
def f588x0 : List AOper := [
  Mc 2 (.bool false),
  Mc 3 (.str [])]
def f588x1 : List AOper := [
  Mv 7 0,
  Ct 8 592 [7],
  Mv 6 8,
  Ex 9 6 0,
  Ex 10 6 1,
  Mv 4 9,
  Mv 5 10]
def f588x2 : List AOper := [
  Mv 11 4,
  Op 12 (.bin .eql (.t 11) (.c (.str [112, 101, 114, 109, 105, 116]))),
  Mv 13 12,
  Gf 13 (Mv 14 4),
  Gf 13 (Op 15 (.bin .eql (.t 14) (.c (.str [100, 101, 110, 121])))),
  Po 16 13 15,
  Ct 17 586 [16]]
def f588x3 : List AOper := [
  Mv 18 4,
  Op 19 (.bin .eql (.t 18) (.c (.str [112, 101, 114, 109, 105, 116]))),
  Mv 20 5,
  Mv 2 19,
  Mv 3 20]
def f588 : AFunc := ⟨21, 1, false, [.t 2, .t 3], (.seq (.region f588x0 false) (.seq (.region f588x1 false) (.seq (.region f588x2 false) (.seq (.region f588x3 false) .ret))))⟩
def f589x0 : List AOper := [
  Mc 2 (.int .i64 0)]
def f589x1 : List AOper := [
  Mv 3 0,
  Op 4 (.bin .eql (.t 3) (.c (.str [42])))]
def f589x2 : List AOper := [
  Mc 2 (.int .i64 (-1))]
def f589x3 : List AOper := [
  Mv 5 0,
  Ct 6 629 [5],
  Mv 2 6]
def f589 : AFunc := ⟨7, 1, false, [.t 2], (.seq (.region f589x0 false) (.seq (.seq (.region f589x1 false) (.cond (.t 4) (.seq (.region f589x2 false) .ret) .skip)) (.seq (.region f589x3 false) .ret)))⟩
def f590x0 : List AOper := [
  Mv 2 0,
  Bc 3 .neq 2 0]
def f590x1 : List AOper := [
  Mv 4 0,
  Op 5 (.build [.int .i64 0] [(0, 1)] [(.t 4)]),
  Op 6 (.mkifc 138 (.t 5)),
  ⟨none, .panic (.t 6), none, []⟩]
def f590 : AFunc := ⟨7, 1, false, [], (.seq (.region f590x0 false) (.cond (.t 3) (.region f590x1 false) .skip))⟩
def f591x0 : List AOper := [
  Mc 2 (.con (.pointer none))]
def f591x1 : List AOper := [
  Mv 3 0,
  Nc 4 3,
  Fa 5 0 4,
  Fa 6 3 5,
  Ld 7 6,
  Mv 8 0,
  Nc 9 8,
  Fa 10 0 9,
  Fa 11 3 10,
  Ld 12 11,
  Af [9] (Ln 13 0 12),
  Bc 14 .sub 13 1,
  Af [4, 10, 9] (Ia 15 3 7 14),
  Mv 2 15]
def f591 : AFunc := ⟨16, 1, false, [.t 2], (.seq (.region f591x0 false) (.seq (.region f591x1 true) .ret))⟩
def f592x0 : List AOper := [
  Mc 2 (.str []),
  Mc 3 (.str [])]
def f592x1 : List AOper := [
  Mv 5 0,
  Ln 6 1 5,
  Mc 7 (.int .i64 0)]
def f592x2 : List AOper := [
  Bi 8 .lss 7 6]
def f592x3 : List AOper := [
  Mv 9 7,
  Mv 4 9]
def f592x4 : List AOper := [
  Mv 10 0,
  Mv 11 4,
  Op 12 (.istr (.t 10) (.t 11)),
  Op 13 (.bin .eql (.t 12) (.c (.int .u8 32)))]
def f592x5 : List AOper := [
  Mv 14 0,
  Mv 15 4,
  Op 16 (.slstr (.t 14) none (some (.t 15))),
  Mv 17 0,
  Mv 18 4,
  Bc 19 .add 18 1,
  Op 20 (.slstr (.t 17) (some (.t 19)) none),
  Mv 2 16,
  Mv 3 20]
def f592x6 : List AOper := [
  Bc 21 .add 7 1,
  Mv 7 21]
def f592x7L : ACode := (.seq (.region f592x2 false) (.seq (.cond (.t 8) .skip (.exit 0)) (.seq (.block 1 (.seq (.region f592x3 false) (.seq (.region f592x4 false) (.cond (.t 13) (.seq (.region f592x5 true) .ret) .skip)))) (.region f592x6 false))))
def f592x8 : List AOper := [
  Mv 22 0,
  Mv 2 22,
  Mc 3 (.str [])]
def f592 : AFunc := ⟨23, 1, false, [.t 2, .t 3], (.seq (.region f592x0 false) (.seq (.seq (.region f592x1 false) (.block 0 (.loop f592x7L))) (.seq (.region f592x8 false) .ret)))⟩
def f593x0 : List AOper := [
  Op 2 (.alloc (.agg [.int .i64 0, .str [], .int .i64 0, .int .u32 0, .int .i64 0, .bool false]))]
def f593x1 : List AOper := [
  Mv 9 0,
  Ct 10 592 [9],
  Mv 8 10,
  Ex 11 8 0,
  Ex 12 8 1,
  Mv 3 11,
  Mv 4 12]
def f593x2 : List AOper := [
  Op 13 (.build [.int .i64 0, .str [], .int .i64 0, .int .u32 0, .int .i64 0, .bool false] [] []),
  Op 5 (.alloc (.agg [.int .i64 0, .str [], .int .i64 0, .int .u32 0, .int .i64 0, .bool false])),
  St 6 5 13]
def f593x3 : List AOper := [
  Mv 14 3,
  Op 15 (.bin .eql (.t 14) (.c (.str [110, 111, 116])))]
def f593x4 : List AOper := [
  Fa 16 5 5,
  ⟨none, .store 1 (.t 16) (.c (.bool true)), none, []⟩]
def f593x5 : List AOper := [
  Mv 18 4,
  Ct 19 592 [18],
  Mv 17 19,
  Ex 20 17 0,
  Ex 21 17 1,
  Mv 3 20,
  Mv 4 21]
def f593x6 : List AOper := [
  Mv 22 4,
  Ct 23 597 [22]]
def f593x7 : List AOper := [
  Mv 24 3]
def f593x8 : List AOper := [
  Op 40 (.bin .eql (.t 24) (.c (.str [112, 114, 101, 102, 105, 120, 45, 108, 105, 115, 116]))),
  Mv 39 40]
def f593x9 : List AOper := [
  Mv 41 4,
  Fa 42 0 5,
  ⟨none, .store 1 (.t 42) (.c (.int .i64 1)), none, []⟩,
  Fa 43 1 5,
  St 1 43 41]
def f593x10 : List AOper := [
  Op 45 (.bin .eql (.t 24) (.c (.str [112, 97, 116, 104, 45, 108, 105, 115, 116]))),
  Mv 44 45]
def f593x11 : List AOper := [
  Mv 46 4,
  Fa 47 0 5,
  ⟨none, .store 1 (.t 47) (.c (.int .i64 2)), none, []⟩,
  Fa 48 1 5,
  St 1 48 46]
def f593x12 : List AOper := [
  Op 50 (.bin .eql (.t 24) (.c (.str [99, 111, 109, 109, 117, 110, 105, 116, 121, 45, 108, 105, 115, 116]))),
  Mv 49 50]
def f593x13 : List AOper := [
  Mv 51 4,
  Fa 52 0 5,
  ⟨none, .store 1 (.t 52) (.c (.int .i64 3)), none, []⟩,
  Fa 53 1 5,
  St 1 53 51]
def f593x14 : List AOper := [
  Op 55 (.bin .eql (.t 24) (.c (.str [112, 114, 111, 116, 111, 99, 111, 108]))),
  Mv 54 55]
def f593x15 : List AOper := [
  Mv 56 4,
  Ct 57 629 [56],
  Fa 58 0 5,
  ⟨none, .store 1 (.t 58) (.c (.int .i64 4)), none, []⟩,
  Fa 59 2 5,
  St 1 59 57]
def f593x16 : List AOper := [
  Op 61 (.bin .eql (.t 24) (.c (.str [116, 97, 103]))),
  Mv 60 61]
def f593x17 : List AOper := [
  Mv 62 4,
  Ct 63 629 [62],
  Fa 64 0 5,
  ⟨none, .store 1 (.t 64) (.c (.int .i64 5)), none, []⟩,
  Fa 65 2 5,
  St 1 65 63]
def f593x18 : List AOper := [
  Op 67 (.bin .eql (.t 24) (.c (.str [109, 101, 116, 114, 105, 99]))),
  Mv 66 67]
def f593x19 : List AOper := [
  Mv 68 4,
  Ct 69 629 [68],
  Fa 70 0 5,
  ⟨none, .store 1 (.t 70) (.c (.int .i64 6)), none, []⟩,
  Fa 71 2 5,
  St 1 71 69]
def f593x20 : List AOper := [
  Op 73 (.bin .eql (.t 24) (.c (.str [112, 97, 116, 104, 45, 108, 101, 110, 103, 116, 104]))),
  Mv 72 73]
def f593x21 : List AOper := [
  Mv 74 4,
  Ct 75 629 [74],
  Fa 76 0 5,
  ⟨none, .store 1 (.t 76) (.c (.int .i64 8)), none, []⟩,
  Fa 77 2 5,
  St 1 77 75]
def f593x22 : List AOper := [
  Mv 25 3,
  Op 26 (.bin .eql (.t 25) (.c (.str [110, 101, 120, 116, 45, 104, 111, 112]))),
  Ct 27 586 [26]]
def f593x23 : List AOper := [
  Mv 29 4,
  Ct 30 233 [29],
  Mv 28 30,
  Ex 31 28 0,
  Ex 32 28 1,
  Op 6 (.alloc (.agg [.int .u32 0, .int .i64 0])),
  St 2 6 31,
  Mv 7 32]
def f593x24 : List AOper := [
  Mv 33 7,
  Bc 34 .eql 33 0,
  Ct 35 586 [34]]
def f593x25 : List AOper := [
  Ls 36 2 6,
  Fa 37 0 5,
  ⟨none, .store 1 (.t 37) (.c (.int .i64 7)), none, []⟩,
  Fa 38 3 5,
  Af [0, 2] (St 2 38 36)]
def f593x26 : List AOper := [
  Ls 78 6 5,
  St 6 2 78]
def f593 : AFunc := ⟨79, 1, false, [.cell 2 (some 6)], (.seq (.region f593x0 false) (.seq (.region f593x1 false) (.seq (.region f593x2 false) (.seq (.seq (.region f593x3 false) (.cond (.t 15) (.seq (.region f593x4 false) (.region f593x5 false)) .skip)) (.seq (.region f593x6 false) (.seq (.seq (.region f593x7 false) (.block 0 (.seq (.region f593x8 false) (.cond (.t 39) (.region f593x9 false) (.seq (.region f593x10 false) (.cond (.t 44) (.region f593x11 false) (.seq (.region f593x12 false) (.cond (.t 49) (.region f593x13 false) (.seq (.region f593x14 false) (.cond (.t 54) (.region f593x15 false) (.seq (.region f593x16 false) (.cond (.t 60) (.region f593x17 false) (.seq (.region f593x18 false) (.cond (.t 66) (.region f593x19 false) (.seq (.region f593x20 false) (.cond (.t 72) (.region f593x21 false) (.seq (.region f593x22 false) (.seq (.region f593x23 false) (.seq (.region f593x24 false) (.region f593x25 true)))))))))))))))))))) (.seq (.region f593x26 false) .ret)))))))⟩
def f595x0 : List AOper := [
  Op 2 (.alloc (.agg [.int .i64 0, .int .i64 0, .int .i64 0, .int .u32 0, .int .u32 0]))]
def f595x1 : List AOper := [
  Mv 12 0,
  Ct 13 592 [12],
  Mv 11 13,
  Ex 14 11 0,
  Ex 15 11 1,
  Mv 3 14,
  Mv 4 15]
def f595x2 : List AOper := [
  Mv 16 3]
def f595x3 : List AOper := [
  Op 18 (.bin .eql (.t 16) (.c (.str [112, 114, 101, 102]))),
  Mv 17 18]
def f595x4 : List AOper := [
  Mv 19 4,
  Ct 20 629 [19],
  Op 21 (.build [.int .i64 0, .int .i64 0, .int .i64 0, .int .u32 0, .int .u32 0] [(0, 1), (1, 1)] [(.c (.int .i64 1)), (.t 20)]),
  St 5 2 21]
def f595x5 : List AOper := [
  Op 23 (.bin .eql (.t 16) (.c (.str [109, 101, 100]))),
  Mv 22 23]
def f595x6 : List AOper := [
  Mv 24 4,
  Ct 25 629 [24],
  Op 26 (.build [.int .i64 0, .int .i64 0, .int .i64 0, .int .u32 0, .int .u32 0] [(0, 1), (1, 1)] [(.c (.int .i64 2)), (.t 25)]),
  St 5 2 26]
def f595x7 : List AOper := [
  Op 28 (.bin .eql (.t 16) (.c (.str [109, 101, 116, 114, 105, 99]))),
  Mv 27 28]
def f595x8 : List AOper := [
  Mv 29 4,
  Ct 30 629 [29],
  Op 31 (.build [.int .i64 0, .int .i64 0, .int .i64 0, .int .u32 0, .int .u32 0] [(0, 1), (1, 1)] [(.c (.int .i64 3)), (.t 30)]),
  St 5 2 31]
def f595x9 : List AOper := [
  Op 33 (.bin .eql (.t 16) (.c (.str [116, 97, 103]))),
  Mv 32 33]
def f595x10 : List AOper := [
  Mv 34 4,
  Ct 35 629 [34],
  Op 36 (.build [.int .i64 0, .int .i64 0, .int .i64 0, .int .u32 0, .int .u32 0] [(0, 1), (1, 1)] [(.c (.int .i64 4)), (.t 35)]),
  St 5 2 36]
def f595x11 : List AOper := [
  Op 38 (.bin .eql (.t 16) (.c (.str [110, 101, 120, 116, 45, 104, 111, 112]))),
  Mv 37 38]
def f595x12 : List AOper := [
  Mv 40 4,
  Ct 41 231 [40],
  Mv 39 41,
  Ex 42 39 0,
  Ex 43 39 1,
  Mv 5 42,
  Mv 6 43]
def f595x13 : List AOper := [
  Mv 44 6,
  Bc 45 .eql 44 0,
  Ct 46 586 [45]]
def f595x14 : List AOper := [
  Mv 47 5,
  Op 48 (.build [.int .i64 0, .int .i64 0, .int .i64 0, .int .u32 0, .int .u32 0] [(0, 1), (4, 1)] [(.c (.int .i64 5)), (.t 47)]),
  St 5 2 48]
def f595x15 : List AOper := [
  Op 50 (.bin .eql (.t 16) (.c (.str [97, 100, 100]))),
  Mv 49 50]
def f595x16 : List AOper := [
  Op 51 (.bin .eql (.t 16) (.c (.str [100, 101, 108, 101, 116, 101]))),
  Mv 49 51]
def f595x17 : List AOper := [
  Mv 53 4,
  Ct 54 631 [53],
  Mv 52 54,
  Ex 55 52 0,
  Ex 56 52 1,
  Mv 7 55,
  Mv 8 56]
def f595x18 : List AOper := [
  Mv 57 8,
  Bc 58 .eql 57 0,
  Ct 59 586 [58]]
def f595x19 : List AOper := [
  Mv 60 3,
  Op 61 (.bin .eql (.t 60) (.c (.str [97, 100, 100])))]
def f595x20 : List AOper := [
  Mv 62 7,
  Op 63 (.build [.int .i64 0, .int .i64 0, .int .i64 0, .int .u32 0, .int .u32 0] [(0, 1), (3, 1)] [(.c (.int .i64 6)), (.t 62)]),
  St 5 2 63]
def f595x21 : List AOper := [
  Mv 64 7,
  Op 65 (.build [.int .i64 0, .int .i64 0, .int .i64 0, .int .u32 0, .int .u32 0] [(0, 1), (3, 1)] [(.c (.int .i64 7)), (.t 64)]),
  St 5 2 65]
def f595x22 : List AOper := [
  Mv 66 3,
  Op 67 (.bin .eql (.t 66) (.c (.str [112, 114, 101, 112, 101, 110, 100]))),
  Ct 68 586 [67]]
def f595x23 : List AOper := [
  Mv 70 4,
  Ct 71 592 [70],
  Mv 69 71,
  Ex 72 69 0,
  Ex 73 69 1,
  Mv 9 72,
  Mv 10 73]
def f595x24 : List AOper := [
  Mv 74 9,
  Ct 75 629 [74],
  Mv 76 10,
  Ct 77 629 [76],
  Op 78 (.build [.int .i64 0, .int .i64 0, .int .i64 0, .int .u32 0, .int .u32 0] [(0, 1), (2, 1), (1, 1)] [(.c (.int .i64 8)), (.t 75), (.t 77)]),
  St 5 2 78]
def f595 : AFunc := ⟨79, 1, false, [.cell 2 (some 5)], (.seq (.region f595x0 false) (.seq (.region f595x1 false) (.seq (.seq (.region f595x2 false) (.block 0 (.seq (.region f595x3 false) (.cond (.t 17) (.seq (.region f595x4 false) .ret) (.seq (.region f595x5 false) (.cond (.t 22) (.seq (.region f595x6 false) .ret) (.seq (.region f595x7 false) (.cond (.t 27) (.seq (.region f595x8 false) .ret) (.seq (.region f595x9 false) (.cond (.t 32) (.seq (.region f595x10 false) .ret) (.seq (.region f595x11 false) (.cond (.t 37) (.seq (.region f595x12 false) (.seq (.region f595x13 false) (.seq (.region f595x14 false) .ret))) (.seq (.seq (.region f595x15 false) (.cond (.t 49) .skip (.region f595x16 false))) (.cond (.t 49) (.seq (.region f595x17 false) (.seq (.region f595x18 false) (.seq (.seq (.region f595x19 false) (.cond (.t 61) (.seq (.region f595x20 false) .ret) .skip)) (.seq (.region f595x21 false) .ret)))) .skip)))))))))))))) (.seq (.region f595x22 false) (.seq (.region f595x23 false) (.seq (.region f595x24 false) .ret))))))⟩
def f597x0 : List AOper := [
  Mc 2 (.str [])]
def f597x1 : List AOper := [
  Mv 6 0,
  Ct 7 339 [6],
  Mv 5 7,
  Ex 8 5 0,
  Ex 9 5 1,
  Mv 3 8,
  Mv 4 9]
def f597x2 : List AOper := [
  Mv 10 4,
  Bc 11 .eql 10 0,
  Mv 12 11,
  Gt 12 (Mv 13 3),
  Gt 12 (Ln 14 0 13),
  Gt 12 (Bc 15 .eql 14 1),
  Pa 16 12 15,
  Ct 17 586 [16]]
def f597x3 : List AOper := [
  Mv 18 0,
  Mv 2 18]
def f597 : AFunc := ⟨19, 1, false, [.t 2], (.seq (.region f597x0 false) (.seq (.region f597x1 false) (.seq (.region f597x2 false) (.seq (.region f597x3 false) .ret))))⟩
def f183x0 : List AOper := [
  Mc 2 (.int .u32 0)]
def f183x1 : List AOper := [
  Mv 3 0,
  Ca 4 186 [(.t 3), (.c (.int .i64 32))],
  Op 5 (.bin .sub (.c (.int .i64 32)) (.t 4)),
  Op 6 (.bin .shl (.c (.int .u32 4294967295)) (.t 5)),
  Mv 2 6]
def f183 : AFunc := ⟨7, 1, false, [.t 2], (.seq (.region f183x0 false) (.seq (.region f183x1 false) .ret))⟩
def f646x0 : List AOper := [
  Op 4 (.alloc (.agg [.int .i64 0, .int .i64 0, .int .i64 0, .con (.slice none 0 0)]))]
def f646x1 : List AOper := [
  Mv 7 0,
  Mv 8 1,
  Ct 9 653 [7, 8],
  Op 5 (.alloc (.agg [.int .i64 0, .int .i64 0, .int .i64 0, .con (.slice none 0 0)])),
  St 4 5 9]
def f646x2 : List AOper := [
  Mc 6 (.int .i64 0)]
def f646x3 : List AOper := [
  Mv 10 0,
  Ct 11 625 [10]]
def f646x4 : List AOper := [
  Op 14 (.bin .eql (.t 11) (.c (.int .u8 42))),
  Mv 13 14]
def f646x5 : List AOper := [
  Mc 6 (.int .i64 5)]
def f646x6 : List AOper := [
  Op 16 (.bin .eql (.t 11) (.c (.int .u8 43))),
  Mv 15 16]
def f646x7 : List AOper := [
  Mc 6 (.int .i64 6)]
def f646x8 : List AOper := [
  Op 18 (.bin .eql (.t 11) (.c (.int .u8 63))),
  Mv 17 18]
def f646x9 : List AOper := [
  Mc 6 (.int .i64 7)]
def f646x10 : List AOper := [
  Ls 12 4 5,
  St 4 4 12]
def f646x11 : List AOper := [
  Mv 19 0,
  Nc 20 19,
  Fa 21 1 20,
  Ld 22 21,
  Bc 23 .add 22 1,
  Nc 24 19,
  Fa 25 1 24,
  St 1 25 23]
def f646x12 : List AOper := [
  Mv 26 6,
  Ls 27 4 5,
  Op 28 (.bsl 4 [.int .i64 0, .int .i64 0, .int .i64 0, .con (.slice none 0 0)] 1 [0] [(.t 27)]),
  Op 29 (.build [.int .i64 0, .int .i64 0, .int .i64 0, .con (.slice none 0 0)] [(0, 1), (3, 1)] [(.t 26), (.t 28)]),
  St 4 4 29]
def f646 : AFunc := ⟨30, 2, false, [.cell 4 (some 4)], (.seq (.region f646x0 false) (.seq (.region f646x1 false) (.seq (.region f646x2 false) (.seq (.seq (.region f646x3 false) (.block 0 (.seq (.region f646x4 false) (.cond (.t 13) (.region f646x5 false) (.seq (.region f646x6 false) (.cond (.t 15) (.region f646x7 false) (.seq (.region f646x8 false) (.cond (.t 17) (.region f646x9 false) (.seq (.region f646x10 false) .ret))))))))) (.seq (.region f646x11 false) (.seq (.region f646x12 false) .ret))))))⟩
def f647x0 : List AOper := [
  Op 3 (.box (.t 0)),
  Mc 6 (.int .i64 0)]
def f647x1 : List AOper := [
  Mv 11 1,
  Bc 12 .gtr 11 16]
def f647x2 : List AOper := [
  Mc 6 (.int .i64 24)]
def f647x3 : List AOper := [
  Mv 13 2,
  Nc 14 13,
  Ld 15 14,
  Bc 16 .geq 15 64]
def f647x4 : List AOper := [
  Mc 6 (.int .i64 4)]
def f647x5 : List AOper := [
  Mv 17 2,
  Nc 18 17,
  Ld 19 18,
  Bc 20 .add 19 1,
  Nc 21 17,
  St 1 21 20]
def f647x6 : List AOper := [
  Ls 22 4 3,
  Ct 23 654 [22],
  Mv 7 23]
def f647x7 : List AOper := [
  Mv 24 7,
  Bc 25 .neq 24 0]
def f647x8 : List AOper := [
  Mv 26 7,
  Mv 6 26]
def f647x9 : List AOper := [
  Fa 27 3 3,
  Ld 28 27,
  Ln 29 0 28,
  Mc 30 (.int .i64 0)]
def f647x10 : List AOper := [
  Bi 31 .lss 30 29]
def f647x11 : List AOper := [
  Ia 32 4 28 30,
  Ls 33 4 32,
  Op 9 (.alloc (.agg [.int .i64 0, .int .i64 0, .int .i64 0, .con (.slice none 0 0)])),
  St 4 9 33]
def f647x12 : List AOper := [
  Ls 34 4 9,
  Mv 35 1,
  Bc 36 .add 35 1,
  Mv 37 2,
  Ct 38 647 [34, 36, 37],
  Mv 10 38]
def f647x13 : List AOper := [
  Mv 39 10,
  Bc 40 .neq 39 0]
def f647x14 : List AOper := [
  Mv 41 10,
  Mv 6 41]
def f647x15 : List AOper := [
  Bc 42 .add 30 1,
  Mv 30 42]
def f647x16L : ACode := (.seq (.region f647x10 false) (.seq (.cond (.t 31) .skip (.exit 0)) (.seq (.block 1 (.seq (.region f647x11 false) (.seq (.region f647x12 false) (.seq (.region f647x13 false) (.cond (.t 40) (.seq (.region f647x14 false) .ret) .skip))))) (.region f647x15 false))))
def f647x17 : List AOper := [
  Mc 6 (.int .i64 0)]
def f647 : AFunc := ⟨43, 3, false, [.t 6], (.seq (.region f647x0 false) (.seq (.seq (.region f647x1 false) (.cond (.t 12) (.seq (.region f647x2 false) .ret) .skip)) (.seq (.seq (.region f647x3 false) (.cond (.t 16) (.seq (.region f647x4 false) .ret) .skip)) (.seq (.region f647x5 false) (.seq (.seq (.region f647x6 false) (.seq (.region f647x7 false) (.cond (.t 25) (.seq (.region f647x8 false) .ret) .skip))) (.seq (.seq (.region f647x9 false) (.block 0 (.loop f647x16L))) (.seq (.region f647x17 false) .ret)))))))⟩
def f648x0 : List AOper := [
  Op 3 (.box (.t 1)),
  Mc 4 (.str [])]
def f648x1 : List AOper := [
  Ls 6 4 3,
  Ct 7 627 [6],
  Mv 5 7]
def f648x2 : List AOper := [
  Mv 8 0,
  Ls 9 4 3,
  Ct 10 655 [8, 9]]
def f648x3 : List AOper := [
  Mv 11 5,
  Op 12 (.bin .add (.c (.str [40])) (.t 11)),
  Op 13 (.bin .add (.t 12) (.c (.str [41]))),
  Mv 4 13]
def f648x4 : List AOper := [
  Mv 14 5,
  Mv 4 14]
def f648 : AFunc := ⟨15, 2, false, [.t 4], (.seq (.region f648x0 false) (.seq (.region f648x1 false) (.seq (.seq (.region f648x2 false) (.cond (.t 10) (.seq (.region f648x3 false) .ret) .skip)) (.seq (.region f648x4 false) .ret))))⟩
def f630x0 : List AOper := [
  Mc 4 (.bool false)]
def f630x1 : List AOper := [
  Mv 7 0,
  Ln 8 0 7,
  Mc 9 (.int .i64 0)]
def f630x2 : List AOper := [
  Bi 10 .lss 9 8]
def f630x3 : List AOper := [
  Ia 11 1 7 9,
  Ld 12 11,
  Mv 6 12]
def f630x4 : List AOper := [
  Mv 13 6,
  Mv 14 1,
  Bi 15 .eql 13 14]
def f630x5 : List AOper := [
  Mc 4 (.bool true)]
def f630x6 : List AOper := [
  Bc 16 .add 9 1,
  Mv 9 16]
def f630x7L : ACode := (.seq (.region f630x2 false) (.seq (.cond (.t 10) .skip (.exit 0)) (.seq (.block 1 (.seq (.region f630x3 false) (.seq (.region f630x4 false) (.cond (.t 15) (.seq (.region f630x5 false) .ret) .skip)))) (.region f630x6 false))))
def f630x8 : List AOper := [
  Mc 4 (.bool false)]
def f630 : AFunc := ⟨17, 2, false, [.t 4], (.seq (.region f630x0 false) (.seq (.seq (.region f630x1 false) (.block 0 (.loop f630x7L))) (.seq (.region f630x8 false) .ret)))⟩
def f628x0 : List AOper := [
  Op 0 (.alloc (.agg [.int .u32 0, .int .u32 0, .int .u32 0, .int .u32 0])),
  Op 1 (.alloc (.agg [.str [], .str [], .str [], .str []]))]
def f628x1 : List AOper := [
  Op 2 (.build [.int .u32 0, .int .u32 0, .int .u32 0, .int .u32 0] [(0, 1), (1, 1), (2, 1), (3, 1)] [(.c (.int .u32 4294901760)), (.c (.int .u32 4294967041)), (.c (.int .u32 4294967042)), (.c (.int .u32 4294967043))]),
  Op 3 (.build [.str [], .str [], .str [], .str []] [(0, 1), (1, 1), (2, 1), (3, 1)] [(.c (.str [103, 114, 97, 99, 101, 102, 117, 108, 45, 115, 104, 117, 116, 100, 111, 119, 110])), (.c (.str [110, 111, 45, 101, 120, 112, 111, 114, 116])), (.c (.str [110, 111, 45, 97, 100, 118, 101, 114, 116, 105, 115, 101])), (.c (.str [110, 111, 45, 101, 120, 112, 111, 114, 116, 45, 99, 111, 110, 102, 101, 100]))]),
  St 4 0 2,
  St 4 1 3]
def f628 : AFunc := ⟨4, 0, false, [.cell 0 (some 4), .cell 1 (some 4)], (.seq (.region f628x0 false) (.seq (.region f628x1 false) .ret))⟩
def f339x0 : List AOper := [
  Mc 2 (.con (.slice none 0 0)),
  Mc 3 (.int .i64 0)]
def f339x1 : List AOper := [
  Mv 7 0,
  Op 8 (.bin .eql (.t 7) (.c (.str [])))]
def f339x2 : List AOper := [
  Mc 2 (.con (.slice none 0 0)),
  Mc 3 (.int .i64 0)]
def f339x3 : List AOper := [
  Mv 9 0,
  Ca 10 345 [(.t 9), (.c (.str [10]))]]
def f339x4 : List AOper := [
  Mc 2 (.con (.slice none 0 0)),
  Mc 3 (.int .i64 2)]
def f339x5 : List AOper := [
  Mv 11 0,
  Ca 12 249 [(.t 11), (.c (.str [32]))],
  Mv 4 12]
def f339x6 : List AOper := [
  Mv 13 4,
  Ln 14 0 13,
  Mc 15 (.int .i64 0)]
def f339x7 : List AOper := [
  Bi 16 .lss 15 14]
def f339x8 : List AOper := [
  Ia 17 1 13 15,
  Ld 18 17,
  Mv 6 18]
def f339x9 : List AOper := [
  Mv 19 6,
  Op 20 (.bin .eql (.t 19) (.c (.str [])))]
def f339x10 : List AOper := [
  Mc 2 (.con (.slice none 0 0)),
  Mc 3 (.int .i64 2)]
def f339x11 : List AOper := [
  Bc 21 .add 15 1,
  Mv 15 21]
def f339x12L : ACode := (.seq (.region f339x7 false) (.seq (.cond (.t 16) .skip (.exit 0)) (.seq (.block 1 (.seq (.region f339x8 false) (.seq (.region f339x9 false) (.cond (.t 20) (.seq (.region f339x10 false) .ret) .skip)))) (.region f339x11 false))))
def f339x13 : List AOper := [
  Mv 22 4,
  Mv 2 22,
  Mc 3 (.int .i64 0)]
def f339 : AFunc := ⟨23, 1, false, [.t 2, .t 3], (.seq (.region f339x0 false) (.seq (.seq (.region f339x1 false) (.cond (.t 8) (.seq (.region f339x2 false) .ret) .skip)) (.seq (.seq (.region f339x3 false) (.cond (.t 10) (.seq (.region f339x4 false) .ret) .skip)) (.seq (.region f339x5 false) (.seq (.seq (.region f339x6 false) (.block 0 (.loop f339x12L))) (.seq (.region f339x13 false) .ret))))))⟩
def f233x0 : List AOper := [
  Op 2 (.alloc (.agg [.int .u32 0, .int .i64 0])),
  Mc 3 (.int .i64 0)]
def f233x1 : List AOper := [
  Mv 13 0,
  Ca 14 252 [(.t 13), (.c (.str [47]))],
  Mv 12 14,
  Ex 15 12 0,
  Ex 16 12 1,
  Ex 17 12 2,
  Mv 4 15,
  Mv 5 16,
  Mv 6 17]
def f233x2 : List AOper := [
  Mv 19 4,
  Ct 20 231 [19],
  Mv 18 20,
  Ex 21 18 0,
  Ex 22 18 1,
  Mv 7 21,
  Mv 8 22]
def f233x3 : List AOper := [
  Mv 24 5,
  Ca 25 250 [(.t 24), (.c (.int .i64 32))],
  Mv 23 25,
  Ex 26 23 0,
  Ex 27 23 1,
  Mv 9 26,
  Mv 10 27]
def f233x4 : List AOper := [
  Mv 28 6,
  Un 29 .not 28,
  Mv 30 29,
  Gf 30 (Mv 31 8),
  Gf 30 (Bc 32 .neq 31 0),
  Po 33 30 32,
  Mv 34 33,
  Gf 34 (Mv 35 10),
  Gf 34 (Un 36 .not 35),
  Po 37 34 36]
def f233x5 : List AOper := [
  Op 38 (.build [.int .u32 0, .int .i64 0] [] []),
  St 2 2 38,
  Mc 3 (.int .i64 2)]
def f233x6 : List AOper := [
  Mv 39 7,
  Mv 40 9,
  Op 41 (.build [.int .u32 0, .int .i64 0] [(0, 1), (1, 1)] [(.t 39), (.t 40)]),
  Op 11 (.alloc (.agg [.int .u32 0, .int .i64 0])),
  St 2 11 41]
def f233x7 : List AOper := [
  Ls 42 2 11,
  Ct 43 178 [42],
  Un 44 .not 43]
def f233x8 : List AOper := [
  Op 45 (.build [.int .u32 0, .int .i64 0] [] []),
  St 2 2 45,
  Mc 3 (.int .i64 1)]
def f233x9 : List AOper := [
  Ls 46 2 11,
  St 2 2 46,
  Mc 3 (.int .i64 0)]
def f233 : AFunc := ⟨47, 1, false, [.cell 2 (some 2), .t 3], (.seq (.region f233x0 false) (.seq (.region f233x1 false) (.seq (.region f233x2 false) (.seq (.region f233x3 false) (.seq (.seq (.region f233x4 false) (.cond (.t 37) (.seq (.region f233x5 false) .ret) .skip)) (.seq (.region f233x6 false) (.seq (.seq (.region f233x7 false) (.cond (.t 44) (.seq (.region f233x8 false) .ret) .skip)) (.seq (.region f233x9 false) .ret))))))))⟩
def f340x0 : List AOper := [
  Mc 2 (.int .i64 0),
  Mc 3 (.int .i64 0),
  Mc 4 (.bool false)]
def f340x1 : List AOper := [
  Mv 10 0,
  Ln 11 1 10,
  Mc 12 (.int .i64 0)]
def f340x2 : List AOper := [
  Bi 13 .lss 12 11]
def f340x3 : List AOper := [
  Mv 14 12,
  Mv 5 14]
def f340x4 : List AOper := [
  Mv 15 0,
  Mv 16 5,
  Op 17 (.istr (.t 15) (.t 16)),
  Op 18 (.bin .eql (.t 17) (.c (.int .u8 45)))]
def f340x5 : List AOper := [
  Mv 20 0,
  Mv 21 5,
  Op 22 (.slstr (.t 20) none (some (.t 21))),
  Ca 23 346 [(.t 22), (.c (.int .i64 32))],
  Mv 19 23,
  Ex 24 19 0,
  Ex 25 19 1,
  Mv 6 24,
  Mv 7 25]
def f340x6 : List AOper := [
  Mv 27 0,
  Mv 28 5,
  Bc 29 .add 28 1,
  Op 30 (.slstr (.t 27) (some (.t 29)) none),
  Ca 31 346 [(.t 30), (.c (.int .i64 32))],
  Mv 26 31,
  Ex 32 26 0,
  Ex 33 26 1,
  Mv 8 32,
  Mv 9 33]
def f340x7 : List AOper := [
  Mv 34 6,
  Mv 35 8,
  Mv 36 7,
  Bc 37 .eql 36 0,
  Mv 38 37,
  Gt 38 (Mv 39 9),
  Gt 38 (Bc 40 .eql 39 0),
  Pa 41 38 40,
  Mv 2 34,
  Mv 3 35,
  Mv 4 41]
def f340x8 : List AOper := [
  Bc 42 .add 12 1,
  Mv 12 42]
def f340x9L : ACode := (.seq (.region f340x2 false) (.seq (.cond (.t 13) .skip (.exit 0)) (.seq (.block 1 (.seq (.region f340x3 false) (.seq (.region f340x4 false) (.cond (.t 18) (.seq (.region f340x5 false) (.seq (.region f340x6 false) (.seq (.region f340x7 false) .ret))) .skip)))) (.region f340x8 false))))
def f340x10 : List AOper := [
  Mc 2 (.int .i64 0),
  Mc 3 (.int .i64 0),
  Mc 4 (.bool false)]
def f340 : AFunc := ⟨43, 1, false, [.t 2, .t 3, .t 4], (.seq (.region f340x0 false) (.seq (.seq (.region f340x1 false) (.block 0 (.loop f340x9L))) (.seq (.region f340x10 false) .ret)))⟩
def f629x0 : List AOper := [
  Mc 2 (.int .i64 0)]
def f629x1 : List AOper := [
  Mv 6 0,
  Ca 7 346 [(.t 6), (.c (.int .i64 4294967295))],
  Mv 5 7,
  Ex 8 5 0,
  Ex 9 5 1,
  Mv 3 8,
  Mv 4 9]
def f629x2 : List AOper := [
  Mv 10 4,
  Bc 11 .eql 10 0,
  Ct 12 586 [11]]
def f629x3 : List AOper := [
  Mv 13 3,
  Mv 2 13]
def f629 : AFunc := ⟨14, 1, false, [.t 2], (.seq (.region f629x0 false) (.seq (.region f629x1 false) (.seq (.region f629x2 false) (.seq (.region f629x3 false) .ret))))⟩
def f231x0 : List AOper := [
  Mc 2 (.int .u32 0),
  Mc 3 (.int .i64 0)]
def f231x1 : List AOper := [
  Mv 10 0,
  Ca 11 249 [(.t 10), (.c (.str [46]))],
  Mv 4 11]
def f231x2 : List AOper := [
  Mv 12 4,
  Ln 13 0 12,
  Bc 14 .neq 13 4]
def f231x3 : List AOper := [
  Mc 2 (.int .u32 0),
  Mc 3 (.int .i64 2)]
def f231x4 : List AOper := [
  Mc 5 (.int .u32 0)]
def f231x5 : List AOper := [
  Mv 15 4,
  Ln 16 0 15,
  Mc 17 (.int .i64 0)]
def f231x6 : List AOper := [
  Bi 18 .lss 17 16]
def f231x7 : List AOper := [
  Ia 19 1 15 17,
  Ld 20 19,
  Mv 7 20]
def f231x8 : List AOper := [
  Mv 22 7,
  Ca 23 250 [(.t 22), (.c (.int .i64 255))],
  Mv 21 23,
  Ex 24 21 0,
  Ex 25 21 1,
  Mv 8 24,
  Mv 9 25]
def f231x9 : List AOper := [
  Mv 26 9,
  Un 27 .not 26]
def f231x10 : List AOper := [
  Mc 2 (.int .u32 0),
  Mc 3 (.int .i64 2)]
def f231x11 : List AOper := [
  Mv 28 5,
  Op 29 (.bin .shl (.t 28) (.c (.int .u64 8))),
  Mv 30 8,
  Cv 31 .u32 30,
  Bi 32 .or 29 31,
  Mv 5 32]
def f231x12 : List AOper := [
  Bc 33 .add 17 1,
  Mv 17 33]
def f231x13L : ACode := (.seq (.region f231x6 false) (.seq (.cond (.t 18) .skip (.exit 0)) (.seq (.block 1 (.seq (.region f231x7 false) (.seq (.region f231x8 false) (.seq (.seq (.region f231x9 false) (.cond (.t 27) (.seq (.region f231x10 false) .ret) .skip)) (.region f231x11 false))))) (.region f231x12 false))))
def f231x14 : List AOper := [
  Mv 34 5,
  Mv 2 34,
  Mc 3 (.int .i64 0)]
def f231 : AFunc := ⟨35, 1, false, [.t 2, .t 3], (.seq (.region f231x0 false) (.seq (.region f231x1 false) (.seq (.seq (.region f231x2 false) (.cond (.t 14) (.seq (.region f231x3 false) .ret) .skip)) (.seq (.region f231x4 false) (.seq (.seq (.region f231x5 false) (.block 0 (.loop f231x13L))) (.seq (.region f231x14 false) .ret))))))⟩
def f631x0 : List AOper := [
  Mc 2 (.int .u32 0),
  Mc 3 (.int .i64 0)]
def f631x1 : List AOper := [
  Ct 15 628 [],
  Mv 14 15,
  Ex 16 14 0,
  Ex 17 14 1,
  Op 4 (.alloc (.agg [.int .u32 0, .int .u32 0, .int .u32 0, .int .u32 0])),
  Op 5 (.alloc (.agg [.str [], .str [], .str [], .str []])),
  St 4 4 16,
  St 4 5 17]
def f631x2 : List AOper := [
  Ls 18 4 5,
  Mc 19 (.int .i64 0)]
def f631x3 : List AOper := [
  Bc 20 .lss 19 4]
def f631x4 : List AOper := [
  Mv 21 19,
  Op 22 (.ival 4 1 none (.t 18) (.t 19)),
  Mv 6 21,
  Mv 7 22]
def f631x5 : List AOper := [
  Mv 23 0,
  Mv 24 7,
  Bi 25 .eql 23 24]
def f631x6 : List AOper := [
  Mv 26 6,
  Op 27 (.iarr 4 1 (.t 4) (.t 26)),
  Ld 28 27,
  Mv 2 28,
  Mc 3 (.int .i64 0)]
def f631x7 : List AOper := [
  Bc 29 .add 19 1,
  Mv 19 29]
def f631x8L : ACode := (.seq (.region f631x3 false) (.seq (.cond (.t 20) .skip (.exit 0)) (.seq (.block 1 (.seq (.region f631x4 false) (.seq (.region f631x5 false) (.cond (.t 25) (.seq (.region f631x6 false) .ret) .skip)))) (.region f631x7 false))))
def f631x9 : List AOper := [
  Mv 30 0,
  Ln 31 1 30,
  Mc 32 (.int .i64 0)]
def f631x10 : List AOper := [
  Bi 33 .lss 32 31]
def f631x11 : List AOper := [
  Mv 34 32,
  Mv 8 34]
def f631x12 : List AOper := [
  Mv 35 0,
  Mv 36 8,
  Op 37 (.istr (.t 35) (.t 36)),
  Op 38 (.bin .neq (.t 37) (.c (.int .u8 58)))]
def f631x13 : List AOper := [
  Mv 40 0,
  Mv 41 8,
  Op 42 (.slstr (.t 40) none (some (.t 41))),
  Ca 43 346 [(.t 42), (.c (.int .i64 65535))],
  Mv 39 43,
  Ex 44 39 0,
  Ex 45 39 1,
  Mv 9 44,
  Mv 10 45]
def f631x14 : List AOper := [
  Mv 47 0,
  Mv 48 8,
  Bc 49 .add 48 1,
  Op 50 (.slstr (.t 47) (some (.t 49)) none),
  Ca 51 346 [(.t 50), (.c (.int .i64 65535))],
  Mv 46 51,
  Ex 52 46 0,
  Ex 53 46 1,
  Mv 11 52,
  Mv 12 53]
def f631x15 : List AOper := [
  Mv 54 9,
  Cv 55 .u32 54,
  Op 56 (.bin .shl (.t 55) (.c (.int .u64 16))),
  Mv 57 11,
  Cv 58 .u32 57,
  Bi 59 .or 56 58,
  Mv 13 59]
def f631x16 : List AOper := [
  Mv 60 10,
  Bc 61 .neq 60 0,
  Mv 62 61,
  Gf 62 (Mv 63 12),
  Gf 62 (Bc 64 .neq 63 0),
  Po 65 62 64,
  Mv 66 65,
  Gf 66 (Mv 67 13),
  Gf 66 (Ct 68 583 [67]),
  Gf 66 (Mv 69 0),
  Gf 66 (Bi 70 .neq 68 69),
  Po 71 66 70]
def f631x17 : List AOper := [
  Mc 2 (.int .u32 0),
  Mc 3 (.int .i64 2)]
def f631x18 : List AOper := [
  Mv 72 13,
  Mv 2 72,
  Mc 3 (.int .i64 0)]
def f631x19 : List AOper := [
  Bc 73 .add 32 1,
  Mv 32 73]
def f631x20L : ACode := (.seq (.region f631x10 false) (.seq (.cond (.t 33) .skip (.exit 2)) (.seq (.block 3 (.seq (.region f631x11 false) (.seq (.seq (.region f631x12 false) (.cond (.t 38) (.exit 3) .skip)) (.seq (.region f631x13 false) (.seq (.region f631x14 false) (.seq (.region f631x15 false) (.seq (.seq (.region f631x16 false) (.cond (.t 71) (.seq (.region f631x17 false) .ret) .skip)) (.seq (.region f631x18 false) .ret)))))))) (.region f631x19 false))))
def f631x21 : List AOper := [
  Mc 2 (.int .u32 0),
  Mc 3 (.int .i64 2)]
def f631 : AFunc := ⟨74, 1, false, [.t 2, .t 3], (.seq (.region f631x0 false) (.seq (.region f631x1 false) (.seq (.seq (.region f631x2 false) (.block 0 (.loop f631x8L))) (.seq (.seq (.region f631x9 false) (.block 2 (.loop f631x20L))) (.seq (.region f631x21 false) .ret)))))⟩
def f186x0 : List AOper := [
  Mc 4 (.int .i64 0)]
def f186x1 : List AOper := [
  Mv 5 0,
  Op 6 (.minmax true [(.t 5), (.c (.int .i64 0))]),
  Mv 7 1,
  Op 8 (.minmax false [(.t 6), (.t 7)]),
  Mv 4 8]
def f186 : AFunc := ⟨9, 2, false, [.t 4], (.seq (.region f186x0 false) (.seq (.region f186x1 false) .ret))⟩
def f653x0 : List AOper := [
  Op 4 (.alloc (.agg [.int .i64 0, .int .i64 0, .int .i64 0, .con (.slice none 0 0)]))]
def f653x1 : List AOper := [
  Mv 9 0,
  Ct 10 625 [9]]
def f653x2 : List AOper := [
  Op 12 (.bin .eql (.t 10) (.c (.int .u8 46))),
  Mv 11 12]
def f653x3 : List AOper := [
  Mv 13 0,
  Nc 14 13,
  Fa 15 1 14,
  Ld 16 15,
  Bc 17 .add 16 1,
  Nc 18 13,
  Fa 19 1 18,
  St 1 19 17]
def f653x4 : List AOper := [
  Op 20 (.build [.int .i64 0, .int .i64 0, .int .i64 0, .con (.slice none 0 0)] [(0, 1)] [(.c (.int .i64 2))]),
  St 4 4 20]
def f653x5 : List AOper := [
  Op 22 (.bin .eql (.t 10) (.c (.int .u8 33))),
  Mv 21 22]
def f653x6 : List AOper := [
  Mv 23 0,
  Nc 24 23,
  Fa 25 1 24,
  Ld 26 25,
  Bc 27 .add 26 1,
  Nc 28 23,
  Fa 29 1 28,
  St 1 29 27]
def f653x7 : List AOper := [
  Op 30 (.build [.int .i64 0, .int .i64 0, .int .i64 0, .con (.slice none 0 0)] [(0, 1)] [(.c (.int .i64 4))]),
  St 4 4 30]
def f653x8 : List AOper := [
  Op 32 (.bin .eql (.t 10) (.c (.int .u8 91))),
  Mv 31 32]
def f653x9 : List AOper := [
  Mv 33 0,
  Nc 34 33,
  Fa 35 1 34,
  Ld 36 35,
  Bc 37 .add 36 1,
  Nc 38 33,
  Fa 39 1 38,
  St 1 39 37]
def f653x10 : List AOper := [
  Mv 40 0,
  Ct 41 657 [40],
  Mv 5 41]
def f653x11 : List AOper := [
  Mv 42 0,
  Ca 43 658 [(.t 42), (.c (.int .u8 45))]]
def f653x12 : List AOper := [
  Mv 44 0,
  Ct 45 657 [44],
  Mv 6 45]
def f653x13 : List AOper := [
  Mv 46 0,
  Ca 47 658 [(.t 46), (.c (.int .u8 93))]]
def f653x14 : List AOper := [
  Mv 48 5,
  Mv 49 6,
  Op 50 (.build [.int .i64 0, .int .i64 0, .int .i64 0, .con (.slice none 0 0)] [(0, 1), (1, 1), (2, 1)] [(.c (.int .i64 1)), (.t 48), (.t 49)]),
  St 4 4 50]
def f653x15 : List AOper := [
  Op 52 (.bin .eql (.t 10) (.c (.int .u8 40))),
  Mv 51 52]
def f653x16 : List AOper := [
  Mv 53 0,
  Nc 54 53,
  Fa 55 1 54,
  Ld 56 55,
  Bc 57 .add 56 1,
  Nc 58 53,
  Fa 59 1 58,
  St 1 59 57]
def f653x17 : List AOper := [
  Mv 60 0,
  Ct 61 625 [60],
  Op 62 (.bin .eql (.t 61) (.c (.int .u8 41)))]
def f653x18 : List AOper := [
  Mv 63 0,
  Nc 64 63,
  Fa 65 1 64,
  Ld 66 65,
  Bc 67 .add 66 1,
  Nc 68 63,
  Fa 69 1 68,
  St 1 69 67]
def f653x19 : List AOper := [
  Op 70 (.build [.int .i64 0, .int .i64 0, .int .i64 0, .con (.slice none 0 0)] [] []),
  St 4 4 70]
def f653x20 : List AOper := [
  Mv 71 0,
  Mv 72 1,
  Bc 73 .add 72 1,
  Ct 74 579 [71, 73],
  Op 7 (.alloc (.agg [.int .i64 0, .int .i64 0, .int .i64 0, .con (.slice none 0 0)])),
  St 4 7 74]
def f653x21 : List AOper := [
  Mv 75 0,
  Ca 76 658 [(.t 75), (.c (.int .u8 41))]]
def f653x22 : List AOper := [
  Ls 77 4 7,
  St 4 4 77]
def f653x23 : List AOper := [
  Mv 78 0,
  Ct 79 657 [78],
  Mv 8 79]
def f653x24 : List AOper := [
  Mv 80 8,
  Mv 81 8,
  Op 82 (.build [.int .i64 0, .int .i64 0, .int .i64 0, .con (.slice none 0 0)] [(0, 1), (1, 1), (2, 1)] [(.c (.int .i64 1)), (.t 80), (.t 81)]),
  St 4 4 82]
def f653 : AFunc := ⟨83, 2, false, [.cell 4 (some 4)], (.seq (.region f653x0 false) (.seq (.seq (.region f653x1 false) (.block 0 (.seq (.region f653x2 false) (.cond (.t 11) (.seq (.region f653x3 false) (.seq (.region f653x4 false) .ret)) (.seq (.region f653x5 false) (.cond (.t 21) (.seq (.region f653x6 false) (.seq (.region f653x7 false) .ret)) (.seq (.region f653x8 false) (.cond (.t 31) (.seq (.region f653x9 false) (.seq (.region f653x10 false) (.seq (.region f653x11 false) (.seq (.region f653x12 false) (.seq (.region f653x13 false) (.seq (.region f653x14 false) .ret)))))) (.seq (.region f653x15 false) (.cond (.t 51) (.seq (.region f653x16 false) (.seq (.seq (.region f653x17 false) (.cond (.t 62) (.seq (.region f653x18 false) (.seq (.region f653x19 false) .ret)) .skip)) (.seq (.region f653x20 false) (.seq (.region f653x21 false) (.seq (.region f653x22 false) .ret))))) .skip)))))))))) (.seq (.region f653x23 false) (.seq (.region f653x24 false) .ret))))⟩
def f654x0 : List AOper := [
  Op 1 (.box (.t 0)),
  Mc 2 (.int .i64 0)]
def f654x1 : List AOper := [
  Fa 6 0 1,
  Ld 7 6,
  Fa 8 3 1,
  Ld 9 8,
  Ln 10 0 9,
  Ct 11 659 [7, 10],
  Mv 5 11,
  Ex 12 5 0,
  Ex 13 5 1,
  Mv 3 12,
  Mv 4 13]
def f654x2 : List AOper := [
  Mv 15 3,
  Un 16 .not 15,
  Mv 14 16]
def f654x3 : List AOper := [
  Mc 2 (.int .i64 15)]
def f654x4 : List AOper := [
  Fa 18 0 1,
  Ld 19 18,
  Bc 20 .eql 19 1,
  Mv 21 20,
  Gt 21 (Fa 22 1 1),
  Gt 21 (Ld 23 22),
  Gt 21 (Bc 24 .lss 23 0),
  Gt 21 (Mv 25 24),
  Gf 25 (Fa 26 1 1),
  Gf 25 (Ld 27 26),
  Gf 25 (Fa 28 2 1),
  Gf 25 (Ld 29 28),
  Gf 25 (Bi 30 .gtr 27 29),
  Gt 21 (Po 31 25 30),
  Gt 21 (Mv 32 31),
  Gf 32 (Fa 33 2 1),
  Gf 32 (Ld 34 33),
  Gf 32 (Bc 35 .gtr 34 4294967295),
  Gt 21 (Po 36 32 35),
  Pa 37 21 36,
  Mv 17 37]
def f654x5 : List AOper := [
  Mc 2 (.int .i64 5)]
def f654x6 : List AOper := [
  Fa 39 0 1,
  Ld 40 39,
  Bc 41 .neq 40 1,
  Mv 42 41,
  Gt 42 (Fa 43 1 1),
  Gt 42 (Ld 44 43),
  Gt 42 (Bc 45 .neq 44 0),
  Gt 42 (Mv 46 45),
  Gf 46 (Fa 47 2 1),
  Gf 46 (Ld 48 47),
  Gf 46 (Bc 49 .neq 48 0),
  Gt 42 (Po 50 46 49),
  Pa 51 42 50,
  Mv 38 51]
def f654x7 : List AOper := [
  Mv 52 4,
  Un 53 .not 52,
  Mv 38 53]
def f654x8 : List AOper := [
  Mc 2 (.int .i64 1)]
def f654x9 : List AOper := [
  Mc 2 (.int .i64 0)]
def f654 : AFunc := ⟨54, 1, false, [.t 2], (.seq (.region f654x0 false) (.seq (.region f654x1 false) (.seq (.block 0 (.seq (.region f654x2 false) (.cond (.t 14) (.seq (.region f654x3 false) .ret) (.seq (.region f654x4 false) (.cond (.t 17) (.seq (.region f654x5 false) .ret) (.seq (.seq (.region f654x6 false) (.cond (.t 38) .skip (.region f654x7 false))) (.cond (.t 38) (.seq (.region f654x8 false) .ret) .skip))))))) (.seq (.region f654x9 false) .ret))))⟩
def f655x0 : List AOper := [
  Op 3 (.box (.t 1)),
  Mc 4 (.bool false)]
def f655x1 : List AOper := [
  Fa 6 0 3,
  Ld 7 6,
  Bc 8 .eql 7 4,
  Mv 5 8]
def f655x2 : List AOper := [
  Fa 9 3 3,
  Ld 10 9,
  Ln 11 0 10,
  Bc 12 .gtr 11 0,
  Mv 4 12]
def f655x3 : List AOper := [
  Fa 14 0 3,
  Ld 15 14,
  Bc 16 .eql 15 3,
  Mv 13 16]
def f655x4 : List AOper := [
  Mv 17 0,
  Bc 18 .neq 17 4,
  Mv 4 18]
def f655x5 : List AOper := [
  Fa 19 0 3,
  Ld 20 19,
  Ct 21 660 [20],
  Mv 22 21,
  Gt 22 (Mv 23 0),
  Gt 22 (Ct 24 660 [23]),
  Pa 25 22 24,
  Mv 4 25]
def f655 : AFunc := ⟨26, 2, false, [.t 4], (.seq (.region f655x0 false) (.seq (.block 0 (.seq (.region f655x1 false) (.cond (.t 5) (.seq (.region f655x2 false) .ret) (.seq (.region f655x3 false) (.cond (.t 13) (.seq (.region f655x4 false) .ret) .skip))))) (.seq (.region f655x5 false) .ret)))⟩
def f250x0 : List AOper := [
  Mc 4 (.int .i64 0),
  Mc 5 (.bool false)]
def f250x1 : List AOper := [
  Mv 9 0,
  Ct 10 263 [9],
  Mv 8 10,
  Ex 11 8 0,
  Ex 12 8 1,
  Mv 6 11,
  Mv 7 12]
def f250x2 : List AOper := [
  Mv 13 6,
  Mv 14 7,
  Op 15 (.eqn .iface false (.t 14) (.c (.con (.nilIface)))),
  Mv 16 15,
  Gt 16 (Mv 17 6),
  Gt 16 (Bc 18 .geq 17 0),
  Pa 19 16 18,
  Mv 20 19,
  Gt 20 (Mv 21 6),
  Gt 20 (Mv 22 1),
  Gt 20 (Bi 23 .leq 21 22),
  Pa 24 20 23,
  Mv 25 24,
  Gt 25 (Mv 26 6),
  Gt 25 (Ct 27 246 [26]),
  Gt 25 (Mv 28 0),
  Gt 25 (Bi 29 .eql 27 28),
  Pa 30 25 29,
  Mv 4 13,
  Mv 5 30]
def f250 : AFunc := ⟨31, 2, false, [.t 4, .t 5], (.seq (.region f250x0 false) (.seq (.region f250x1 false) (.seq (.region f250x2 false) .ret)))⟩
def f346x0 : List AOper := [
  Mc 4 (.int .i64 0),
  Mc 5 (.int .i64 0)]
def f346x1 : List AOper := [
  Mv 9 0,
  Ct 10 347 [9],
  Un 11 .not 10]
def f346x2 : List AOper := [
  Mc 4 (.int .i64 0),
  Mc 5 (.int .i64 2)]
def f346x3 : List AOper := [
  Mc 6 (.int .i64 0)]
def f346x4 : List AOper := [
  Mv 12 0,
  Ln 13 1 12,
  Mc 14 (.int .i64 0)]
def f346x5 : List AOper := [
  Bi 15 .lss 14 13]
def f346x6 : List AOper := [
  Mv 16 14,
  Mv 7 16]
def f346x7 : List AOper := [
  Mv 17 0,
  Mv 18 7,
  Op 19 (.istr (.t 17) (.t 18)),
  Op 20 (.bin .sub (.t 19) (.c (.int .u8 48))),
  Cv 21 .i64 20,
  Mv 8 21]
def f346x8 : List AOper := [
  Mv 22 6,
  Mv 23 8,
  Op 24 (.bin .sub (.c (.int .i64 9223372036854775807)) (.t 23)),
  Bc 25 .quo 24 10,
  Bi 26 .gtr 22 25]
def f346x9 : List AOper := [
  Mc 4 (.int .i64 0),
  Mc 5 (.int .i64 5)]
def f346x10 : List AOper := [
  Mv 27 6,
  Op 28 (.bin .mul (.c (.int .i64 10)) (.t 27)),
  Mv 29 8,
  Bi 30 .add 28 29,
  Mv 6 30]
def f346x11 : List AOper := [
  Bc 31 .add 14 1,
  Mv 14 31]
def f346x12L : ACode := (.seq (.region f346x5 false) (.seq (.cond (.t 15) .skip (.exit 0)) (.seq (.block 1 (.seq (.region f346x6 false) (.seq (.region f346x7 false) (.seq (.seq (.region f346x8 false) (.cond (.t 26) (.seq (.region f346x9 false) .ret) .skip)) (.region f346x10 false))))) (.region f346x11 false))))
def f346x13 : List AOper := [
  Mv 32 6,
  Mv 33 1,
  Bi 34 .gtr 32 33]
def f346x14 : List AOper := [
  Mc 4 (.int .i64 0),
  Mc 5 (.int .i64 5)]
def f346x15 : List AOper := [
  Mv 35 6,
  Mv 4 35,
  Mc 5 (.int .i64 0)]
def f346 : AFunc := ⟨36, 2, false, [.t 4, .t 5], (.seq (.region f346x0 false) (.seq (.seq (.region f346x1 false) (.cond (.t 11) (.seq (.region f346x2 false) .ret) .skip)) (.seq (.region f346x3 false) (.seq (.seq (.region f346x4 false) (.block 0 (.loop f346x12L))) (.seq (.seq (.region f346x13 false) (.cond (.t 34) (.seq (.region f346x14 false) .ret) .skip)) (.seq (.region f346x15 false) .ret))))))⟩
def f657x0 : List AOper := [
  Mc 2 (.int .i64 0)]
def f657x1 : List AOper := [
  Mv 6 0,
  Nc 7 6,
  Fa 8 1 7,
  Ld 9 8,
  Mv 3 9]
def f657x2 : List AOper := [
  Mv 10 0,
  Ct 11 625 [10],
  Op 12 (.bin .geq (.t 11) (.c (.int .u8 48))),
  Mv 13 12,
  Gt 13 (Mv 14 0),
  Gt 13 (Ct 15 625 [14]),
  Gt 13 (Op 16 (.bin .leq (.t 15) (.c (.int .u8 57)))),
  Pa 17 13 16]
def f657x3 : List AOper := [
  Mv 18 0,
  Nc 19 18,
  Fa 20 1 19,
  Ld 21 20,
  Bc 22 .add 21 1,
  Nc 23 18,
  Fa 24 1 23,
  St 1 24 22]
def f657x4L : ACode := (.seq (.seq (.region f657x2 false) (.cond (.t 17) .skip (.exit 0))) (.block 1 (.region f657x3 false)))
def f657x5 : List AOper := [
  Mv 26 0,
  Nc 27 26,
  Fa 28 0 27,
  Ld 29 28,
  Mv 30 3,
  Mv 31 0,
  Nc 32 31,
  Fa 33 1 32,
  Ld 34 33,
  Op 35 (.slstr (.t 29) (some (.t 30)) (some (.t 34))),
  Af [3, 8] (Ca 36 346 [(.t 35), (.c (.int .i64 4294967295))]),
  Mv 25 36,
  Ex 37 25 0,
  Ex 38 25 1,
  Mv 4 37,
  Mv 5 38]
def f657x6 : List AOper := [
  Mv 39 5,
  Bc 40 .neq 39 0]
def f657x7 : List AOper := [
  Op 41 (.build [] [] []),
  Op 42 (.mkifc 129 (.t 41)),
  ⟨none, .panic (.t 42), none, []⟩]
def f657x8 : List AOper := [
  Mv 43 4,
  Mv 2 43]
def f657 : AFunc := ⟨44, 1, false, [.t 2], (.seq (.region f657x0 false) (.seq (.region f657x1 false) (.seq (.block 0 (.loop f657x4L)) (.seq (.region f657x5 true) (.seq (.seq (.region f657x6 false) (.cond (.t 40) (.region f657x7 false) .skip)) (.seq (.region f657x8 false) .ret))))))⟩
def f658x0 : List AOper := [
  Mv 4 0,
  Ct 5 625 [4],
  Mv 6 1,
  Bi 7 .neq 5 6]
def f658x1 : List AOper := [
  Op 8 (.build [] [] []),
  Op 9 (.mkifc 129 (.t 8)),
  ⟨none, .panic (.t 9), none, []⟩]
def f658x2 : List AOper := [
  Mv 10 0,
  Nc 11 10,
  Fa 12 1 11,
  Ld 13 12,
  Bc 14 .add 13 1,
  Nc 15 10,
  Fa 16 1 15,
  St 1 16 14]
def f658 : AFunc := ⟨17, 2, false, [], (.seq (.seq (.region f658x0 false) (.cond (.t 7) (.region f658x1 false) .skip)) (.region f658x2 false))⟩
def f659x0 : List AOper := [
  Mc 4 (.bool false),
  Mc 5 (.bool false)]
def f659x1 : List AOper := [
  Mv 6 0]
def f659x2 : List AOper := [
  Bc 8 .eql 6 0,
  Mv 7 8]
def f659x3 : List AOper := [
  Bc 9 .eql 6 1,
  Mv 7 9]
def f659x4 : List AOper := [
  Bc 10 .eql 6 2,
  Mv 7 10]
def f659x5 : List AOper := [
  Mv 11 1,
  Bc 12 .eql 11 0,
  Mc 4 (.bool true),
  Mv 5 12]
def f659x6 : List AOper := [
  Bc 14 .eql 6 3,
  Mv 13 14]
def f659x7 : List AOper := [
  Mv 15 1,
  Bc 16 .geq 15 2,
  Mc 4 (.bool true),
  Mv 5 16]
def f659x8 : List AOper := [
  Bc 18 .eql 6 4,
  Mv 17 18]
def f659x9 : List AOper := [
  Mv 19 1,
  Bc 20 .neq 19 1,
  Mc 4 (.bool true),
  Mv 5 20]
def f659x10 : List AOper := [
  Bc 22 .eql 6 5,
  Mv 21 22]
def f659x11 : List AOper := [
  Bc 23 .eql 6 6,
  Mv 21 23]
def f659x12 : List AOper := [
  Bc 24 .eql 6 7,
  Mv 21 24]
def f659x13 : List AOper := [
  Mv 25 1,
  Bc 26 .eql 25 1,
  Mc 4 (.bool true),
  Mv 5 26]
def f659x14 : List AOper := [
  Mc 4 (.bool false),
  Mc 5 (.bool false)]
def f659 : AFunc := ⟨27, 2, false, [.t 4, .t 5], (.seq (.region f659x0 false) (.seq (.seq (.region f659x1 false) (.block 0 (.seq (.seq (.region f659x2 false) (.cond (.t 7) .skip (.seq (.region f659x3 false) (.cond (.t 7) .skip (.region f659x4 false))))) (.cond (.t 7) (.seq (.region f659x5 false) .ret) (.seq (.region f659x6 false) (.cond (.t 13) (.seq (.region f659x7 false) .ret) (.seq (.region f659x8 false) (.cond (.t 17) (.seq (.region f659x9 false) .ret) (.seq (.seq (.region f659x10 false) (.cond (.t 21) .skip (.seq (.region f659x11 false) (.cond (.t 21) .skip (.region f659x12 false))))) (.cond (.t 21) (.seq (.region f659x13 false) .ret) .skip)))))))))) (.seq (.region f659x14 false) .ret)))⟩
def f660x0 : List AOper := [
  Mc 2 (.bool false)]
def f660x1 : List AOper := [
  Mv 3 0,
  Bc 4 .eql 3 5,
  Mv 5 4,
  Gf 5 (Mv 6 0),
  Gf 5 (Bc 7 .eql 6 6),
  Po 8 5 7,
  Mv 9 8,
  Gf 9 (Mv 10 0),
  Gf 9 (Bc 11 .eql 10 7),
  Po 12 9 11,
  Mv 2 12]
def f660 : AFunc := ⟨13, 1, false, [.t 2], (.seq (.region f660x0 false) (.seq (.region f660x1 false) .ret))⟩
def f347x0 : List AOper := [
  Mc 2 (.bool false)]
def f347x1 : List AOper := [
  Mv 4 0,
  Op 5 (.bin .eql (.t 4) (.c (.str []))),
  Mv 6 5,
  Gf 6 (Mv 7 0),
  Gf 6 (Ln 8 1 7),
  Gf 6 (Bc 9 .gtr 8 1),
  Gf 6 (Mv 10 9),
  Gt 10 (Mv 11 0),
  Gt 10 (Op 12 (.istr (.t 11) (.c (.int .i64 0)))),
  Gt 10 (Op 13 (.bin .eql (.t 12) (.c (.int .u8 48)))),
  Gf 6 (Pa 14 10 13),
  Po 15 6 14]
def f347x2 : List AOper := [
  Mc 2 (.bool false)]
def f347x3 : List AOper := [
  Mv 16 0,
  Ln 17 1 16,
  Mc 18 (.int .i64 0)]
def f347x4 : List AOper := [
  Bi 19 .lss 18 17]
def f347x5 : List AOper := [
  Mv 20 18,
  Mv 3 20]
def f347x6 : List AOper := [
  Mv 21 0,
  Mv 22 3,
  Op 23 (.istr (.t 21) (.t 22)),
  Op 24 (.bin .lss (.t 23) (.c (.int .u8 48))),
  Mv 25 24,
  Gf 25 (Mv 26 0),
  Gf 25 (Mv 27 3),
  Gf 25 (Op 28 (.istr (.t 26) (.t 27))),
  Gf 25 (Op 29 (.bin .gtr (.t 28) (.c (.int .u8 57)))),
  Po 30 25 29]
def f347x7 : List AOper := [
  Mc 2 (.bool false)]
def f347x8 : List AOper := [
  Bc 31 .add 18 1,
  Mv 18 31]
def f347x9L : ACode := (.seq (.region f347x4 false) (.seq (.cond (.t 19) .skip (.exit 0)) (.seq (.block 1 (.seq (.region f347x5 false) (.seq (.region f347x6 false) (.cond (.t 30) (.seq (.region f347x7 false) .ret) .skip)))) (.region f347x8 false))))
def f347x10 : List AOper := [
  Mc 2 (.bool true)]
def f347 : AFunc := ⟨32, 1, false, [.t 2], (.seq (.region f347x0 false) (.seq (.seq (.region f347x1 false) (.cond (.t 15) (.seq (.region f347x2 false) .ret) .skip)) (.seq (.seq (.region f347x3 false) (.block 0 (.loop f347x9L))) (.seq (.region f347x10 false) .ret))))⟩
end Go.AM.IR
namespace Go.AM.IR
def G0 (f : Nat) : Fun := bif Nat.blt f 566 then (bif Nat.blt f 454 then (bif Nat.blt f 325 then (bif Nat.blt f 233 then (bif Nat.blt f 186 then (bif Nat.blt f 181 then (bif Nat.beq f 178 then .code f178 else .none) else (bif Nat.blt f 183 then (bif Nat.beq f 181 then .code f181 else .none) else (bif Nat.beq f 183 then .code f183 else .none))) else (bif Nat.blt f 229 then (bif Nat.blt f 227 then (bif Nat.beq f 186 then .code f186 else .none) else (bif Nat.beq f 227 then .code f227 else .none)) else (bif Nat.blt f 231 then (bif Nat.beq f 229 then .code f229 else .none) else (bif Nat.beq f 231 then .code f231 else .none)))) else (bif Nat.blt f 249 then (bif Nat.blt f 246 then (bif Nat.beq f 233 then .code f233 else .none) else (bif Nat.blt f 247 then (bif Nat.beq f 246 then .prim false pItoa else .none) else (bif Nat.beq f 247 then .prim false pJoin else .none))) else (bif Nat.blt f 252 then (bif Nat.blt f 250 then (bif Nat.beq f 249 then .prim false pSplit else .none) else (bif Nat.beq f 250 then .code f250 else .none)) else (bif Nat.blt f 263 then (bif Nat.beq f 252 then .prim false pCut else .none) else (bif Nat.beq f 263 then .prim false (pAtoi 273) else .none))))) else (bif Nat.blt f 346 then (bif Nat.blt f 337 then (bif Nat.blt f 332 then (bif Nat.beq f 325 then .code f325 else .none) else (bif Nat.blt f 334 then (bif Nat.beq f 332 then .code f332 else .none) else (bif Nat.beq f 334 then .code f334 else .none))) else (bif Nat.blt f 340 then (bif Nat.blt f 339 then (bif Nat.beq f 337 then .code f337 else .none) else (bif Nat.beq f 339 then .code f339 else .none)) else (bif Nat.blt f 345 then (bif Nat.beq f 340 then .code f340 else .none) else (bif Nat.beq f 345 then .prim false pContains else .none)))) else (bif Nat.blt f 435 then (bif Nat.blt f 405 then (bif Nat.blt f 347 then (bif Nat.beq f 346 then .code f346 else .none) else (bif Nat.beq f 347 then .code f347 else .none)) else (bif Nat.blt f 418 then (bif Nat.beq f 405 then .code f405 else .none) else (bif Nat.beq f 418 then .code f418 else .none))) else (bif Nat.blt f 452 then (bif Nat.blt f 451 then (bif Nat.beq f 435 then .code f435 else .none) else (bif Nat.beq f 451 then .code f451 else .none)) else (bif Nat.blt f 453 then (bif Nat.beq f 452 then .code f452 else .none) else (bif Nat.beq f 453 then .code f453 else .none)))))) else (bif Nat.blt f 519 then (bif Nat.blt f 511 then (bif Nat.blt f 507 then (bif Nat.blt f 479 then (bif Nat.beq f 454 then .code f454 else .none) else (bif Nat.blt f 506 then (bif Nat.beq f 479 then .code f479 else .none) else (bif Nat.beq f 506 then .code f506 else .none))) else (bif Nat.blt f 509 then (bif Nat.blt f 508 then (bif Nat.beq f 507 then .code f507 else .none) else (bif Nat.beq f 508 then .code f508 else .none)) else (bif Nat.blt f 510 then (bif Nat.beq f 509 then .code f509 else .none) else (bif Nat.beq f 510 then .code f510 else .none)))) else (bif Nat.blt f 514 then (bif Nat.blt f 512 then (bif Nat.beq f 511 then .code f511 else .none) else (bif Nat.blt f 513 then (bif Nat.beq f 512 then .code f512 else .none) else (bif Nat.beq f 513 then .code f513 else .none))) else (bif Nat.blt f 517 then (bif Nat.blt f 515 then (bif Nat.beq f 514 then .code f514 else .none) else (bif Nat.beq f 515 then .code f515 else .none)) else (bif Nat.blt f 518 then (bif Nat.beq f 517 then .code f517 else .none) else (bif Nat.beq f 518 then .code f518 else .none))))) else (bif Nat.blt f 526 then (bif Nat.blt f 522 then (bif Nat.blt f 520 then (bif Nat.beq f 519 then .code f519 else .none) else (bif Nat.blt f 521 then (bif Nat.beq f 520 then .code f520 else .none) else (bif Nat.beq f 521 then .code f521 else .none))) else (bif Nat.blt f 524 then (bif Nat.blt f 523 then (bif Nat.beq f 522 then .code f522 else .none) else (bif Nat.beq f 523 then .code f523 else .none)) else (bif Nat.blt f 525 then (bif Nat.beq f 524 then .code f524 else .none) else (bif Nat.beq f 525 then .code f525 else .none)))) else (bif Nat.blt f 554 then (bif Nat.blt f 542 then (bif Nat.blt f 541 then (bif Nat.beq f 526 then .code f526 else .none) else (bif Nat.beq f 541 then .code f541 else .none)) else (bif Nat.blt f 543 then (bif Nat.beq f 542 then .code f542 else .none) else (bif Nat.beq f 543 then .code f543 else .none))) else (bif Nat.blt f 556 then (bif Nat.blt f 555 then (bif Nat.beq f 554 then .code f554 else .none) else (bif Nat.beq f 555 then .code f555 else .none)) else (bif Nat.blt f 557 then (bif Nat.beq f 556 then .code f556 else .none) else (bif Nat.beq f 557 then .code f557 else .none))))))) else (bif Nat.blt f 646 then (bif Nat.blt f 592 then (bif Nat.blt f 585 then (bif Nat.blt f 580 then (bif Nat.blt f 577 then (bif Nat.beq f 566 then .code f566 else .none) else (bif Nat.blt f 579 then (bif Nat.beq f 577 then .code f577 else .none) else (bif Nat.beq f 579 then .code f579 else .none))) else (bif Nat.blt f 582 then (bif Nat.blt f 581 then (bif Nat.beq f 580 then .code f580 else .none) else (bif Nat.beq f 581 then .code f581 else .none)) else (bif Nat.blt f 583 then (bif Nat.beq f 582 then .code f582 else .none) else (bif Nat.beq f 583 then .code f583 else .none)))) else (bif Nat.blt f 588 then (bif Nat.blt f 586 then (bif Nat.beq f 585 then .code f585 else .none) else (bif Nat.blt f 587 then (bif Nat.beq f 586 then .code f586 else .none) else (bif Nat.beq f 587 then .code f587 else .none))) else (bif Nat.blt f 590 then (bif Nat.blt f 589 then (bif Nat.beq f 588 then .code f588 else .none) else (bif Nat.beq f 589 then .code f589 else .none)) else (bif Nat.blt f 591 then (bif Nat.beq f 590 then .code f590 else .none) else (bif Nat.beq f 591 then .code f591 else .none))))) else (bif Nat.blt f 624 then (bif Nat.blt f 595 then (bif Nat.blt f 593 then (bif Nat.beq f 592 then .code f592 else .none) else (bif Nat.blt f 594 then (bif Nat.beq f 593 then .code f593 else .none) else (bif Nat.beq f 594 then .code f594 else .none))) else (bif Nat.blt f 597 then (bif Nat.blt f 596 then (bif Nat.beq f 595 then .code f595 else .none) else (bif Nat.beq f 596 then .code f596 else .none)) else (bif Nat.blt f 623 then (bif Nat.beq f 597 then .code f597 else .none) else (bif Nat.beq f 623 then .code f623 else .none)))) else (bif Nat.blt f 628 then (bif Nat.blt f 626 then (bif Nat.blt f 625 then (bif Nat.beq f 624 then .code f624 else .none) else (bif Nat.beq f 625 then .code f625 else .none)) else (bif Nat.blt f 627 then (bif Nat.beq f 626 then .code f626 else .none) else (bif Nat.beq f 627 then .code f627 else .none))) else (bif Nat.blt f 630 then (bif Nat.blt f 629 then (bif Nat.beq f 628 then .code f628 else .none) else (bif Nat.beq f 629 then .code f629 else .none)) else (bif Nat.blt f 631 then (bif Nat.beq f 630 then .code f630 else .none) else (bif Nat.beq f 631 then .code f631 else .none)))))) else (bif Nat.blt f 671 then (bif Nat.blt f 658 then (bif Nat.blt f 653 then (bif Nat.blt f 647 then (bif Nat.beq f 646 then .code f646 else .none) else (bif Nat.blt f 648 then (bif Nat.beq f 647 then .code f647 else .none) else (bif Nat.beq f 648 then .code f648 else .none))) else (bif Nat.blt f 655 then (bif Nat.blt f 654 then (bif Nat.beq f 653 then .code f653 else .none) else (bif Nat.beq f 654 then .code f654 else .none)) else (bif Nat.blt f 657 then (bif Nat.beq f 655 then .code f655 else .none) else (bif Nat.beq f 657 then .code f657 else .none)))) else (bif Nat.blt f 667 then (bif Nat.blt f 660 then (bif Nat.blt f 659 then (bif Nat.beq f 658 then .code f658 else .none) else (bif Nat.beq f 659 then .code f659 else .none)) else (bif Nat.blt f 666 then (bif Nat.beq f 660 then .code f660 else .none) else (bif Nat.beq f 666 then .code f666 else .none))) else (bif Nat.blt f 669 then (bif Nat.blt f 668 then (bif Nat.beq f 667 then .code f667 else .none) else (bif Nat.beq f 668 then .code f668 else .none)) else (bif Nat.blt f 670 then (bif Nat.beq f 669 then .code f669 else .none) else (bif Nat.beq f 670 then .code f670 else .none))))) else (bif Nat.blt f 678 then (bif Nat.blt f 674 then (bif Nat.blt f 672 then (bif Nat.beq f 671 then .code f671 else .none) else (bif Nat.blt f 673 then (bif Nat.beq f 672 then .code f672 else .none) else (bif Nat.beq f 673 then .code f673 else .none))) else (bif Nat.blt f 676 then (bif Nat.blt f 675 then (bif Nat.beq f 674 then .code f674 else .none) else (bif Nat.beq f 675 then .code f675 else .none)) else (bif Nat.blt f 677 then (bif Nat.beq f 676 then .code f676 else .none) else (bif Nat.beq f 677 then .code f677 else .none)))) else (bif Nat.blt f 682 then (bif Nat.blt f 680 then (bif Nat.blt f 679 then (bif Nat.beq f 678 then .code f678 else .none) else (bif Nat.beq f 679 then .code f679 else .none)) else (bif Nat.blt f 681 then (bif Nat.beq f 680 then .code f680 else .none) else (bif Nat.beq f 681 then .code f681 else .none))) else (bif Nat.blt f 684 then (bif Nat.blt f 683 then (bif Nat.beq f 682 then .code f682 else .none) else (bif Nat.beq f 683 then .code f683 else .none)) else (bif Nat.blt f 685 then (bif Nat.beq f 684 then .code f684 else .none) else (bif Nat.beq f 685 then .code f685 else .none)))))))
def spRead : AV → Option (List (List AV))
  | .ifc t (.agg [.int .i64 e]) => if t = 138 then some [[.int .i64 e]] else none
  | _ => none
def pRead : List AV → List Blk → Option Ret := pGuard G0 g466 540 1 spRead 100000000
def G (f : Nat) : Fun := bif Nat.beq f 466 then .prim false pRead else G0 f
end Go.AM.IR
namespace Go.AM.IR
def encI (x : Int) : List AV := [.int .i64 x]
def encU (x : Int) : List AV := [.int .u32 x]
structure Seg where
  kind : Int
  as : List Int
def Seg.enc (s : Seg) : List AV := [.int .i64 s.kind, .sl 1 (s.as.map encI)]
structure TLV where
  kind : Int
  value : List UInt8
def TLV.enc (s : TLV) : List AV := [.int .i64 s.kind, .sl 1 (byteCells s.value)]
structure Attrs where
  origin : Int
  path : List Seg
  nextHop : Int
  hasMED : Bool
  med : Int
  hasPref : Bool
  pref : Int
  atomic : Bool
  hasAggr : Bool
  aggrAS : Int
  aggrAddr : Int
  comms : List Int
  hasOrig : Bool
  orig : Int
  clusters : List Int
  unknown : List TLV
def Attrs.enc (a : Attrs) : List AV := [.int .i64 a.origin, .sl 2 (a.path.map Seg.enc), .int .u32 a.nextHop, .bool a.hasMED, .int .i64 a.med, .bool a.hasPref, .int .i64 a.pref, .bool a.atomic, .bool a.hasAggr, .int .i64 a.aggrAS, .int .u32 a.aggrAddr,
  .sl 1 (a.comms.map encU), .bool a.hasOrig, .int .u32 a.orig, .sl 1 (a.clusters.map encU), .sl 2 (a.unknown.map TLV.enc)]
structure PVRoute where
  paddr : Int
  plen : Int
  attrs : Attrs
  peer : Int
  kind : Int
  router : Int
  stale : Bool
def PVRoute.enc (r : PVRoute) : List AV := [.int .u32 r.paddr, .int .i64 r.plen,
  .int .i64 r.attrs.origin, .sl 2 (r.attrs.path.map Seg.enc), .int .u32 r.attrs.nextHop, .bool r.attrs.hasMED, .int .i64 r.attrs.med, .bool r.attrs.hasPref, .int .i64 r.attrs.pref, .bool r.attrs.atomic, .bool r.attrs.hasAggr, .int .i64 r.attrs.aggrAS, .int .u32 r.attrs.aggrAddr,
  .sl 1 (r.attrs.comms.map encU), .bool r.attrs.hasOrig, .int .u32 r.attrs.orig, .sl 1 (r.attrs.clusters.map encU), .sl 2 (r.attrs.unknown.map TLV.enc),
  .int .i64 r.peer, .int .i64 r.kind, .int .u32 r.router, .bool r.stale]
structure IGP where
  addr : Int
  cost : Int
def IGP.enc (c : IGP) : List AV := [.int .u32 c.addr, .int .i64 c.cost]
theorem pureLL_map {α : Type} {f : α → List AV} (h : ∀ x, pureL (f x) = true) : ∀ l : List α, pureLL (l.map f) = true
  | [] => rfl
  | x :: r => by simp only [List.map_cons, pureLL, h x, pureLL_map h r, Bool.and_self]
theorem pureLL_bytes : ∀ l : List UInt8, pureLL (byteCells l) = true := fun l => pureLL_map (f := fun b : UInt8 => [AV.int .u8 (b.toNat : Int)]) (fun _ => rfl) l
@[simp] theorem pure_encI (l : List Int) : pureLL (l.map encI) = true := pureLL_map (fun _ => rfl) l
@[simp] theorem pure_encU (l : List Int) : pureLL (l.map encU) = true := pureLL_map (fun _ => rfl) l
theorem Seg.pure (s : Seg) : pureL s.enc = true := by simp [Seg.enc, pureL, AV.pure]
@[simp] theorem pure_segs (l : List Seg) : pureLL (l.map Seg.enc) = true := pureLL_map Seg.pure l
theorem TLV.pure (s : TLV) : pureL s.enc = true := by simp [TLV.enc, pureL, AV.pure, pureLL_bytes]
@[simp] theorem pure_tlvs (l : List TLV) : pureLL (l.map TLV.enc) = true := pureLL_map TLV.pure l
@[simp] theorem Attrs.pure (s : Attrs) : pureL s.enc = true := by simp [Attrs.enc, pureL, AV.pure]
@[simp] theorem PVRoute.pure (s : PVRoute) : pureL s.enc = true := by simp [PVRoute.enc, pureL, AV.pure]
@[simp] theorem pure_routes (l : List PVRoute) : pureLL (l.map PVRoute.enc) = true := pureLL_map PVRoute.pure l
@[simp] theorem pure_igps (l : List IGP) : pureLL (l.map IGP.enc) = true := pureLL_map (fun _ => rfl) l
end Go.AM.IR
namespace Go.AM.IR
theorem lift_enc {α : Type} {e : List AV → Prop} {enc : α → List AV} {Q : α → Prop} (h : ∀ x, e x → ∃ a, x = enc a ∧ Q a) : ∀ es : List (List AV), (∀ x ∈ es, e x) → ∃ l : List α, es = l.map enc ∧ ∀ a ∈ l, Q a
  | [], _ => ⟨[], rfl, by simp⟩
  | x :: r, hx => by
    obtain ⟨a, rfl, ha⟩ := h x (hx x (by simp))
    obtain ⟨l, rfl, hl⟩ := lift_enc h r fun y hy => hx y (by simp [hy])
    exact ⟨a :: l, rfl, by simpa using ⟨ha, hl⟩⟩
def okI (x : Int) : Prop := -9223372036854775808 ≤ x ∧ x ≤ 9223372036854775807
def okU (x : Int) : Prop := 0 ≤ x ∧ x ≤ 4294967295
theorem T_i64 {as : List AV} (h : Ty.T (.int .i64) as) : ∃ x, as = encI x ∧ okI x := by
  obtain ⟨n, rfl, h1, h2⟩ := h
  exact ⟨n, rfl, by simpa [IntKind.min, IntKind.max, IntKind.signed, IntKind.bits, okI] using And.intro h1 h2⟩
theorem T_u32 {as : List AV} (h : Ty.T (.int .u32) as) : ∃ x, as = encU x ∧ okU x := by
  obtain ⟨n, rfl, h1, h2⟩ := h
  exact ⟨n, rfl, by simpa [IntKind.min, IntKind.max, IntKind.signed, IntKind.bits, okU] using And.intro h1 h2⟩
theorem T_sl {α : Type} {τ : Ty} {enc : α → List AV} {Q : α → Prop} (h : ∀ x, τ.T x → ∃ a, x = enc a ∧ Q a) {as : List AV} (hs : Ty.T (.sl τ) as) : ∃ l : List α, as = [.sl τ.cells (l.map enc)] ∧ ∀ a ∈ l, Q a := by
  obtain ⟨es, rfl, h1, _⟩ := hs
  obtain ⟨l, rfl, h2⟩ := lift_enc h es h1
  exact ⟨l, rfl, h2⟩
structure Seg.ok (s : Seg) : Prop where
  kind : okI s.kind
  as : ∀ x ∈ s.as, okI x
structure TLV.ok (s : TLV) : Prop where
  kind : okI s.kind
structure IGP.ok (s : IGP) : Prop where
  addr : okU s.addr
  cost : okI s.cost
structure Attrs.ok (a : Attrs) : Prop where
  origin : okI a.origin
  path : ∀ s ∈ a.path, s.ok
  nextHop : okU a.nextHop
  med : okI a.med
  pref : okI a.pref
  aggrAS : okI a.aggrAS
  aggrAddr : okU a.aggrAddr
  comms : ∀ x ∈ a.comms, okU x
  orig : okU a.orig
  clusters : ∀ x ∈ a.clusters, okU x
  unknown : ∀ x ∈ a.unknown, x.ok
structure PVRoute.ok (r : PVRoute) : Prop where
  paddr : okU r.paddr
  plen : okI r.plen
  attrs : r.attrs.ok
  peer : okI r.peer
  kind : okI r.kind
  router : okU r.router
end Go.AM.IR
namespace Go.AM.IR
structure Pfx where
  addr : Int
  len : Int
  deriving DecidableEq
def Pfx.enc (p : Pfx) : List AV := [.int .u32 p.addr, .int .i64 p.len]
structure Cap where
  code : Int
  value : List UInt8
  deriving DecidableEq
def Cap.enc (p : Cap) : List AV := [.int .i64 p.code, .sl 1 (byteCells p.value)]
structure PMsg where
  kind : Int
  version : Int
  as : Int
  hold : Int
  router : Int
  caps : List Cap
  withdrawn : List Pfx
  attrs : Attrs
  reach : List Pfx
  code : Int
  sub : Int
  data : List UInt8
def PMsg.enc (m : PMsg) : List AV := [.int .i64 m.kind, .int .i64 m.version, .int .i64 m.as, .int .i64 m.hold, .int .u32 m.router, .sl 2 (m.caps.map Cap.enc), .sl 2 (m.withdrawn.map Pfx.enc),
  .int .i64 m.attrs.origin, .sl 2 (m.attrs.path.map Seg.enc), .int .u32 m.attrs.nextHop, .bool m.attrs.hasMED, .int .i64 m.attrs.med, .bool m.attrs.hasPref, .int .i64 m.attrs.pref, .bool m.attrs.atomic, .bool m.attrs.hasAggr, .int .i64 m.attrs.aggrAS, .int .u32 m.attrs.aggrAddr,
  .sl 1 (m.attrs.comms.map encU), .bool m.attrs.hasOrig, .int .u32 m.attrs.orig, .sl 1 (m.attrs.clusters.map encU), .sl 2 (m.attrs.unknown.map TLV.enc),
  .sl 2 (m.reach.map Pfx.enc), .int .i64 m.code, .int .i64 m.sub, .sl 1 (byteCells m.data)]
structure Peer where
  kind : Int
  as : Int
  addr : Int
  loc : Int
  client : Bool
  hold : Int
  restart : Int
  imp : List UInt8
  exp : List UInt8
  nextSelf : Bool
  damp : Bool
def Peer.enc (p : Peer) : List AV := [.int .i64 p.kind, .int .i64 p.as, .int .u32 p.addr, .int .u32 p.loc, .bool p.client, .int .i64 p.hold, .int .i64 p.restart, .str p.imp, .str p.exp, .bool p.nextSelf, .bool p.damp]
structure Conf where
  as : Int
  confed : Int
  router : Int
  cluster : Int
  peers : List Peer
  nets : AV
  p1 : AV
  p2 : AV
  p3 : AV
  p4 : AV
  d1 : Int
  d2 : Int
  d3 : Int
  d4 : Int
  multi : Int
def Conf.enc (c : Conf) : List AV := [.int .i64 c.as, .int .i64 c.confed, .int .u32 c.router, .int .u32 c.cluster, .sl 11 (c.peers.map Peer.enc), c.nets, c.p1, c.p2, c.p3, c.p4, .int .i64 c.d1, .int .i64 c.d2, .int .i64 c.d3, .int .i64 c.d4, .int .i64 c.multi]
structure Ses where
  state : Int
  retry : Int
  hold : Int
  keep : Int
  holdTime : Int
  router : Int
  restart : Int
  refresh : Bool
  untl : Int
def Ses.enc (s : Ses) : List AV := [.int .i64 s.state, .int .i64 s.retry, .int .i64 s.hold, .int .i64 s.keep, .int .i64 s.holdTime, .int .u32 s.router, .int .i64 s.restart, .bool s.refresh, .int .i64 s.untl]
structure Act where
  kind : Int
  msg : PMsg
def Act.enc (a : Act) : List AV := .int .i64 a.kind :: a.msg.enc
theorem Pfx.pure (s : Pfx) : pureL s.enc = true := rfl
@[simp] theorem pure_pfxs (l : List Pfx) : pureLL (l.map Pfx.enc) = true := pureLL_map Pfx.pure l
theorem Cap.pure (s : Cap) : pureL s.enc = true := by simp [Cap.enc, pureL, AV.pure, pureLL_bytes]
@[simp] theorem pure_caps (l : List Cap) : pureLL (l.map Cap.enc) = true := pureLL_map Cap.pure l
@[simp] theorem PMsg.pure (s : PMsg) : pureL s.enc = true := by simp [PMsg.enc, pureL, AV.pure, pureLL_bytes]
theorem Peer.pure (s : Peer) : pureL s.enc = true := rfl
@[simp] theorem pure_peers (l : List Peer) : pureLL (l.map Peer.enc) = true := pureLL_map Peer.pure l
@[simp] theorem Ses.pure (s : Ses) : pureL s.enc = true := rfl
@[simp] theorem Act.pure (s : Act) : pureL s.enc = true := by simp [Act.enc, pureL, AV.pure]
@[simp] theorem pure_acts (l : List Act) : pureLL (l.map Act.enc) = true := pureLL_map Act.pure l
structure Conf.ok (c : Conf) : Prop where
  nets : c.nets.pure = true
  p1 : c.p1.pure = true
  p2 : c.p2.pure = true
  p3 : c.p3.pure = true
  p4 : c.p4.pure = true
  as : okI c.as
  confed : okI c.confed
  router : okU c.router
  peers : ∀ p ∈ c.peers, okI p.as ∧ okI p.hold ∧ okI p.restart ∧ okI p.kind
  len : c.peers.length ≤ maxLen
theorem Conf.pure {c : Conf} (h : c.ok) : pureL c.enc = true := by simp [Conf.enc, pureL, AV.pure, h.nets, h.p1, h.p2, h.p3, h.p4]
def tPfx : Ty := .st [.int .u32, .int .i64]
structure Pfx.ok (p : Pfx) : Prop where
  addr : okU p.addr
  len : okI p.len
theorem T_pfx {as : List AV} (h : tPfx.T as) : ∃ s : Pfx, as = s.enc ∧ s.ok := by
  simp only [tPfx, Ty.T.eq_5, TT] at h
  obtain ⟨a1, b1, rfl, h1, a2, b2, rfl, h2, rfl⟩ := h
  obtain ⟨x1, rfl, k1⟩ := T_u32 h1
  obtain ⟨x2, rfl, k2⟩ := T_i64 h2
  exact ⟨⟨x1, x2⟩, rfl, k1, k2⟩
structure PMsg.ok (m : PMsg) : Prop where
  kind : okI m.kind
  version : okI m.version
  as : okI m.as
  hold : okI m.hold
  router : okU m.router
  caps : ∀ c ∈ m.caps, okI c.code
  withdrawn : ∀ p ∈ m.withdrawn, p.ok
  attrs : m.attrs.ok
  reach : ∀ p ∈ m.reach, p.ok
  code : okI m.code
  sub : okI m.sub
theorem T_str {as : List AV} (h : Ty.T .str as) : ∃ s, as = [.str s] := by
  obtain ⟨s, rfl, _⟩ := h; exact ⟨s, rfl⟩
structure Ses.ok (s : Ses) : Prop where
  state : okI s.state
  retry : okI s.retry
  hold : okI s.hold
  keep : okI s.keep
  holdTime : okI s.holdTime
  router : okU s.router
  restart : okI s.restart
  untl : okI s.untl
end Go.AM.IR
namespace Go.AM.IR
set_option maxHeartbeats 1000000
@[simp] theorem enc_pure_Pfx (x : Pfx) : pureL x.enc = true := by simp [Pfx.enc, pureL, AV.pure]
@[simp] theorem pureLL_i : ∀ l : List Int, pureLL (l.map encI) = true
  | [] => rfl
  | x :: r => by simp only [List.map_cons, pureLL, pureLL_i r]; simp [encI, pureL, AV.pure]
@[simp] theorem pureLL_m_Pfx : ∀ l : List Pfx, pureLL (l.map Pfx.enc) = true
  | [] => rfl
  | x :: r => by simp only [List.map_cons, pureLL, pureLL_m_Pfx r, enc_pure_Pfx]; rfl
structure Ifc where
  kind : Int
  pfx : Pfx
  addr : Int
  area : Int
  cost : Int
  prio : Int
  hello : Int
  dead : Int
def Ifc.enc (r : Ifc) : List AV := [.int .i64 r.kind, .int .u32 r.pfx.addr, .int .i64 r.pfx.len, .int .u32 r.addr, .int .u32 r.area, .int .i64 r.cost, .int .i64 r.prio, .int .i64 r.hello, .int .i64 r.dead]
def Ifc.ok (r : Ifc) : Prop := okI r.kind ∧ Pfx.ok r.pfx ∧ okU r.addr ∧ okU r.area ∧ okI r.cost ∧ okI r.prio ∧ okI r.hello ∧ okI r.dead
@[simp] theorem enc_pure_Ifc (x : Ifc) : pureL x.enc = true := by simp [Ifc.enc, pureL, AV.pure]
@[simp] theorem pureLL_m_Ifc : ∀ l : List Ifc, pureLL (l.map Ifc.enc) = true
  | [] => rfl
  | x :: r => by simp only [List.map_cons, pureLL, pureLL_m_Ifc r, enc_pure_Ifc]; rfl
structure ARange where
  area : Int
  pfx : Pfx
  adv : Bool
def ARange.enc (r : ARange) : List AV := [.int .u32 r.area, .int .u32 r.pfx.addr, .int .i64 r.pfx.len, .bool r.adv]
def ARange.ok (r : ARange) : Prop := okU r.area ∧ Pfx.ok r.pfx
@[simp] theorem enc_pure_ARange (x : ARange) : pureL x.enc = true := by simp [ARange.enc, pureL, AV.pure]
@[simp] theorem pureLL_m_ARange : ∀ l : List ARange, pureLL (l.map ARange.enc) = true
  | [] => rfl
  | x :: r => by simp only [List.map_cons, pureLL, pureLL_m_ARange r, enc_pure_ARange]; rfl
structure LSC where
  router : Int
  ifs : List Ifc
  ranges : List ARange
def LSC.enc (r : LSC) : List AV := [.int .u32 r.router, .sl 9 (r.ifs.map Ifc.enc), .sl 4 (r.ranges.map ARange.enc)]
def LSC.ok (r : LSC) : Prop := okU r.router ∧ (∀ x ∈ r.ifs, Ifc.ok x) ∧ (∀ x ∈ r.ranges, ARange.ok x)
@[simp] theorem enc_pure_LSC (x : LSC) : pureL x.enc = true := by simp [LSC.enc, pureL, AV.pure]
@[simp] theorem pureLL_m_LSC : ∀ l : List LSC, pureLL (l.map LSC.enc) = true
  | [] => rfl
  | x :: r => by simp only [List.map_cons, pureLL, pureLL_m_LSC r, enc_pure_LSC]; rfl
structure RuleP where
  permit : Bool
  pfx : Pfx
  min : Int
  max : Int
def RuleP.enc (r : RuleP) : List AV := [.bool r.permit, .int .u32 r.pfx.addr, .int .i64 r.pfx.len, .int .i64 r.min, .int .i64 r.max]
def RuleP.ok (r : RuleP) : Prop := Pfx.ok r.pfx ∧ okI r.min ∧ okI r.max
def tRuleP_ : Ty := .st [.bool, tPfx, .int .i64, .int .i64]
theorem T_RuleP {as : List AV} (h : tRuleP_.T as) : ∃ s : RuleP, as = s.enc ∧ s.ok := by
  simp only [tRuleP_, Ty.T.eq_5, TT] at h
  obtain ⟨a0, b0, rfl, h0, a1, b1, rfl, h1, a2, b2, rfl, h2, a3, b3, rfl, h3, rfl⟩ := h
  obtain ⟨x0, rfl⟩ := h0
  obtain ⟨x1, rfl, k1⟩ := T_pfx h1
  obtain ⟨x2, rfl, k2⟩ := T_i64 h2
  obtain ⟨x3, rfl, k3⟩ := T_i64 h3
  exact ⟨⟨x0, x1, x2, x3⟩, rfl, ⟨k1, k2, k3⟩⟩
@[simp] theorem enc_pure_RuleP (x : RuleP) : pureL x.enc = true := by simp [RuleP.enc, pureL, AV.pure]
@[simp] theorem pureLL_m_RuleP : ∀ l : List RuleP, pureLL (l.map RuleP.enc) = true
  | [] => rfl
  | x :: r => by simp only [List.map_cons, pureLL, pureLL_m_RuleP r, enc_pure_RuleP]; rfl
structure PList where
  name : List UInt8
  rules : List RuleP
def PList.enc (r : PList) : List AV := [.str r.name, .sl 5 (r.rules.map RuleP.enc)]
def PList.ok (r : PList) : Prop := (∀ x ∈ r.rules, RuleP.ok x)
def tPList_ : Ty := .st [.str, .sl tRuleP_]
theorem T_PList {as : List AV} (h : tPList_.T as) : ∃ s : PList, as = s.enc ∧ s.ok := by
  simp only [tPList_, Ty.T.eq_5, TT] at h
  obtain ⟨a0, b0, rfl, h0, a1, b1, rfl, h1, rfl⟩ := h
  obtain ⟨x0, rfl⟩ := T_str h0
  obtain ⟨x1, rfl, k1⟩ := T_sl (fun _ => T_RuleP) h1
  exact ⟨⟨x0, x1⟩, rfl, k1⟩
@[simp] theorem enc_pure_PList (x : PList) : pureL x.enc = true := by simp [PList.enc, pureL, AV.pure]
@[simp] theorem pureLL_m_PList : ∀ l : List PList, pureLL (l.map PList.enc) = true
  | [] => rfl
  | x :: r => by simp only [List.map_cons, pureLL, pureLL_m_PList r, enc_pure_PList]; rfl
structure PathR where
  permit : Bool
  pattern : List UInt8
def PathR.enc (r : PathR) : List AV := [.bool r.permit, .str r.pattern]
def PathR.ok (r : PathR) : Prop := True
def tPathR_ : Ty := .st [.bool, .str]
theorem T_PathR {as : List AV} (h : tPathR_.T as) : ∃ s : PathR, as = s.enc ∧ s.ok := by
  simp only [tPathR_, Ty.T.eq_5, TT] at h
  obtain ⟨a0, b0, rfl, h0, a1, b1, rfl, h1, rfl⟩ := h
  obtain ⟨x0, rfl⟩ := h0
  obtain ⟨x1, rfl⟩ := T_str h1
  exact ⟨⟨x0, x1⟩, rfl, trivial⟩
@[simp] theorem enc_pure_PathR (x : PathR) : pureL x.enc = true := by simp [PathR.enc, pureL, AV.pure]
@[simp] theorem pureLL_m_PathR : ∀ l : List PathR, pureLL (l.map PathR.enc) = true
  | [] => rfl
  | x :: r => by simp only [List.map_cons, pureLL, pureLL_m_PathR r, enc_pure_PathR]; rfl
structure PathL where
  name : List UInt8
  rules : List PathR
def PathL.enc (r : PathL) : List AV := [.str r.name, .sl 2 (r.rules.map PathR.enc)]
def PathL.ok (r : PathL) : Prop := (∀ x ∈ r.rules, PathR.ok x)
def tPathL_ : Ty := .st [.str, .sl tPathR_]
theorem T_PathL {as : List AV} (h : tPathL_.T as) : ∃ s : PathL, as = s.enc ∧ s.ok := by
  simp only [tPathL_, Ty.T.eq_5, TT] at h
  obtain ⟨a0, b0, rfl, h0, a1, b1, rfl, h1, rfl⟩ := h
  obtain ⟨x0, rfl⟩ := T_str h0
  obtain ⟨x1, rfl, k1⟩ := T_sl (fun _ => T_PathR) h1
  exact ⟨⟨x0, x1⟩, rfl, k1⟩
@[simp] theorem enc_pure_PathL (x : PathL) : pureL x.enc = true := by simp [PathL.enc, pureL, AV.pure]
@[simp] theorem pureLL_m_PathL : ∀ l : List PathL, pureLL (l.map PathL.enc) = true
  | [] => rfl
  | x :: r => by simp only [List.map_cons, pureLL, pureLL_m_PathL r, enc_pure_PathL]; rfl
structure ComR where
  permit : Bool
  high : Int
  low : Int
def ComR.enc (r : ComR) : List AV := [.bool r.permit, .int .i64 r.high, .int .i64 r.low]
def ComR.ok (r : ComR) : Prop := okI r.high ∧ okI r.low
def tComR_ : Ty := .st [.bool, .int .i64, .int .i64]
theorem T_ComR {as : List AV} (h : tComR_.T as) : ∃ s : ComR, as = s.enc ∧ s.ok := by
  simp only [tComR_, Ty.T.eq_5, TT] at h
  obtain ⟨a0, b0, rfl, h0, a1, b1, rfl, h1, a2, b2, rfl, h2, rfl⟩ := h
  obtain ⟨x0, rfl⟩ := h0
  obtain ⟨x1, rfl, k1⟩ := T_i64 h1
  obtain ⟨x2, rfl, k2⟩ := T_i64 h2
  exact ⟨⟨x0, x1, x2⟩, rfl, ⟨k1, k2⟩⟩
@[simp] theorem enc_pure_ComR (x : ComR) : pureL x.enc = true := by simp [ComR.enc, pureL, AV.pure]
@[simp] theorem pureLL_m_ComR : ∀ l : List ComR, pureLL (l.map ComR.enc) = true
  | [] => rfl
  | x :: r => by simp only [List.map_cons, pureLL, pureLL_m_ComR r, enc_pure_ComR]; rfl
structure ComL where
  name : List UInt8
  rules : List ComR
def ComL.enc (r : ComL) : List AV := [.str r.name, .sl 3 (r.rules.map ComR.enc)]
def ComL.ok (r : ComL) : Prop := (∀ x ∈ r.rules, ComR.ok x)
def tComL_ : Ty := .st [.str, .sl tComR_]
theorem T_ComL {as : List AV} (h : tComL_.T as) : ∃ s : ComL, as = s.enc ∧ s.ok := by
  simp only [tComL_, Ty.T.eq_5, TT] at h
  obtain ⟨a0, b0, rfl, h0, a1, b1, rfl, h1, rfl⟩ := h
  obtain ⟨x0, rfl⟩ := T_str h0
  obtain ⟨x1, rfl, k1⟩ := T_sl (fun _ => T_ComR) h1
  exact ⟨⟨x0, x1⟩, rfl, k1⟩
@[simp] theorem enc_pure_ComL (x : ComL) : pureL x.enc = true := by simp [ComL.enc, pureL, AV.pure]
@[simp] theorem pureLL_m_ComL : ∀ l : List ComL, pureLL (l.map ComL.enc) = true
  | [] => rfl
  | x :: r => by simp only [List.map_cons, pureLL, pureLL_m_ComL r, enc_pure_ComL]; rfl
structure Mat where
  kind : Int
  name : List UInt8
  n : Int
  pfx : Pfx
  neg : Bool
def Mat.enc (r : Mat) : List AV := [.int .i64 r.kind, .str r.name, .int .i64 r.n, .int .u32 r.pfx.addr, .int .i64 r.pfx.len, .bool r.neg]
def Mat.ok (r : Mat) : Prop := okI r.kind ∧ okI r.n ∧ Pfx.ok r.pfx
def tMat_ : Ty := .st [.int .i64, .str, .int .i64, tPfx, .bool]
theorem T_Mat {as : List AV} (h : tMat_.T as) : ∃ s : Mat, as = s.enc ∧ s.ok := by
  simp only [tMat_, Ty.T.eq_5, TT] at h
  obtain ⟨a0, b0, rfl, h0, a1, b1, rfl, h1, a2, b2, rfl, h2, a3, b3, rfl, h3, a4, b4, rfl, h4, rfl⟩ := h
  obtain ⟨x0, rfl, k0⟩ := T_i64 h0
  obtain ⟨x1, rfl⟩ := T_str h1
  obtain ⟨x2, rfl, k2⟩ := T_i64 h2
  obtain ⟨x3, rfl, k3⟩ := T_pfx h3
  obtain ⟨x4, rfl⟩ := h4
  exact ⟨⟨x0, x1, x2, x3, x4⟩, rfl, ⟨k0, k2, k3⟩⟩
@[simp] theorem enc_pure_Mat (x : Mat) : pureL x.enc = true := by simp [Mat.enc, pureL, AV.pure]
@[simp] theorem pureLL_m_Mat : ∀ l : List Mat, pureLL (l.map Mat.enc) = true
  | [] => rfl
  | x :: r => by simp only [List.map_cons, pureLL, pureLL_m_Mat r, enc_pure_Mat]; rfl
structure Actn where
  kind : Int
  n : Int
  asn : Int
  com : Int
  addr : Int
def Actn.enc (r : Actn) : List AV := [.int .i64 r.kind, .int .i64 r.n, .int .i64 r.asn, .int .u32 r.com, .int .u32 r.addr]
def Actn.ok (r : Actn) : Prop := okI r.kind ∧ okI r.n ∧ okI r.asn ∧ okU r.com ∧ okU r.addr
def tActn_ : Ty := .st [.int .i64, .int .i64, .int .i64, .int .u32, .int .u32]
theorem T_Actn {as : List AV} (h : tActn_.T as) : ∃ s : Actn, as = s.enc ∧ s.ok := by
  simp only [tActn_, Ty.T.eq_5, TT] at h
  obtain ⟨a0, b0, rfl, h0, a1, b1, rfl, h1, a2, b2, rfl, h2, a3, b3, rfl, h3, a4, b4, rfl, h4, rfl⟩ := h
  obtain ⟨x0, rfl, k0⟩ := T_i64 h0
  obtain ⟨x1, rfl, k1⟩ := T_i64 h1
  obtain ⟨x2, rfl, k2⟩ := T_i64 h2
  obtain ⟨x3, rfl, k3⟩ := T_u32 h3
  obtain ⟨x4, rfl, k4⟩ := T_u32 h4
  exact ⟨⟨x0, x1, x2, x3, x4⟩, rfl, ⟨k0, k1, k2, k3, k4⟩⟩
@[simp] theorem enc_pure_Actn (x : Actn) : pureL x.enc = true := by simp [Actn.enc, pureL, AV.pure]
@[simp] theorem pureLL_m_Actn : ∀ l : List Actn, pureLL (l.map Actn.enc) = true
  | [] => rfl
  | x :: r => by simp only [List.map_cons, pureLL, pureLL_m_Actn r, enc_pure_Actn]; rfl
structure Trm where
  name : List UInt8
  mats : List Mat
  acts : List Actn
  verdict : Int
def Trm.enc (r : Trm) : List AV := [.str r.name, .sl 6 (r.mats.map Mat.enc), .sl 5 (r.acts.map Actn.enc), .int .i64 r.verdict]
def Trm.ok (r : Trm) : Prop := (∀ x ∈ r.mats, Mat.ok x) ∧ (∀ x ∈ r.acts, Actn.ok x) ∧ okI r.verdict
def tTrm_ : Ty := .st [.str, .sl tMat_, .sl tActn_, .int .i64]
theorem T_Trm {as : List AV} (h : tTrm_.T as) : ∃ s : Trm, as = s.enc ∧ s.ok := by
  simp only [tTrm_, Ty.T.eq_5, TT] at h
  obtain ⟨a0, b0, rfl, h0, a1, b1, rfl, h1, a2, b2, rfl, h2, a3, b3, rfl, h3, rfl⟩ := h
  obtain ⟨x0, rfl⟩ := T_str h0
  obtain ⟨x1, rfl, k1⟩ := T_sl (fun _ => T_Mat) h1
  obtain ⟨x2, rfl, k2⟩ := T_sl (fun _ => T_Actn) h2
  obtain ⟨x3, rfl, k3⟩ := T_i64 h3
  exact ⟨⟨x0, x1, x2, x3⟩, rfl, ⟨k1, k2, k3⟩⟩
@[simp] theorem enc_pure_Trm (x : Trm) : pureL x.enc = true := by simp [Trm.enc, pureL, AV.pure]
@[simp] theorem pureLL_m_Trm : ∀ l : List Trm, pureLL (l.map Trm.enc) = true
  | [] => rfl
  | x :: r => by simp only [List.map_cons, pureLL, pureLL_m_Trm r, enc_pure_Trm]; rfl
structure Pol where
  name : List UInt8
  terms : List Trm
  dflt : Int
def Pol.enc (r : Pol) : List AV := [.str r.name, .sl 4 (r.terms.map Trm.enc), .int .i64 r.dflt]
def Pol.ok (r : Pol) : Prop := (∀ x ∈ r.terms, Trm.ok x) ∧ okI r.dflt
def tPol_ : Ty := .st [.str, .sl tTrm_, .int .i64]
theorem T_Pol {as : List AV} (h : tPol_.T as) : ∃ s : Pol, as = s.enc ∧ s.ok := by
  simp only [tPol_, Ty.T.eq_5, TT] at h
  obtain ⟨a0, b0, rfl, h0, a1, b1, rfl, h1, a2, b2, rfl, h2, rfl⟩ := h
  obtain ⟨x0, rfl⟩ := T_str h0
  obtain ⟨x1, rfl, k1⟩ := T_sl (fun _ => T_Trm) h1
  obtain ⟨x2, rfl, k2⟩ := T_i64 h2
  exact ⟨⟨x0, x1, x2⟩, rfl, ⟨k1, k2⟩⟩
@[simp] theorem enc_pure_Pol (x : Pol) : pureL x.enc = true := by simp [Pol.enc, pureL, AV.pure]
@[simp] theorem pureLL_m_Pol : ∀ l : List Pol, pureLL (l.map Pol.enc) = true
  | [] => rfl
  | x :: r => by simp only [List.map_cons, pureLL, pureLL_m_Pol r, enc_pure_Pol]; rfl
structure PSet where
  prefixes : List PList
  paths : List PathL
  comms : List ComL
  pols : List Pol
def PSet.enc (r : PSet) : List AV := [.sl 2 (r.prefixes.map PList.enc), .sl 2 (r.paths.map PathL.enc), .sl 2 (r.comms.map ComL.enc), .sl 3 (r.pols.map Pol.enc)]
def PSet.ok (r : PSet) : Prop := (∀ x ∈ r.prefixes, PList.ok x) ∧ (∀ x ∈ r.paths, PathL.ok x) ∧ (∀ x ∈ r.comms, ComL.ok x) ∧ (∀ x ∈ r.pols, Pol.ok x)
def tPSet_ : Ty := .st [.sl tPList_, .sl tPathL_, .sl tComL_, .sl tPol_]
theorem T_PSet {as : List AV} (h : tPSet_.T as) : ∃ s : PSet, as = s.enc ∧ s.ok := by
  simp only [tPSet_, Ty.T.eq_5, TT] at h
  obtain ⟨a0, b0, rfl, h0, a1, b1, rfl, h1, a2, b2, rfl, h2, a3, b3, rfl, h3, rfl⟩ := h
  obtain ⟨x0, rfl, k0⟩ := T_sl (fun _ => T_PList) h0
  obtain ⟨x1, rfl, k1⟩ := T_sl (fun _ => T_PathL) h1
  obtain ⟨x2, rfl, k2⟩ := T_sl (fun _ => T_ComL) h2
  obtain ⟨x3, rfl, k3⟩ := T_sl (fun _ => T_Pol) h3
  exact ⟨⟨x0, x1, x2, x3⟩, rfl, ⟨k0, k1, k2, k3⟩⟩
@[simp] theorem enc_pure_PSet (x : PSet) : pureL x.enc = true := by simp [PSet.enc, pureL, AV.pure]
@[simp] theorem pureLL_m_PSet : ∀ l : List PSet, pureLL (l.map PSet.enc) = true
  | [] => rfl
  | x :: r => by simp only [List.map_cons, pureLL, pureLL_m_PSet r, enc_pure_PSet]; rfl
structure PeerC where
  kind : Int
  asn : Int
  addr : Int
  loc : Int
  client : Bool
  hold : Int
  restart : Int
  imp : List UInt8
  exp : List UInt8
  nextSelf : Bool
  damp : Bool
def PeerC.enc (r : PeerC) : List AV := [.int .i64 r.kind, .int .i64 r.asn, .int .u32 r.addr, .int .u32 r.loc, .bool r.client, .int .i64 r.hold, .int .i64 r.restart, .str r.imp, .str r.exp, .bool r.nextSelf, .bool r.damp]
def PeerC.ok (r : PeerC) : Prop := okI r.kind ∧ okI r.asn ∧ okU r.addr ∧ okU r.loc ∧ okI r.hold ∧ okI r.restart
@[simp] theorem enc_pure_PeerC (x : PeerC) : pureL x.enc = true := by simp [PeerC.enc, pureL, AV.pure]
@[simp] theorem pureLL_m_PeerC : ∀ l : List PeerC, pureLL (l.map PeerC.enc) = true
  | [] => rfl
  | x :: r => by simp only [List.map_cons, pureLL, pureLL_m_PeerC r, enc_pure_PeerC]; rfl
structure DampC where
  half : Int
  reuse : Int
  suppress : Int
  maxTime : Int
def DampC.enc (r : DampC) : List AV := [.int .i64 r.half, .int .i64 r.reuse, .int .i64 r.suppress, .int .i64 r.maxTime]
def DampC.ok (r : DampC) : Prop := okI r.half ∧ okI r.reuse ∧ okI r.suppress ∧ okI r.maxTime
@[simp] theorem enc_pure_DampC (x : DampC) : pureL x.enc = true := by simp [DampC.enc, pureL, AV.pure]
@[simp] theorem pureLL_m_DampC : ∀ l : List DampC, pureLL (l.map DampC.enc) = true
  | [] => rfl
  | x :: r => by simp only [List.map_cons, pureLL, pureLL_m_DampC r, enc_pure_DampC]; rfl
structure PVC where
  asn : Int
  confed : Int
  router : Int
  cluster : Int
  peers : List PeerC
  nets : List Pfx
  pols : PSet
  damp : DampC
  multi : Int
def PVC.enc (r : PVC) : List AV := [.int .i64 r.asn, .int .i64 r.confed, .int .u32 r.router, .int .u32 r.cluster, .sl 11 (r.peers.map PeerC.enc), .sl 2 (r.nets.map Pfx.enc), .sl 2 (r.pols.prefixes.map PList.enc), .sl 2 (r.pols.paths.map PathL.enc), .sl 2 (r.pols.comms.map ComL.enc), .sl 3 (r.pols.pols.map Pol.enc), .int .i64 r.damp.half, .int .i64 r.damp.reuse, .int .i64 r.damp.suppress, .int .i64 r.damp.maxTime, .int .i64 r.multi]
def PVC.ok (r : PVC) : Prop := okI r.asn ∧ okI r.confed ∧ okU r.router ∧ okU r.cluster ∧ (∀ x ∈ r.peers, PeerC.ok x) ∧ (∀ x ∈ r.nets, Pfx.ok x) ∧ PSet.ok r.pols ∧ DampC.ok r.damp ∧ okI r.multi
@[simp] theorem enc_pure_PVC (x : PVC) : pureL x.enc = true := by simp [PVC.enc, pureL, AV.pure]
@[simp] theorem pureLL_m_PVC : ∀ l : List PVC, pureLL (l.map PVC.enc) = true
  | [] => rfl
  | x :: r => by simp only [List.map_cons, pureLL, pureLL_m_PVC r, enc_pure_PVC]; rfl
structure Red where
  src : Int
  dst : Int
  pol : List UInt8
  metric : Int
  second : Bool
def Red.enc (r : Red) : List AV := [.int .i64 r.src, .int .i64 r.dst, .str r.pol, .int .i64 r.metric, .bool r.second]
def Red.ok (r : Red) : Prop := okI r.src ∧ okI r.dst ∧ okI r.metric
@[simp] theorem enc_pure_Red (x : Red) : pureL x.enc = true := by simp [Red.enc, pureL, AV.pure]
@[simp] theorem pureLL_m_Red : ∀ l : List Red, pureLL (l.map Red.enc) = true
  | [] => rfl
  | x :: r => by simp only [List.map_cons, pureLL, pureLL_m_Red r, enc_pure_Red]; rfl
structure Stat where
  pfx : Pfx
  hop : Int
  dist : Int
def Stat.enc (r : Stat) : List AV := [.int .u32 r.pfx.addr, .int .i64 r.pfx.len, .int .u32 r.hop, .int .i64 r.dist]
def Stat.ok (r : Stat) : Prop := Pfx.ok r.pfx ∧ okU r.hop ∧ okI r.dist
@[simp] theorem enc_pure_Stat (x : Stat) : pureL x.enc = true := by simp [Stat.enc, pureL, AV.pure]
@[simp] theorem pureLL_m_Stat : ∀ l : List Stat, pureLL (l.map Stat.enc) = true
  | [] => rfl
  | x :: r => by simp only [List.map_cons, pureLL, pureLL_m_Stat r, enc_pure_Stat]; rfl
structure RConf where
  name : List UInt8
  ls : LSC
  hasPV : Bool
  pv : PVC
  labels : Bool
  reroute : Bool
  redist : List Red
  stat : List Stat
  dists : List Int
def RConf.enc (r : RConf) : List AV := [.str r.name, .int .u32 r.ls.router, .sl 9 (r.ls.ifs.map Ifc.enc), .sl 4 (r.ls.ranges.map ARange.enc), .bool r.hasPV, .int .i64 r.pv.asn, .int .i64 r.pv.confed, .int .u32 r.pv.router, .int .u32 r.pv.cluster, .sl 11 (r.pv.peers.map PeerC.enc), .sl 2 (r.pv.nets.map Pfx.enc), .sl 2 (r.pv.pols.prefixes.map PList.enc), .sl 2 (r.pv.pols.paths.map PathL.enc), .sl 2 (r.pv.pols.comms.map ComL.enc), .sl 3 (r.pv.pols.pols.map Pol.enc), .int .i64 r.pv.damp.half, .int .i64 r.pv.damp.reuse, .int .i64 r.pv.damp.suppress, .int .i64 r.pv.damp.maxTime, .int .i64 r.pv.multi, .bool r.labels, .bool r.reroute, .sl 5 (r.redist.map Red.enc), .sl 4 (r.stat.map Stat.enc), .sl 1 (r.dists.map encI)]
def RConf.ok (r : RConf) : Prop := LSC.ok r.ls ∧ PVC.ok r.pv ∧ (∀ x ∈ r.redist, Red.ok x) ∧ (∀ x ∈ r.stat, Stat.ok x) ∧ (∀ x ∈ r.dists, okI x)
@[simp] theorem enc_pure_RConf (x : RConf) : pureL x.enc = true := by simp [RConf.enc, pureL, AV.pure]
@[simp] theorem pureLL_m_RConf : ∀ l : List RConf, pureLL (l.map RConf.enc) = true
  | [] => rfl
  | x :: r => by simp only [List.map_cons, pureLL, pureLL_m_RConf r, enc_pure_RConf]; rfl
structure LEnd where
  router : Int
  ifc : Int
def LEnd.enc (r : LEnd) : List AV := [.int .i64 r.router, .int .i64 r.ifc]
def LEnd.ok (r : LEnd) : Prop := okI r.router ∧ okI r.ifc
@[simp] theorem enc_pure_LEnd (x : LEnd) : pureL x.enc = true := by simp [LEnd.enc, pureL, AV.pure]
@[simp] theorem pureLL_m_LEnd : ∀ l : List LEnd, pureLL (l.map LEnd.enc) = true
  | [] => rfl
  | x :: r => by simp only [List.map_cons, pureLL, pureLL_m_LEnd r, enc_pure_LEnd]; rfl
structure Lnk where
  ends : List LEnd
  delay : Int
def Lnk.enc (r : Lnk) : List AV := [.sl 2 (r.ends.map LEnd.enc), .int .i64 r.delay]
def Lnk.ok (r : Lnk) : Prop := (∀ x ∈ r.ends, LEnd.ok x) ∧ okI r.delay
@[simp] theorem enc_pure_Lnk (x : Lnk) : pureL x.enc = true := by simp [Lnk.enc, pureL, AV.pure]
@[simp] theorem pureLL_m_Lnk : ∀ l : List Lnk, pureLL (l.map Lnk.enc) = true
  | [] => rfl
  | x :: r => by simp only [List.map_cons, pureLL, pureLL_m_Lnk r, enc_pure_Lnk]; rfl
structure Topo where
  routers : List RConf
  links : List Lnk
def Topo.enc (r : Topo) : List AV := [.sl 25 (r.routers.map RConf.enc), .sl 2 (r.links.map Lnk.enc)]
def Topo.ok (r : Topo) : Prop := (∀ x ∈ r.routers, RConf.ok x) ∧ (∀ x ∈ r.links, Lnk.ok x)
@[simp] theorem enc_pure_Topo (x : Topo) : pureL x.enc = true := by simp [Topo.enc, pureL, AV.pure]
@[simp] theorem pureLL_m_Topo : ∀ l : List Topo, pureLL (l.map Topo.enc) = true
  | [] => rfl
  | x :: r => by simp only [List.map_cons, pureLL, pureLL_m_Topo r, enc_pure_Topo]; rfl
end Go.AM.IR
