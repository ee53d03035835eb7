/- What the functions of this program give, on the abstract machine. -/
import Derived.Test.YtndighlbglagiaaGreatDoorMachineC
set_option linter.unusedVariables false
set_option linter.unusedSimpArgs false
set_option maxRecDepth 100000
namespace Go.AM.IR
open Go Go.AM
def f372x0 : List AOper := [
  Op 2 (.box (.t 0)),
  Mc 4 (.bool false)]
def f372x1 : List AOper := [
  Ls 9 2 2,
  Ct 10 377 [9],
  Un 11 .not 10,
  Mv 12 11,
  Gf 12 (Mv 13 1),
  Gf 12 (Ln 14 1 13),
  Gf 12 (Bc 15 .gtr 14 200),
  Po 16 12 15]
def f372x2 : List AOper := [
  Ct 17 378 [],
  Mv 4 17]
def f372x3 : List AOper := [
  Ls 19 2 2,
  Mv 20 1,
  Ct 21 386 [19, 20],
  Mv 18 21,
  Ex 22 18 0,
  Ex 23 18 1,
  Mv 5 22,
  Mv 6 23]
def f372x4 : List AOper := [
  Ls 25 2 2,
  Mv 26 1,
  Ct 27 387 [25, 26],
  Mv 24 27,
  Ex 28 24 0,
  Ex 29 24 1,
  Mv 7 28,
  Mv 8 29]
def f372x5 : List AOper := [
  Mv 30 5,
  Mv 31 7,
  Bi 32 .eql 30 31,
  Mv 33 32,
  Gt 33 (Mv 34 6),
  Gt 33 (Mv 35 8),
  Gt 33 (Op 36 (.eqb false (.t 34) (.t 35))),
  Pa 37 33 36,
  Mv 38 37,
  Gt 38 (Ct 39 378 []),
  Pa 40 38 39,
  Mv 4 40]
def f372 : AFunc := ⟨41, 2, false, [.t 4], (.seq (.region f372x0 false) (.seq (.seq (.region f372x1 false) (.cond (.t 16) (.seq (.region f372x2 false) .ret) .skip)) (.seq (.region f372x3 false) (.seq (.region f372x4 false) (.seq (.region f372x5 false) .ret)))))⟩
def f377x0 : List AOper := [
  Op 1 (.box (.t 0)),
  Mc 2 (.bool false)]
def f377x1 : List AOper := [
  Fa 5 0 1,
  Ld 6 5,
  Ln 7 0 6,
  Bc 8 .gtr 7 12,
  Mv 9 8,
  Gt 9 (Fa 10 0 1),
  Gt 9 (Ld 11 10),
  Gt 9 (Ln 12 0 11),
  Gt 9 (Bc 13 .leq 12 32),
  Pa 14 9 13,
  Mv 15 14,
  Gf 15 (Fa 16 1 1),
  Gf 15 (Ld 17 16),
  Gf 15 (Ln 18 0 17),
  Gf 15 (Bc 19 .gtr 18 24),
  Gf 15 (Mv 20 19),
  Gt 20 (Fa 21 1 1),
  Gt 20 (Ld 22 21),
  Gt 20 (Ln 23 0 22),
  Gt 20 (Bc 24 .leq 23 64),
  Gf 15 (Pa 25 20 24),
  Po 26 15 25,
  Mv 27 26,
  Gf 27 (Fa 28 0 1),
  Gf 27 (Ld 29 28),
  Gf 27 (Ln 30 0 29),
  Gf 27 (Bc 31 .gtr 30 40),
  Po 32 27 31,
  Mv 33 32,
  Gf 33 (Fa 34 1 1),
  Gf 33 (Ld 35 34),
  Gf 33 (Ln 36 0 35),
  Gf 33 (Bc 37 .gtr 36 80),
  Po 38 33 37]
def f377x2 : List AOper := [
  Mc 2 (.bool false)]
def f377x3 : List AOper := [
  Fa 39 0 1,
  Ld 40 39,
  Ln 41 0 40,
  Mc 42 (.int .i64 0)]
def f377x4 : List AOper := [
  Bi 43 .lss 42 41]
def f377x5 : List AOper := [
  Mv 44 42,
  Mv 3 44]
def f377x6 : List AOper := [
  Fa 45 0 1,
  Ld 46 45,
  Mv 47 3,
  Ia 48 25 46 47,
  Ls 49 25 48,
  Ct 50 395 [49],
  Un 51 .not 50]
def f377x7 : List AOper := [
  Mc 2 (.bool false)]
def f377x8 : List AOper := [
  Bc 52 .add 42 1,
  Mv 42 52]
def f377x9L : ACode := (.seq (.region f377x4 false) (.seq (.cond (.t 43) .skip (.exit 0)) (.seq (.block 1 (.seq (.region f377x5 false) (.seq (.region f377x6 false) (.cond (.t 51) (.seq (.region f377x7 false) .ret) .skip)))) (.region f377x8 false))))
def f377x10 : List AOper := [
  Fa 53 1 1,
  Ld 54 53,
  Ln 55 0 54,
  Mc 56 (.int .i64 0)]
def f377x11 : List AOper := [
  Bi 57 .lss 56 55]
def f377x12 : List AOper := [
  Mv 58 56,
  Mv 4 58]
def f377x13 : List AOper := [
  Fa 59 1 1,
  Ld 60 59,
  Mv 61 4,
  Ia 62 2 60 61,
  Fa 63 0 62,
  Ld 64 63,
  Ln 65 0 64,
  Bc 66 .gtr 65 20]
def f377x14 : List AOper := [
  Mc 2 (.bool false)]
def f377x15 : List AOper := [
  Bc 67 .add 56 1,
  Mv 56 67]
def f377x16L : ACode := (.seq (.region f377x11 false) (.seq (.cond (.t 57) .skip (.exit 2)) (.seq (.block 3 (.seq (.region f377x12 false) (.seq (.region f377x13 false) (.cond (.t 66) (.seq (.region f377x14 false) .ret) .skip)))) (.region f377x15 false))))
def f377x17 : List AOper := [
  Mc 2 (.bool true)]
def f377 : AFunc := ⟨68, 1, false, [.t 2], (.seq (.region f377x0 false) (.seq (.seq (.region f377x1 false) (.cond (.t 38) (.seq (.region f377x2 false) .ret) .skip)) (.seq (.seq (.region f377x3 false) (.block 0 (.loop f377x9L))) (.seq (.seq (.region f377x10 false) (.block 2 (.loop f377x16L))) (.seq (.region f377x17 false) .ret)))))⟩
def f377x9LH : List AItem := [.inLoop f377x9L, .inBlock 0, .code (.seq (.seq (.region f377x10 false) (.block 2 (.loop f377x16L))) (.seq (.region f377x17 false) .ret))]
def f377x16LH : List AItem := [.inLoop f377x16L, .inBlock 2, .code (.seq (.region f377x17 false) .ret)]
def f378x0 : List AOper := [
  Mc 0 (.bool false)]
def f378x1 : List AOper := [
  Mc 1 (.str [114, 111, 117, 116, 101, 114, 32, 97, 32, 49, 10, 105, 102, 97, 99, 101, 32, 112, 111, 105, 110, 116, 32, 49, 48, 46, 48, 46, 48, 46, 48, 47, 51, 49, 32, 49, 48, 46, 48, 46, 48, 46, 48, 32, 48, 32, 49, 48, 32, 49, 32, 49, 48, 32, 52, 48, 10, 114, 111, 117, 116, 101, 114, 32, 98, 32, 50, 10, 105, 102, 97, 99, 101, 32, 112, 111, 105, 110, 116, 32, 49, 48, 46, 48, 46, 48, 46, 48, 47, 51, 49, 32, 49, 48, 46, 48, 46, 48, 46, 49, 32, 48, 32, 49, 48, 32, 49, 32, 49, 48, 32, 52, 48, 10, 108, 105, 110, 107, 32, 49, 32, 97, 58, 48, 32, 98, 58, 48, 10])]
def f378x2 : List AOper := [
  Mv 10 1,
  Ct 11 383 [10],
  Mv 9 11,
  Ex 12 9 0,
  Ex 13 9 1,
  Ex 14 9 2,
  Op 2 (.alloc (.agg [.con (.slice none 0 0), .con (.slice none 0 0)])),
  St 2 2 12,
  Mv 3 13,
  Mv 4 14]
def f378x3 : List AOper := [
  Ls 16 2 2,
  Ct 17 381 [16],
  Mv 15 17,
  Ex 18 15 0,
  Ex 19 15 1,
  Mv 5 18,
  Mv 6 19]
def f378x4 : List AOper := [
  Ls 21 2 2,
  Ca 22 386 [(.t 21), (.c (.str [98]))],
  Mv 20 22,
  Ex 23 20 0,
  Ex 24 20 1,
  Mv 7 23,
  Mv 8 24]
def f378x5 : List AOper := [
  Mv 25 4,
  Bc 26 .eql 25 0,
  Mv 27 26,
  Gt 27 (Mv 28 3),
  Gt 27 (Bc 29 .eql 28 0),
  Pa 30 27 29,
  Mv 31 30,
  Gt 31 (Mv 32 6),
  Gt 31 (Bc 33 .eql 32 0),
  Pa 34 31 33,
  Mv 35 34,
  Gt 35 (Mv 36 5),
  Gt 35 (Mv 37 1),
  Gt 35 (Bi 38 .eql 36 37),
  Pa 39 35 38,
  Mv 40 39,
  Gt 40 (Mv 41 8),
  Pa 42 40 41,
  Mv 43 42,
  Gt 43 (Mv 44 7),
  Gt 43 (Bc 45 .eql 44 1),
  Pa 46 43 45,
  Mv 47 46,
  Gt 47 (Fa 48 0 2),
  Gt 47 (Ld 49 48),
  Gt 47 (Ln 50 0 49),
  Gt 47 (Bc 51 .eql 50 2),
  Pa 52 47 51,
  Mv 53 52,
  Gt 53 (Fa 54 1 2),
  Gt 53 (Ld 55 54),
  Gt 53 (Ln 56 0 55),
  Gt 53 (Bc 57 .eql 56 1),
  Pa 58 53 57,
  Mv 59 58,
  Gt 59 (Ls 60 2 2),
  Gt 59 (Ct 61 379 [60]),
  Gt 59 (Bc 62 .eql 61 0),
  Pa 63 59 62,
  Mv 0 63]
def f378 : AFunc := ⟨64, 0, false, [.t 0], (.seq (.region f378x0 false) (.seq (.region f378x1 false) (.seq (.region f378x2 false) (.seq (.region f378x3 false) (.seq (.region f378x4 false) (.seq (.region f378x5 false) .ret))))))⟩
def f386x0 : List AOper := [
  Op 2 (.box (.t 0)),
  Mc 4 (.int .i64 0),
  Mc 5 (.bool false)]
def f386x1 : List AOper := [
  Fa 8 0 2,
  Ld 9 8,
  Ln 10 0 9,
  Mc 11 (.int .i64 0)]
def f386x2 : List AOper := [
  Bi 12 .lss 11 10]
def f386x3 : List AOper := [
  Mv 13 11,
  Ia 14 25 9 11,
  Ls 15 25 14,
  Op 7 (.alloc (.agg [.str [], .int .u32 0, .con (.slice none 0 0), .con (.slice none 0 0), .bool false, .int .i64 0, .int .i64 0, .int .u32 0, .int .u32 0, .con (.slice none 0 0), .con (.slice none 0 0), .con (.slice none 0 0), .con (.slice none 0 0), .con (.slice none 0 0), .con (.slice none 0 0), .int .i64 0, .int .i64 0, .int .i64 0, .int .i64 0, .int .i64 0, .bool false, .bool false, .con (.slice none 0 0), .con (.slice none 0 0), .con (.slice none 0 0)])),
  Mv 6 13,
  St 25 7 15]
def f386x4 : List AOper := [
  Fa 16 0 7,
  Ld 17 16,
  Mv 18 1,
  Bi 19 .eql 17 18]
def f386x5 : List AOper := [
  Mv 20 6,
  Mv 4 20,
  Mc 5 (.bool true)]
def f386x6 : List AOper := [
  Bc 21 .add 11 1,
  Mv 11 21]
def f386x7L : ACode := (.seq (.region f386x2 false) (.seq (.cond (.t 12) .skip (.exit 0)) (.seq (.block 1 (.seq (.region f386x3 false) (.seq (.region f386x4 false) (.cond (.t 19) (.seq (.region f386x5 false) .ret) .skip)))) (.region f386x6 false))))
def f386x8 : List AOper := [
  Mc 4 (.int .i64 0),
  Mc 5 (.bool false)]
def f386 : AFunc := ⟨22, 2, false, [.t 4, .t 5], (.seq (.region f386x0 false) (.seq (.seq (.region f386x1 false) (.block 0 (.loop f386x7L))) (.seq (.region f386x8 false) .ret)))⟩
def f386x7LH : List AItem := [.inLoop f386x7L, .inBlock 0, .code (.seq (.region f386x8 false) .ret)]
def f387x0 : List AOper := [
  Op 2 (.box (.t 0)),
  Mc 4 (.int .i64 0),
  Mc 5 (.bool false)]
def f387x1 : List AOper := [
  Fa 7 0 2,
  Ld 8 7,
  Ln 9 0 8,
  Mc 10 (.int .i64 0)]
def f387x2 : List AOper := [
  Bi 11 .lss 10 9]
def f387x3 : List AOper := [
  Mv 12 10,
  Mv 6 12]
def f387x4 : List AOper := [
  Fa 13 0 2,
  Ld 14 13,
  Mv 15 6,
  Ia 16 25 14 15,
  Fa 17 0 16,
  Ld 18 17,
  Mv 19 1,
  Bi 20 .eql 18 19]
def f387x5 : List AOper := [
  Mv 21 6,
  Mv 4 21,
  Mc 5 (.bool true)]
def f387x6 : List AOper := [
  Bc 22 .add 10 1,
  Mv 10 22]
def f387x7L : ACode := (.seq (.region f387x2 false) (.seq (.cond (.t 11) .skip (.exit 0)) (.seq (.block 1 (.seq (.region f387x3 false) (.seq (.region f387x4 false) (.cond (.t 20) (.seq (.region f387x5 false) .ret) .skip)))) (.region f387x6 false))))
def f387x8 : List AOper := [
  Mc 4 (.int .i64 0),
  Mc 5 (.bool false)]
def f387 : AFunc := ⟨23, 2, false, [.t 4, .t 5], (.seq (.region f387x0 false) (.seq (.seq (.region f387x1 false) (.block 0 (.loop f387x7L))) (.seq (.region f387x8 false) .ret)))⟩
def f387x7LH : List AItem := [.inLoop f387x7L, .inBlock 0, .code (.seq (.region f387x8 false) .ret)]
def f395x0 : List AOper := [
  Op 1 (.box (.t 0)),
  Mc 2 (.bool false)]
def f395x1 : List AOper := [
  Fa 5 0 1,
  Ld 6 5,
  Ln 7 1 6,
  Bc 8 .gtr 7 100,
  Mv 9 8,
  Gf 9 (Fa 10 1 1),
  Gf 9 (Fa 11 1 10),
  Gf 9 (Ld 12 11),
  Gf 9 (Ln 13 0 12),
  Gf 9 (Bc 14 .gtr 13 24),
  Po 15 9 14,
  Mv 16 15,
  Gf 16 (Fa 17 1 1),
  Gf 16 (Fa 18 2 17),
  Gf 16 (Ld 19 18),
  Gf 16 (Ln 20 0 19),
  Gf 16 (Bc 21 .gtr 20 24),
  Po 22 16 21,
  Mv 23 22,
  Gf 23 (Fa 24 22 1),
  Gf 23 (Ld 25 24),
  Gf 23 (Ln 26 0 25),
  Gf 23 (Bc 27 .gtr 26 24),
  Po 28 23 27,
  Mv 29 28,
  Gf 29 (Fa 30 23 1),
  Gf 29 (Ld 31 30),
  Gf 29 (Ln 32 0 31),
  Gf 29 (Bc 33 .gtr 32 24),
  Po 34 29 33,
  Mv 35 34,
  Gf 35 (Fa 36 24 1),
  Gf 35 (Ld 37 36),
  Gf 35 (Ln 38 0 37),
  Gf 35 (Bc 39 .gtr 38 24),
  Po 40 35 39]
def f395x2 : List AOper := [
  Mc 2 (.bool false)]
def f395x3 : List AOper := [
  Fa 41 5 1,
  Fa 42 4 41,
  Ld 43 42,
  Ln 44 0 43,
  Bc 45 .gtr 44 24,
  Mv 46 45,
  Gf 46 (Fa 47 5 1),
  Gf 46 (Fa 48 5 47),
  Gf 46 (Ld 49 48),
  Gf 46 (Ln 50 0 49),
  Gf 46 (Bc 51 .gtr 50 40),
  Po 52 46 51]
def f395x4 : List AOper := [
  Mc 2 (.bool false)]
def f395x5 : List AOper := [
  Fa 53 22 1,
  Ld 54 53,
  Ln 55 0 54,
  Mc 56 (.int .i64 0)]
def f395x6 : List AOper := [
  Bi 57 .lss 56 55]
def f395x7 : List AOper := [
  Mv 58 56,
  Mv 3 58]
def f395x8 : List AOper := [
  Fa 59 22 1,
  Ld 60 59,
  Mv 61 3,
  Ia 62 5 60 61,
  Fa 63 2 62,
  Ld 64 63,
  Ln 65 1 64,
  Bc 66 .gtr 65 100]
def f395x9 : List AOper := [
  Mc 2 (.bool false)]
def f395x10 : List AOper := [
  Bc 67 .add 56 1,
  Mv 56 67]
def f395x11L : ACode := (.seq (.region f395x6 false) (.seq (.cond (.t 57) .skip (.exit 0)) (.seq (.block 1 (.seq (.region f395x7 false) (.seq (.region f395x8 false) (.cond (.t 66) (.seq (.region f395x9 false) .ret) .skip)))) (.region f395x10 false))))
def f395x12 : List AOper := [
  Fa 68 5 1,
  Fa 69 4 68,
  Ld 70 69,
  Ln 71 0 70,
  Mc 72 (.int .i64 0)]
def f395x13 : List AOper := [
  Bi 73 .lss 72 71]
def f395x14 : List AOper := [
  Mv 74 72,
  Mv 4 74]
def f395x15 : List AOper := [
  Fa 75 5 1,
  Fa 76 4 75,
  Ld 77 76,
  Mv 78 4,
  Ia 79 11 77 78,
  Fa 80 7 79,
  Ld 81 80,
  Ln 82 1 81,
  Bc 83 .gtr 82 100,
  Mv 84 83,
  Gf 84 (Fa 85 5 1),
  Gf 84 (Fa 86 4 85),
  Gf 84 (Ld 87 86),
  Gf 84 (Mv 88 4),
  Gf 84 (Ia 89 11 87 88),
  Gf 84 (Fa 90 8 89),
  Gf 84 (Ld 91 90),
  Gf 84 (Ln 92 1 91),
  Gf 84 (Bc 93 .gtr 92 100),
  Po 94 84 93]
def f395x16 : List AOper := [
  Mc 2 (.bool false)]
def f395x17 : List AOper := [
  Bc 95 .add 72 1,
  Mv 72 95]
def f395x18L : ACode := (.seq (.region f395x13 false) (.seq (.cond (.t 73) .skip (.exit 2)) (.seq (.block 3 (.seq (.region f395x14 false) (.seq (.region f395x15 false) (.cond (.t 94) (.seq (.region f395x16 false) .ret) .skip)))) (.region f395x17 false))))
def f395x19 : List AOper := [
  Fa 96 5 1,
  Fa 97 6 96,
  Ls 98 4 97,
  Ct 99 435 [98],
  Bc 100 .leq 99 400,
  Mv 2 100]
def f395 : AFunc := ⟨101, 1, false, [.t 2], (.seq (.region f395x0 false) (.seq (.seq (.region f395x1 false) (.cond (.t 40) (.seq (.region f395x2 false) .ret) .skip)) (.seq (.seq (.region f395x3 false) (.cond (.t 52) (.seq (.region f395x4 false) .ret) .skip)) (.seq (.seq (.region f395x5 false) (.block 0 (.loop f395x11L))) (.seq (.seq (.region f395x12 false) (.block 2 (.loop f395x18L))) (.seq (.region f395x19 false) .ret))))))⟩
def f395x11LH : List AItem := [.inLoop f395x11L, .inBlock 0, .code (.seq (.seq (.region f395x12 false) (.block 2 (.loop f395x18L))) (.seq (.region f395x19 false) .ret))]
def f395x18LH : List AItem := [.inLoop f395x18L, .inBlock 2, .code (.seq (.region f395x19 false) .ret)]
def f383x0 : List AOper := [
  Op 2 (.alloc (.agg [.con (.slice none 0 0), .con (.slice none 0 0)])),
  Mc 3 (.int .i64 0),
  Mc 4 (.int .i64 0)]
def f383x1 : List AOper := [
  Mv 18 0,
  Ln 19 1 18,
  Bc 20 .gtr 19 65536]
def f383x2 : List AOper := [
  Op 21 (.build [.con (.slice none 0 0), .con (.slice none 0 0)] [] []),
  St 2 2 21,
  Mc 3 (.int .i64 0),
  Mc 4 (.int .i64 4)]
def f383x3 : List AOper := [
  Mv 23 0,
  Ct 24 416 [23],
  Mv 22 24,
  Ex 25 22 0,
  Ex 26 22 1,
  Mv 5 25,
  Mv 6 26]
def f383x4 : List AOper := [
  Op 27 (.build [.con (.slice none 0 0), .con (.slice none 0 0), .int .i64 0] [(2, 1)] [(.c (.int .i64 (-1)))]),
  Op 28 (.box (.t 27)),
  Mv 7 28]
def f383x5 : List AOper := [
  Mc 8 (.int .i64 0)]
def f383x6 : List AOper := [
  Mv 29 8,
  Mv 30 5,
  Ln 31 0 30,
  Bi 32 .lss 29 31]
def f383x7 : List AOper := [
  Mv 35 8,
  Mv 36 5,
  Ln 37 0 36,
  Bc 38 .sub 37 1,
  Bi 39 .eql 35 38,
  Mv 40 39,
  Gt 40 (Mv 41 6),
  Gt 40 (Un 42 .not 41),
  Pa 43 40 42]
def f383x8 : List AOper := [
  Op 44 (.build [.con (.slice none 0 0), .con (.slice none 0 0)] [] []),
  Mv 45 8,
  Bc 46 .add 45 1,
  St 2 2 44,
  Mv 3 46,
  Mc 4 (.int .i64 2)]
def f383x9 : List AOper := [
  Mv 48 7,
  Mv 49 5,
  Mv 50 8,
  Ia 51 1 49 50,
  Ld 52 51,
  Ct 53 417 [48, 52],
  Mv 47 53,
  Ex 54 47 0,
  Ex 55 47 1,
  Mv 9 54,
  Mv 10 55]
def f383x10 : List AOper := [
  Mv 56 10,
  Bc 57 .neq 56 0]
def f383x11 : List AOper := [
  Op 58 (.build [.con (.slice none 0 0), .con (.slice none 0 0)] [] []),
  Mv 59 8,
  Bc 60 .add 59 1,
  Mv 61 10,
  St 2 2 58,
  Mv 3 60,
  Mv 4 61]
def f383x12 : List AOper := [
  Mv 62 9,
  Bc 63 .eql 62 0]
def f383x13 : List AOper := [
  Mv 64 5,
  Mv 65 8,
  Bc 66 .add 65 1,
  Op 67 (.slc 1 (.t 64) (some (.t 66)) none none),
  Mv 11 67]
def f383x14 : List AOper := [
  Mv 68 6,
  Un 69 .not 68]
def f383x15 : List AOper := [
  Mv 70 11,
  Mv 71 11,
  Ln 72 0 71,
  Bc 73 .sub 72 1,
  Op 74 (.slc 1 (.t 70) none (some (.t 73)) none),
  Mv 11 74]
def f383x16 : List AOper := [
  Mv 75 11,
  Mv 76 9,
  Mv 77 11,
  Ln 78 0 77,
  Op 79 (.minmax false [(.t 76), (.t 78)]),
  Op 80 (.slc 1 (.t 75) none (some (.t 79)) none),
  Mv 11 80]
def f383x17 : List AOper := [
  Mc 12 (.str [])]
def f383x18 : List AOper := [
  Mv 81 11,
  Ln 82 0 81,
  Mc 83 (.int .i64 0)]
def f383x19 : List AOper := [
  Bi 84 .lss 83 82]
def f383x20 : List AOper := [
  Ia 85 1 81 83,
  Ld 86 85,
  Mv 14 86]
def f383x21 : List AOper := [
  Mv 87 12,
  Mv 88 14,
  Op 89 (.bin .add (.t 88) (.c (.str [10]))),
  Bi 90 .add 87 89,
  Mv 12 90]
def f383x22 : List AOper := [
  Bc 91 .add 83 1,
  Mv 83 91]
def f383x23L : ACode := (.seq (.region f383x19 false) (.seq (.cond (.t 84) .skip (.exit 2)) (.seq (.block 3 (.seq (.region f383x20 false) (.region f383x21 false))) (.region f383x22 false))))
def f383x24 : List AOper := [
  Mv 93 12,
  Ct 94 418 [93],
  Mv 92 94,
  Ex 95 92 0,
  Ex 96 92 1,
  Ex 97 92 2,
  Op 15 (.alloc (.agg [.con (.slice none 0 0), .con (.slice none 0 0), .con (.slice none 0 0), .con (.slice none 0 0)])),
  St 4 15 95,
  Mv 16 96,
  Mv 10 97]
def f383x25 : List AOper := [
  Mv 99 10,
  Bc 100 .neq 99 0,
  Mv 101 100,
  Gt 101 (Mv 102 16),
  Gt 101 (Mv 103 11),
  Gt 101 (Ln 104 0 103),
  Gt 101 (Bi 105 .leq 102 104),
  Gt 101 (Mv 106 105),
  Gf 106 (Mv 107 11),
  Gf 106 (Ln 108 0 107),
  Gf 106 (Mv 109 9),
  Gf 106 (Bi 110 .eql 108 109),
  Gt 101 (Po 111 106 110),
  Pa 112 101 111,
  Mv 98 112]
def f383x26 : List AOper := [
  Op 113 (.build [.con (.slice none 0 0), .con (.slice none 0 0)] [] []),
  Mv 114 8,
  Bc 115 .add 114 1,
  Mv 116 16,
  Bi 117 .add 115 116,
  Mv 118 10,
  St 2 2 113,
  Mv 3 117,
  Mv 4 118]
def f383x27 : List AOper := [
  Mv 120 11,
  Ln 121 0 120,
  Mv 122 9,
  Bi 123 .lss 121 122,
  Mv 124 123,
  Gt 124 (Mv 125 6),
  Gt 124 (Un 126 .not 125),
  Pa 127 124 126,
  Mv 119 127]
def f383x28 : List AOper := [
  Op 128 (.build [.con (.slice none 0 0), .con (.slice none 0 0)] [] []),
  Mv 129 5,
  Ln 130 0 129,
  St 2 2 128,
  Mv 3 130,
  Mc 4 (.int .i64 2)]
def f383x29 : List AOper := [
  Mv 132 11,
  Ln 133 0 132,
  Mv 134 9,
  Bi 135 .lss 133 134,
  Mv 131 135]
def f383x30 : List AOper := [
  Op 136 (.build [.con (.slice none 0 0), .con (.slice none 0 0)] [] []),
  Mv 137 5,
  Ln 138 0 137,
  Bc 139 .add 138 1,
  St 2 2 136,
  Mv 3 139,
  Mc 4 (.int .i64 3)]
def f383x31 : List AOper := [
  Mv 140 7,
  Ct 141 419 [140],
  Ls 142 4 15,
  Nc 143 141,
  Fa 144 5 143,
  Fa 145 6 144,
  Af [1, 2] (St 4 145 142)]
def f383x32 : List AOper := [
  Mv 146 8,
  Mv 147 9,
  Bi 148 .add 146 147,
  Mv 8 148]
def f383x33 : List AOper := [
  Mv 33 8,
  Bc 34 .add 33 1,
  Mv 8 34]
def f383x34L : ACode := (.seq (.seq (.region f383x6 false) (.cond (.t 32) .skip (.exit 0))) (.seq (.block 1 (.seq (.seq (.region f383x7 false) (.cond (.t 43) (.seq (.region f383x8 false) .ret) .skip)) (.seq (.region f383x9 false) (.seq (.seq (.region f383x10 false) (.cond (.t 57) (.seq (.region f383x11 false) .ret) .skip)) (.seq (.seq (.region f383x12 false) (.cond (.t 63) (.exit 1) .skip)) (.seq (.region f383x13 false) (.seq (.seq (.region f383x14 false) (.cond (.t 69) (.region f383x15 false) .skip)) (.seq (.region f383x16 false) (.seq (.region f383x17 false) (.seq (.seq (.region f383x18 false) (.block 2 (.loop f383x23L))) (.seq (.region f383x24 false) (.seq (.block 4 (.seq (.region f383x25 false) (.cond (.t 98) (.seq (.region f383x26 false) .ret) (.seq (.region f383x27 false) (.cond (.t 119) (.seq (.region f383x28 false) .ret) (.seq (.region f383x29 false) (.cond (.t 131) (.seq (.region f383x30 false) .ret) .skip))))))) (.seq (.region f383x31 true) (.region f383x32 false)))))))))))))) (.region f383x33 false)))
def f383x35 : List AOper := [
  Mv 149 7,
  Nc 150 149,
  Fa 151 2 150,
  Ld 152 151,
  Bc 153 .eql 152 8]
def f383x36 : List AOper := [
  Op 154 (.build [.con (.slice none 0 0), .con (.slice none 0 0)] [] []),
  Mv 155 5,
  Ln 156 0 155,
  Bc 157 .add 156 1,
  St 2 2 154,
  Mv 3 157,
  Mc 4 (.int .i64 3)]
def f383x37 : List AOper := [
  Mv 158 7,
  Nc 159 158,
  Fa 160 0 159,
  Ls 161 2 160,
  Ct 162 379 [161],
  Mv 17 162]
def f383x38 : List AOper := [
  Mv 163 17,
  Bc 164 .neq 163 0]
def f383x39 : List AOper := [
  Op 165 (.build [.con (.slice none 0 0), .con (.slice none 0 0)] [] []),
  Mv 166 17,
  St 2 2 165,
  Mc 3 (.int .i64 0),
  Mv 4 166]
def f383x40 : List AOper := [
  Mv 167 7,
  Nc 168 167,
  Fa 169 0 168,
  Ls 170 2 169,
  St 2 2 170,
  Mc 3 (.int .i64 0),
  Mc 4 (.int .i64 0)]
def f383 : AFunc := ⟨171, 1, false, [.cell 2 (some 2), .t 3, .t 4], (.seq (.region f383x0 false) (.seq (.seq (.region f383x1 false) (.cond (.t 20) (.seq (.region f383x2 false) .ret) .skip)) (.seq (.region f383x3 false) (.seq (.region f383x4 false) (.seq (.seq (.region f383x5 false) (.block 0 (.loop f383x34L))) (.seq (.seq (.region f383x35 false) (.cond (.t 153) (.seq (.region f383x36 false) .ret) .skip)) (.seq (.seq (.region f383x37 false) (.seq (.region f383x38 false) (.cond (.t 164) (.seq (.region f383x39 false) .ret) .skip))) (.seq (.region f383x40 false) .ret))))))))⟩
def f381x0 : List AOper := [
  Op 1 (.box (.t 0)),
  Mc 2 (.str []),
  Mc 3 (.int .i64 0)]
def f381x1 : List AOper := [
  Ls 15 2 1,
  Ct 16 379 [15],
  Mv 4 16]
def f381x2 : List AOper := [
  Mv 17 4,
  Bc 18 .neq 17 0]
def f381x3 : List AOper := [
  Mv 19 4,
  Mc 2 (.str []),
  Mv 3 19]
def f381x4 : List AOper := [
  Op 20 (.build [.str []] [] []),
  Op 21 (.box (.t 20)),
  Mv 5 21]
def f381x5 : List AOper := [
  Fa 22 0 1,
  Ld 23 22,
  Ln 24 0 23,
  Mc 25 (.int .i64 0)]
def f381x6 : List AOper := [
  Bi 26 .lss 25 24]
def f381x7 : List AOper := [
  Ia 27 25 23 25,
  Ls 28 25 27,
  Op 7 (.alloc (.agg [.str [], .int .u32 0, .con (.slice none 0 0), .con (.slice none 0 0), .bool false, .int .i64 0, .int .i64 0, .int .u32 0, .int .u32 0, .con (.slice none 0 0), .con (.slice none 0 0), .con (.slice none 0 0), .con (.slice none 0 0), .con (.slice none 0 0), .con (.slice none 0 0), .int .i64 0, .int .i64 0, .int .i64 0, .int .i64 0, .int .i64 0, .bool false, .bool false, .con (.slice none 0 0), .con (.slice none 0 0), .con (.slice none 0 0)])),
  St 25 7 28]
def f381x8 : List AOper := [
  Mv 29 5,
  Ls 30 25 7,
  Ct 31 402 [29, 30]]
def f381x9 : List AOper := [
  Mv 32 5,
  Ls 33 25 7,
  Ct 34 403 [32, 33]]
def f381x10 : List AOper := [
  Fa 35 4 7,
  Ld 36 35]
def f381x11 : List AOper := [
  Mv 37 5,
  Fa 38 5 7,
  Ls 39 15 38,
  Ct 40 404 [37, 39]]
def f381x12 : List AOper := [
  Fa 42 5 7,
  Fa 43 6 42,
  Ls 44 4 43,
  Ct 45 405 [44],
  Mv 41 45,
  Ex 46 41 0,
  Ex 47 41 1,
  Mv 8 46,
  Mv 9 47]
def f381x13 : List AOper := [
  Mv 48 9,
  Bc 49 .neq 48 0]
def f381x14 : List AOper := [
  Mv 50 9,
  Mc 2 (.str []),
  Mv 3 50]
def f381x15 : List AOper := [
  Mv 51 8,
  Op 52 (.bin .neq (.t 51) (.c (.str [])))]
def f381x16 : List AOper := [
  Mv 53 5,
  Mv 54 8,
  Ct 55 407 [54],
  Ct 56 337 [55],
  Op 57 (.bsl 1 [.str []] 2 [0, 1] [(.c (.str [112, 111, 108, 105, 99, 105, 101, 115])), (.t 56)]),
  Ct 58 406 [53, 57]]
def f381x17 : List AOper := [
  Mv 59 5,
  Nc 60 59,
  Fa 61 0 60,
  Ld 62 61,
  Mv 63 8,
  Bi 64 .add 62 63,
  Nc 65 59,
  Fa 66 0 65,
  St 1 66 64]
def f381x18 : List AOper := [
  Bc 67 .add 25 1,
  Mv 25 67]
def f381x19L : ACode := (.seq (.region f381x6 false) (.seq (.cond (.t 26) .skip (.exit 0)) (.seq (.block 1 (.seq (.region f381x7 false) (.seq (.region f381x8 false) (.seq (.region f381x9 false) (.seq (.seq (.region f381x10 false) (.cond (.t 36) (.region f381x11 false) .skip)) (.seq (.region f381x12 false) (.seq (.seq (.region f381x13 false) (.cond (.t 49) (.seq (.region f381x14 false) .ret) .skip)) (.seq (.region f381x15 false) (.cond (.t 52) (.seq (.region f381x16 false) (.region f381x17 false)) .skip))))))))) (.region f381x18 false))))
def f381x20 : List AOper := [
  Fa 68 1 1,
  Ld 69 68,
  Ln 70 0 69,
  Mc 71 (.int .i64 0)]
def f381x21 : List AOper := [
  Bi 72 .lss 71 70]
def f381x22 : List AOper := [
  Ia 73 2 69 71,
  Ls 74 2 73,
  Op 11 (.alloc (.agg [.con (.slice none 0 0), .int .i64 0])),
  St 2 11 74]
def f381x23 : List AOper := [
  Op 75 (.bsl 1 [.str []] 1 [0] [(.c (.str [108, 105, 110, 107]))]),
  Fa 76 1 11,
  Ld 77 76,
  Op 78 (.bsl 1 [.int .i64 0] 1 [0] [(.t 77)]),
  Ct 79 408 [75, 78],
  Mv 12 79]
def f381x24 : List AOper := [
  Fa 80 0 11,
  Ld 81 80,
  Ln 82 0 81,
  Mc 83 (.int .i64 0)]
def f381x25 : List AOper := [
  Bi 84 .lss 83 82]
def f381x26 : List AOper := [
  Ia 85 2 81 83,
  Ls 86 2 85,
  Op 14 (.alloc (.agg [.int .i64 0, .int .i64 0])),
  St 2 14 86]
def f381x27 : List AOper := [
  Mv 87 12,
  Fa 88 0 1,
  Ld 89 88,
  Fa 90 0 14,
  Ld 91 90,
  Af [2, 4] (Ia 92 25 89 91),
  Fa 93 0 92,
  Af [5, 2, 4] (Ld 94 93),
  Op 95 (.bin .add (.t 94) (.c (.str [58]))),
  Fa 96 1 14,
  Ld 97 96,
  Af [10] (Ct 98 337 [97]),
  Bi 99 .add 95 98,
  Af [11, 7, 5, 2, 4, 10] (Op 100 (.bsl 1 [.str []] 1 [0] [(.t 99)])),
  Af [13, 11, 7, 5, 2, 4, 10] (Ap 101 1 16 87 100),
  Mv 12 101]
def f381x28 : List AOper := [
  Bc 102 .add 83 1,
  Mv 83 102]
def f381x29L : ACode := (.seq (.region f381x25 false) (.seq (.cond (.t 84) .skip (.exit 4)) (.seq (.block 5 (.seq (.region f381x26 false) (.region f381x27 true))) (.region f381x28 false))))
def f381x30 : List AOper := [
  Mv 103 5,
  Mv 104 12,
  Ct 105 406 [103, 104]]
def f381x31 : List AOper := [
  Bc 106 .add 71 1,
  Mv 71 106]
def f381x32L : ACode := (.seq (.region f381x21 false) (.seq (.cond (.t 72) .skip (.exit 2)) (.seq (.block 3 (.seq (.region f381x22 false) (.seq (.region f381x23 false) (.seq (.seq (.region f381x24 false) (.block 4 (.loop f381x29L))) (.region f381x30 false))))) (.region f381x31 false))))
def f381x33 : List AOper := [
  Mv 107 5,
  Nc 108 107,
  Fa 109 0 108,
  Ld 110 109,
  Ln 111 1 110,
  Bc 112 .gtr 111 65536]
def f381x34 : List AOper := [
  Mc 2 (.str []),
  Mc 3 (.int .i64 4)]
def f381x35 : List AOper := [
  Mv 113 5,
  Nc 114 113,
  Fa 115 0 114,
  Ld 116 115,
  Mv 2 116,
  Mc 3 (.int .i64 0)]
def f381 : AFunc := ⟨117, 1, false, [.t 2, .t 3], (.seq (.region f381x0 false) (.seq (.seq (.region f381x1 false) (.seq (.region f381x2 false) (.cond (.t 18) (.seq (.region f381x3 false) .ret) .skip))) (.seq (.region f381x4 false) (.seq (.seq (.region f381x5 false) (.block 0 (.loop f381x19L))) (.seq (.seq (.region f381x20 false) (.block 2 (.loop f381x32L))) (.seq (.seq (.region f381x33 false) (.cond (.t 112) (.seq (.region f381x34 false) .ret) .skip)) (.seq (.region f381x35 false) .ret)))))))⟩
def f379x0 : List AOper := [
  Op 1 (.box (.t 0)),
  Mc 2 (.int .i64 0)]
def f379x1 : List AOper := [
  Fa 15 0 1,
  Ld 16 15,
  Ln 17 0 16,
  Bc 18 .gtr 17 32,
  Mv 19 18,
  Gf 19 (Fa 20 1 1),
  Gf 19 (Ld 21 20),
  Gf 19 (Ln 22 0 21),
  Gf 19 (Bc 23 .gtr 22 64),
  Po 24 19 23]
def f379x2 : List AOper := [
  Mc 2 (.int .i64 4)]
def f379x3 : List AOper := [
  Fa 25 0 1,
  Ld 26 25,
  Ln 27 0 26,
  Mc 28 (.int .i64 0)]
def f379x4 : List AOper := [
  Bi 29 .lss 28 27]
def f379x5 : List AOper := [
  Mv 30 28,
  Ia 31 25 26 28,
  Ls 32 25 31,
  Op 4 (.alloc (.agg [.str [], .int .u32 0, .con (.slice none 0 0), .con (.slice none 0 0), .bool false, .int .i64 0, .int .i64 0, .int .u32 0, .int .u32 0, .con (.slice none 0 0), .con (.slice none 0 0), .con (.slice none 0 0), .con (.slice none 0 0), .con (.slice none 0 0), .con (.slice none 0 0), .int .i64 0, .int .i64 0, .int .i64 0, .int .i64 0, .int .i64 0, .bool false, .bool false, .con (.slice none 0 0), .con (.slice none 0 0), .con (.slice none 0 0)])),
  Mv 3 30,
  St 25 4 32]
def f379x6 : List AOper := [
  Fa 33 0 1,
  Ld 34 33,
  Mv 35 3,
  Af [1] (Op 36 (.slc 25 (.t 34) none (some (.t 35)) none)),
  Ls 37 25 4,
  Af [3, 4, 1] (Ct 38 396 [36, 37]),
  Mv 5 38]
def f379x7 : List AOper := [
  Mv 39 5,
  Bc 40 .neq 39 0]
def f379x8 : List AOper := [
  Mv 41 5,
  Mv 2 41]
def f379x9 : List AOper := [
  Bc 42 .add 28 1,
  Mv 28 42]
def f379x10L : ACode := (.seq (.region f379x4 false) (.seq (.cond (.t 29) .skip (.exit 0)) (.seq (.block 1 (.seq (.region f379x5 false) (.seq (.region f379x6 true) (.seq (.region f379x7 false) (.cond (.t 40) (.seq (.region f379x8 false) .ret) .skip))))) (.region f379x9 false))))
def f379x11 : List AOper := [
  Op 43 (.mkmap),
  Mv 6 43]
def f379x12 : List AOper := [
  Fa 44 0 1,
  Ld 45 44,
  Ln 46 0 45,
  Mc 47 (.int .i64 0)]
def f379x13 : List AOper := [
  Bi 48 .lss 47 46]
def f379x14 : List AOper := [
  Ia 49 25 45 47,
  Ls 50 25 49,
  Op 8 (.alloc (.agg [.str [], .int .u32 0, .con (.slice none 0 0), .con (.slice none 0 0), .bool false, .int .i64 0, .int .i64 0, .int .u32 0, .int .u32 0, .con (.slice none 0 0), .con (.slice none 0 0), .con (.slice none 0 0), .con (.slice none 0 0), .con (.slice none 0 0), .con (.slice none 0 0), .int .i64 0, .int .i64 0, .int .i64 0, .int .i64 0, .int .i64 0, .bool false, .bool false, .con (.slice none 0 0), .con (.slice none 0 0), .con (.slice none 0 0)])),
  St 25 8 50]
def f379x15 : List AOper := [
  Fa 51 1 8,
  Fa 52 1 51,
  Ld 53 52,
  Ln 54 0 53,
  Mc 55 (.int .i64 0)]
def f379x16 : List AOper := [
  Bi 56 .lss 55 54]
def f379x17 : List AOper := [
  Ia 57 9 53 55,
  Ls 58 9 57,
  Op 10 (.alloc (.agg [.int .i64 0, .int .u32 0, .int .i64 0, .int .u32 0, .int .u32 0, .int .i64 0, .int .i64 0, .int .i64 0, .int .i64 0])),
  St 9 10 58]
def f379x18 : List AOper := [
  Mv 59 6,
  Fa 60 3 10,
  Ld 61 60,
  Op 62 (.mlook false [.int] (.bool false) (.t 59) (.t 61))]
def f379x19 : List AOper := [
  Mc 2 (.int .i64 7)]
def f379x20 : List AOper := [
  Mv 63 6,
  Fa 64 3 10,
  Ld 65 64,
  ⟨none, .mset false [.int] (.t 63) (.t 65) (.c (.bool true)), none, []⟩]
def f379x21 : List AOper := [
  Bc 66 .add 55 1,
  Mv 55 66]
def f379x22L : ACode := (.seq (.region f379x16 false) (.seq (.cond (.t 56) .skip (.exit 4)) (.seq (.block 5 (.seq (.region f379x17 false) (.seq (.seq (.region f379x18 false) (.cond (.t 62) (.seq (.region f379x19 false) .ret) .skip)) (.region f379x20 false)))) (.region f379x21 false))))
def f379x23 : List AOper := [
  Bc 67 .add 47 1,
  Mv 47 67]
def f379x24L : ACode := (.seq (.region f379x13 false) (.seq (.cond (.t 48) .skip (.exit 2)) (.seq (.block 3 (.seq (.region f379x14 false) (.seq (.region f379x15 false) (.block 4 (.loop f379x22L))))) (.region f379x23 false))))
def f379x25 : List AOper := [
  Op 68 (.mkmap),
  Mv 11 68]
def f379x26 : List AOper := [
  Fa 69 1 1,
  Ld 70 69,
  Ln 71 0 70,
  Mc 72 (.int .i64 0)]
def f379x27 : List AOper := [
  Bi 73 .lss 72 71]
def f379x28 : List AOper := [
  Ia 74 2 70 72,
  Ls 75 2 74,
  Op 13 (.alloc (.agg [.con (.slice none 0 0), .int .i64 0])),
  St 2 13 75]
def f379x29 : List AOper := [
  Ls 76 2 1,
  Ls 77 2 13,
  Mv 78 11,
  Ct 79 397 [76, 77, 78],
  Mv 14 79]
def f379x30 : List AOper := [
  Mv 80 14,
  Bc 81 .neq 80 0]
def f379x31 : List AOper := [
  Mv 82 14,
  Mv 2 82]
def f379x32 : List AOper := [
  Bc 83 .add 72 1,
  Mv 72 83]
def f379x33L : ACode := (.seq (.region f379x27 false) (.seq (.cond (.t 73) .skip (.exit 6)) (.seq (.block 7 (.seq (.region f379x28 false) (.seq (.region f379x29 false) (.seq (.region f379x30 false) (.cond (.t 81) (.seq (.region f379x31 false) .ret) .skip))))) (.region f379x32 false))))
def f379x34 : List AOper := [
  Mc 2 (.int .i64 0)]
def f379 : AFunc := ⟨84, 1, false, [.t 2], (.seq (.region f379x0 false) (.seq (.seq (.region f379x1 false) (.cond (.t 24) (.seq (.region f379x2 false) .ret) .skip)) (.seq (.seq (.region f379x3 false) (.block 0 (.loop f379x10L))) (.seq (.region f379x11 false) (.seq (.seq (.region f379x12 false) (.block 2 (.loop f379x24L))) (.seq (.region f379x25 false) (.seq (.seq (.region f379x26 false) (.block 6 (.loop f379x33L))) (.seq (.region f379x34 false) .ret))))))))⟩
def f435x0 : List AOper := [
  Op 1 (.box (.t 0)),
  Mc 2 (.int .i64 0)]
def f435x1 : List AOper := [
  Fa 14 0 1,
  Ld 15 14,
  Ln 16 0 15,
  Fa 17 1 1,
  Ld 18 17,
  Ln 19 0 18,
  Bi 20 .add 16 19,
  Fa 21 2 1,
  Ld 22 21,
  Ln 23 0 22,
  Bi 24 .add 20 23,
  Fa 25 3 1,
  Ld 26 25,
  Ln 27 0 26,
  Bi 28 .add 24 27,
  Mv 3 28]
def f435x2 : List AOper := [
  Fa 29 0 1,
  Ld 30 29,
  Ln 31 0 30,
  Mc 32 (.int .i64 0)]
def f435x3 : List AOper := [
  Bi 33 .lss 32 31]
def f435x4 : List AOper := [
  Ia 34 2 30 32,
  Ls 35 2 34,
  Op 5 (.alloc (.agg [.str [], .con (.slice none 0 0)])),
  St 2 5 35]
def f435x5 : List AOper := [
  Mv 36 3,
  Fa 37 1 5,
  Ld 38 37,
  Ln 39 0 38,
  Bi 40 .add 36 39,
  Mv 3 40]
def f435x6 : List AOper := [
  Bc 41 .add 32 1,
  Mv 32 41]
def f435x7L : ACode := (.seq (.region f435x3 false) (.seq (.cond (.t 33) .skip (.exit 0)) (.seq (.block 1 (.seq (.region f435x4 false) (.region f435x5 false))) (.region f435x6 false))))
def f435x8 : List AOper := [
  Fa 42 1 1,
  Ld 43 42,
  Ln 44 0 43,
  Mc 45 (.int .i64 0)]
def f435x9 : List AOper := [
  Bi 46 .lss 45 44]
def f435x10 : List AOper := [
  Ia 47 2 43 45,
  Ls 48 2 47,
  Op 7 (.alloc (.agg [.str [], .con (.slice none 0 0)])),
  St 2 7 48]
def f435x11 : List AOper := [
  Mv 49 3,
  Fa 50 1 7,
  Ld 51 50,
  Ln 52 0 51,
  Bi 53 .add 49 52,
  Mv 3 53]
def f435x12 : List AOper := [
  Bc 54 .add 45 1,
  Mv 45 54]
def f435x13L : ACode := (.seq (.region f435x9 false) (.seq (.cond (.t 46) .skip (.exit 2)) (.seq (.block 3 (.seq (.region f435x10 false) (.region f435x11 false))) (.region f435x12 false))))
def f435x14 : List AOper := [
  Fa 55 2 1,
  Ld 56 55,
  Ln 57 0 56,
  Mc 58 (.int .i64 0)]
def f435x15 : List AOper := [
  Bi 59 .lss 58 57]
def f435x16 : List AOper := [
  Ia 60 2 56 58,
  Ls 61 2 60,
  Op 9 (.alloc (.agg [.str [], .con (.slice none 0 0)])),
  St 2 9 61]
def f435x17 : List AOper := [
  Mv 62 3,
  Fa 63 1 9,
  Ld 64 63,
  Ln 65 0 64,
  Bi 66 .add 62 65,
  Mv 3 66]
def f435x18 : List AOper := [
  Bc 67 .add 58 1,
  Mv 58 67]
def f435x19L : ACode := (.seq (.region f435x15 false) (.seq (.cond (.t 59) .skip (.exit 4)) (.seq (.block 5 (.seq (.region f435x16 false) (.region f435x17 false))) (.region f435x18 false))))
def f435x20 : List AOper := [
  Fa 68 3 1,
  Ld 69 68,
  Ln 70 0 69,
  Mc 71 (.int .i64 0)]
def f435x21 : List AOper := [
  Bi 72 .lss 71 70]
def f435x22 : List AOper := [
  Ia 73 3 69 71,
  Ls 74 3 73,
  Op 11 (.alloc (.agg [.str [], .con (.slice none 0 0), .int .i64 0])),
  St 3 11 74]
def f435x23 : List AOper := [
  Mv 75 3,
  Fa 76 1 11,
  Ld 77 76,
  Ln 78 0 77,
  Bi 79 .add 75 78,
  Mv 3 79]
def f435x24 : List AOper := [
  Fa 80 1 11,
  Ld 81 80,
  Ln 82 0 81,
  Mc 83 (.int .i64 0)]
def f435x25 : List AOper := [
  Bi 84 .lss 83 82]
def f435x26 : List AOper := [
  Ia 85 4 81 83,
  Ls 86 4 85,
  Op 13 (.alloc (.agg [.str [], .con (.slice none 0 0), .con (.slice none 0 0), .int .i64 0])),
  St 4 13 86]
def f435x27 : List AOper := [
  Mv 87 3,
  Fa 88 1 13,
  Ld 89 88,
  Ln 90 0 89,
  Fa 91 2 13,
  Ld 92 91,
  Ln 93 0 92,
  Bi 94 .add 90 93,
  Bi 95 .add 87 94,
  Mv 3 95]
def f435x28 : List AOper := [
  Bc 96 .add 83 1,
  Mv 83 96]
def f435x29L : ACode := (.seq (.region f435x25 false) (.seq (.cond (.t 84) .skip (.exit 8)) (.seq (.block 9 (.seq (.region f435x26 false) (.region f435x27 false))) (.region f435x28 false))))
def f435x30 : List AOper := [
  Bc 97 .add 71 1,
  Mv 71 97]
def f435x31L : ACode := (.seq (.region f435x21 false) (.seq (.cond (.t 72) .skip (.exit 6)) (.seq (.block 7 (.seq (.region f435x22 false) (.seq (.region f435x23 false) (.seq (.region f435x24 false) (.block 8 (.loop f435x29L)))))) (.region f435x30 false))))
def f435x32 : List AOper := [
  Mv 98 3,
  Mv 2 98]
def f435 : AFunc := ⟨99, 1, false, [.t 2], (.seq (.region f435x0 false) (.seq (.region f435x1 false) (.seq (.seq (.region f435x2 false) (.block 0 (.loop f435x7L))) (.seq (.seq (.region f435x8 false) (.block 2 (.loop f435x13L))) (.seq (.seq (.region f435x14 false) (.block 4 (.loop f435x19L))) (.seq (.seq (.region f435x20 false) (.block 6 (.loop f435x31L))) (.seq (.region f435x32 false) .ret)))))))⟩
def f435x7LH : List AItem := [.inLoop f435x7L, .inBlock 0, .code (.seq (.seq (.region f435x8 false) (.block 2 (.loop f435x13L))) (.seq (.seq (.region f435x14 false) (.block 4 (.loop f435x19L))) (.seq (.seq (.region f435x20 false) (.block 6 (.loop f435x31L))) (.seq (.region f435x32 false) .ret))))]
def f435x13LH : List AItem := [.inLoop f435x13L, .inBlock 2, .code (.seq (.seq (.region f435x14 false) (.block 4 (.loop f435x19L))) (.seq (.seq (.region f435x20 false) (.block 6 (.loop f435x31L))) (.seq (.region f435x32 false) .ret)))]
def f435x19LH : List AItem := [.inLoop f435x19L, .inBlock 4, .code (.seq (.seq (.region f435x20 false) (.block 6 (.loop f435x31L))) (.seq (.region f435x32 false) .ret))]
def f435x31LH : List AItem := [.inLoop f435x31L, .inBlock 6, .code (.seq (.region f435x32 false) .ret)]
def f435x29LH : List AItem := [.inLoop f435x29L, .inBlock 8, .inBlock 7, .code (.region f435x30 false), .inLoop f435x31L, .inBlock 6, .code (.seq (.region f435x32 false) .ret)]
def f416x0 : List AOper := [
  Mc 2 (.con (.slice none 0 0)),
  Mc 3 (.bool false)]
def f416x1 : List AOper := [
  Mc 4 (.con (.slice none 0 0))]
def f416x2 : List AOper := [
  Mc 5 (.int .i64 0)]
def f416x3 : List AOper := [
  Mv 7 0,
  Ln 8 1 7,
  Mc 9 (.int .i64 0)]
def f416x4 : List AOper := [
  Bi 10 .lss 9 8]
def f416x5 : List AOper := [
  Mv 11 9,
  Mv 6 11]
def f416x6 : List AOper := [
  Mv 12 0,
  Mv 13 6,
  Op 14 (.istr (.t 12) (.t 13)),
  Op 15 (.bin .eql (.t 14) (.c (.int .u8 10)))]
def f416x7 : List AOper := [
  Mv 16 4,
  Mv 17 0,
  Mv 18 5,
  Mv 19 6,
  Op 20 (.slstr (.t 17) (some (.t 18)) (some (.t 19))),
  Op 21 (.bsl 1 [.str []] 1 [0] [(.t 20)]),
  Ap 22 1 16 16 21,
  Mv 4 22]
def f416x8 : List AOper := [
  Mv 23 6,
  Bc 24 .add 23 1,
  Mv 5 24]
def f416x9 : List AOper := [
  Bc 25 .add 9 1,
  Mv 9 25]
def f416x10L : ACode := (.seq (.region f416x4 false) (.seq (.cond (.t 10) .skip (.exit 0)) (.seq (.block 1 (.seq (.region f416x5 false) (.seq (.region f416x6 false) (.cond (.t 15) (.seq (.region f416x7 false) (.region f416x8 false)) .skip)))) (.region f416x9 false))))
def f416x11 : List AOper := [
  Mv 26 5,
  Mv 27 0,
  Ln 28 1 27,
  Bi 29 .lss 26 28]
def f416x12 : List AOper := [
  Mv 30 4,
  Mv 31 0,
  Mv 32 5,
  Op 33 (.slstr (.t 31) (some (.t 32)) none),
  Op 34 (.bsl 1 [.str []] 1 [0] [(.t 33)]),
  Ap 35 1 16 30 34,
  Mv 2 35,
  Mc 3 (.bool false)]
def f416x13 : List AOper := [
  Mv 36 4,
  Mv 2 36,
  Mc 3 (.bool true)]
def f416 : AFunc := ⟨37, 1, false, [.t 2, .t 3], (.seq (.region f416x0 false) (.seq (.region f416x1 false) (.seq (.region f416x2 false) (.seq (.seq (.region f416x3 false) (.block 0 (.loop f416x10L))) (.seq (.seq (.region f416x11 false) (.cond (.t 29) (.seq (.region f416x12 false) .ret) .skip)) (.seq (.region f416x13 false) .ret))))))⟩
def f417x0 : List AOper := [
  Mc 4 (.int .i64 0),
  Mc 5 (.int .i64 0)]
def f417x1 : List AOper := [
  Mv 19 1,
  Ct 20 339 [19],
  Mv 18 20,
  Ex 21 18 0,
  Ex 22 18 1,
  Mv 6 21,
  Mv 7 22]
def f417x2 : List AOper := [
  Mv 23 7,
  Bc 24 .neq 23 0,
  Mv 25 24,
  Gf 25 (Mv 26 6),
  Gf 25 (Ln 27 0 26),
  Gf 25 (Bc 28 .eql 27 0),
  Po 29 25 28,
  Mv 30 29,
  Gf 30 (Mv 31 0),
  Gf 30 (Mv 32 6),
  Gf 30 (Op 33 (.iadr 1 (.t 32) (.c (.int .i64 0)))),
  Gf 30 (Ld 34 33),
  Gf 30 (Ct 35 460 [31, 34]),
  Gf 30 (Un 36 .not 35),
  Po 37 30 36]
def f417x3 : List AOper := [
  Mc 4 (.int .i64 0),
  Mc 5 (.int .i64 2)]
def f417x4 : List AOper := [
  Mv 38 6,
  Op 39 (.iadr 1 (.t 38) (.c (.int .i64 0))),
  Ld 40 39,
  Mv 8 40]
def f417x5 : List AOper := [
  Mv 41 6,
  Op 42 (.slc 1 (.t 41) (some (.c (.int .i64 1))) none none),
  Op 43 (.build [.con (.slice none 0 0), .bool false] [(0, 1)] [(.t 42)]),
  Op 44 (.box (.t 43)),
  Mv 9 44]
def f417x6 : List AOper := [
  Mv 45 8,
  Op 46 (.bin .eql (.t 45) (.c (.str [108, 105, 110, 107])))]
def f417x7 : List AOper := [
  Mv 47 0,
  Nc 48 47,
  Fa 49 2 48,
  ⟨none, .store 1 (.t 49) (.c (.int .i64 100)), none, []⟩]
def f417x8 : List AOper := [
  Mv 50 0,
  Mv 51 9,
  Ct 52 461 [50, 51],
  Mc 4 (.int .i64 0),
  Mv 5 52]
def f417x9 : List AOper := [
  Mv 54 8,
  Ct 55 462 [54],
  Mv 53 55,
  Ex 56 53 0,
  Ex 57 53 1,
  Mv 10 56,
  Mv 11 57]
def f417x10 : List AOper := [
  Mc 12 (.int .i64 0)]
def f417x11 : List AOper := [
  Mv 63 8,
  Op 64 (.bin .eql (.t 63) (.c (.str [112, 111, 108, 105, 99, 105, 101, 115]))),
  Mv 62 64]
def f417x12 : List AOper := [
  Mv 66 9,
  Ct 67 463 [66],
  Mv 65 67,
  Ex 68 65 0,
  Ex 69 65 1,
  Ex 70 65 2,
  Ex 71 65 3,
  Ex 72 65 4,
  Mv 13 68,
  Mv 14 69,
  Mv 15 70,
  Mv 16 71,
  Mv 17 72]
def f417x13 : List AOper := [
  Mv 73 13,
  Op 74 (.call (.t 73) [(.c (.int .i64 1099511627776))]),
  Mv 12 74]
def f417x14 : List AOper := [
  Mv 75 9,
  Mv 76 9,
  Nc 77 76,
  Fa 78 1 77,
  Ld 79 78,
  Mv 80 79,
  Gf 80 (Mv 81 12),
  Gf 80 (Bc 82 .eql 81 0),
  Po 83 80 82,
  Nc 84 75,
  Fa 85 1 84,
  St 1 85 83]
def f417x15 : List AOper := [
  Mv 87 10,
  Bc 88 .geq 87 8,
  Mv 86 88]
def f417x16 : List AOper := [
  Mv 89 0,
  Mv 90 8,
  Mv 91 9,
  Ct 92 464 [89, 90, 91]]
def f417x17 : List AOper := [
  Mv 58 0,
  Mv 59 8,
  Mv 60 9,
  Ct 61 465 [58, 59, 60]]
def f417x18 : List AOper := [
  Mv 93 0,
  Mv 94 10,
  Nc 95 93,
  Fa 96 2 95,
  St 1 96 94]
def f417x19 : List AOper := [
  Mv 97 9,
  Nc 98 97,
  Fa 99 1 98,
  Ld 100 99,
  Mv 101 100,
  Gf 101 (Mv 102 9),
  Gf 101 (Nc 103 102),
  Gf 101 (Fa 104 0 103),
  Gf 101 (Ld 105 104),
  Gf 101 (Ln 106 0 105),
  Gf 101 (Bc 107 .gtr 106 0),
  Po 108 101 107]
def f417x20 : List AOper := [
  Mc 4 (.int .i64 0),
  Mc 5 (.int .i64 2)]
def f417x21 : List AOper := [
  Mv 109 12,
  Mv 4 109,
  Mc 5 (.int .i64 0)]
def f417 : AFunc := ⟨110, 2, false, [.t 4, .t 5], (.seq (.region f417x0 false) (.seq (.region f417x1 false) (.seq (.seq (.region f417x2 false) (.cond (.t 37) (.seq (.region f417x3 false) .ret) .skip)) (.seq (.region f417x4 false) (.seq (.region f417x5 false) (.seq (.seq (.region f417x6 false) (.cond (.t 46) (.seq (.region f417x7 false) (.seq (.region f417x8 false) .ret)) .skip)) (.seq (.region f417x9 false) (.seq (.region f417x10 false) (.seq (.block 0 (.seq (.region f417x11 false) (.cond (.t 62) (.seq (.region f417x12 false) (.seq (.region f417x13 false) (.region f417x14 false))) (.seq (.region f417x15 false) (.cond (.t 86) (.region f417x16 false) (.region f417x17 false)))))) (.seq (.region f417x18 false) (.seq (.seq (.region f417x19 false) (.cond (.t 108) (.seq (.region f417x20 false) .ret) .skip)) (.seq (.region f417x21 false) .ret))))))))))))⟩
def f418x0 : List AOper := [
  Op 2 (.alloc (.agg [.con (.slice none 0 0), .con (.slice none 0 0), .con (.slice none 0 0), .con (.slice none 0 0)])),
  Mc 3 (.int .i64 0),
  Mc 4 (.int .i64 0)]
def f418x1 : List AOper := [
  Mv 10 0,
  Ln 11 1 10,
  Bc 12 .gtr 11 65536]
def f418x2 : List AOper := [
  Op 13 (.build [.con (.slice none 0 0), .con (.slice none 0 0), .con (.slice none 0 0), .con (.slice none 0 0)] [] []),
  St 4 2 13,
  Mc 3 (.int .i64 0),
  Mc 4 (.int .i64 4)]
def f418x3 : List AOper := [
  Op 14 (.build [.con (.slice none 0 0), .con (.slice none 0 0), .con (.slice none 0 0), .con (.slice none 0 0), .con (.slice none 0 0), .con (.slice none 0 0), .con (.slice none 0 0), .con (.slice none 0 0), .int .i64 0, .bool false, .bool false] [] []),
  Op 15 (.box (.t 14)),
  Mv 5 15]
def f418x4 : List AOper := [
  Mc 6 (.int .i64 0),
  Mc 7 (.int .i64 0)]
def f418x5 : List AOper := [
  Mv 16 0,
  Ln 17 1 16,
  Mc 18 (.int .i64 0)]
def f418x6 : List AOper := [
  Bi 19 .lss 18 17]
def f418x7 : List AOper := [
  Mv 20 18,
  Mv 8 20]
def f418x8 : List AOper := [
  Mv 21 0,
  Mv 22 8,
  Op 23 (.istr (.t 21) (.t 22)),
  Op 24 (.bin .neq (.t 23) (.c (.int .u8 10)))]
def f418x9 : List AOper := [
  Mv 25 7,
  Bc 26 .add 25 1,
  Mv 7 26]
def f418x10 : List AOper := [
  Mv 27 5,
  Mv 28 0,
  Mv 29 6,
  Mv 30 8,
  Op 31 (.slstr (.t 28) (some (.t 29)) (some (.t 30))),
  Ct 32 466 [27, 31],
  Mv 9 32]
def f418x11 : List AOper := [
  Mv 33 9,
  Bc 34 .neq 33 0]
def f418x12 : List AOper := [
  Op 35 (.build [.con (.slice none 0 0), .con (.slice none 0 0), .con (.slice none 0 0), .con (.slice none 0 0)] [] []),
  Mv 36 7,
  Mv 37 9,
  St 4 2 35,
  Mv 3 36,
  Mv 4 37]
def f418x13 : List AOper := [
  Mv 38 8,
  Bc 39 .add 38 1,
  Mv 6 39]
def f418x14 : List AOper := [
  Bc 40 .add 18 1,
  Mv 18 40]
def f418x15L : ACode := (.seq (.region f418x6 false) (.seq (.cond (.t 19) .skip (.exit 0)) (.seq (.block 1 (.seq (.region f418x7 false) (.seq (.seq (.region f418x8 false) (.cond (.t 24) (.exit 1) .skip)) (.seq (.region f418x9 false) (.seq (.seq (.region f418x10 false) (.seq (.region f418x11 false) (.cond (.t 34) (.seq (.region f418x12 false) .ret) .skip))) (.region f418x13 false)))))) (.region f418x14 false))))
def f418x16 : List AOper := [
  Mv 42 6,
  Mv 43 0,
  Ln 44 1 43,
  Bi 45 .lss 42 44,
  Mv 41 45]
def f418x17 : List AOper := [
  Op 46 (.build [.con (.slice none 0 0), .con (.slice none 0 0), .con (.slice none 0 0), .con (.slice none 0 0)] [] []),
  Mv 47 7,
  Bc 48 .add 47 1,
  St 4 2 46,
  Mv 3 48,
  Mc 4 (.int .i64 2)]
def f418x18 : List AOper := [
  Mv 50 5,
  Nc 51 50,
  Fa 52 9 51,
  Ld 53 52,
  Mv 49 53]
def f418x19 : List AOper := [
  Op 54 (.build [.con (.slice none 0 0), .con (.slice none 0 0), .con (.slice none 0 0), .con (.slice none 0 0)] [] []),
  Mv 55 7,
  Bc 56 .add 55 1,
  St 4 2 54,
  Mv 3 56,
  Mc 4 (.int .i64 3)]
def f418x20 : List AOper := [
  Mv 57 5,
  Nc 58 57,
  Fa 59 0 58,
  Ls 60 4 59,
  St 4 2 60,
  Mc 3 (.int .i64 0),
  Mc 4 (.int .i64 0)]
def f418 : AFunc := ⟨61, 1, false, [.cell 2 (some 4), .t 3, .t 4], (.seq (.region f418x0 false) (.seq (.seq (.region f418x1 false) (.cond (.t 12) (.seq (.region f418x2 false) .ret) .skip)) (.seq (.region f418x3 false) (.seq (.region f418x4 false) (.seq (.seq (.region f418x5 false) (.block 0 (.loop f418x15L))) (.seq (.block 2 (.seq (.region f418x16 false) (.cond (.t 41) (.seq (.region f418x17 false) .ret) (.seq (.region f418x18 false) (.cond (.t 49) (.seq (.region f418x19 false) .ret) .skip))))) (.seq (.region f418x20 false) .ret)))))))⟩
def f419x0 : List AOper := [
  Mc 2 (.con (.pointer none))]
def f419x1 : List AOper := [
  Mv 3 0,
  Nc 4 3,
  Fa 5 0 4,
  Fa 6 0 5,
  Ld 7 6,
  Mv 8 0,
  Nc 9 8,
  Fa 10 0 9,
  Fa 11 0 10,
  Ld 12 11,
  Af [9] (Ln 13 0 12),
  Bc 14 .sub 13 1,
  Af [4, 10, 9] (Ia 15 25 7 14),
  Mv 2 15]
def f419 : AFunc := ⟨16, 1, false, [.t 2], (.seq (.region f419x0 false) (.seq (.region f419x1 true) .ret))⟩
def f402x0 : List AOper := [
  Op 3 (.box (.t 1))]
def f402x1 : List AOper := [
  Ct 11 448 [],
  Mv 10 11,
  Ex 12 10 0,
  Ex 13 10 1,
  Op 4 (.alloc (.agg [.str [], .str [], .str [], .str []])),
  Op 5 (.alloc (.agg [.str [], .str [], .str [], .str []])),
  St 4 4 12,
  St 4 5 13]
def f402x2 : List AOper := [
  Mv 14 0,
  Fa 15 0 3,
  Ld 16 15,
  Op 17 (.bsl 1 [.str []] 2 [0, 1] [(.c (.str [114, 111, 117, 116, 101, 114])), (.t 16)]),
  Fa 18 1 3,
  Fa 19 0 18,
  Ld 20 19,
  Cv 21 .i64 20,
  Op 22 (.bsl 1 [.int .i64 0] 1 [0] [(.t 21)]),
  Ct 23 408 [17, 22],
  Ct 24 406 [14, 23]]
def f402x3 : List AOper := [
  Fa 25 1 3,
  Fa 26 1 25,
  Ld 27 26,
  Ln 28 0 27,
  Mc 29 (.int .i64 0)]
def f402x4 : List AOper := [
  Bi 30 .lss 29 28]
def f402x5 : List AOper := [
  Ia 31 9 27 29,
  Ls 32 9 31,
  Op 7 (.alloc (.agg [.int .i64 0, .int .u32 0, .int .i64 0, .int .u32 0, .int .u32 0, .int .i64 0, .int .i64 0, .int .i64 0, .int .i64 0])),
  St 9 7 32]
def f402x6 : List AOper := [
  Mv 33 0,
  Fa 34 0 7,
  Ld 35 34,
  Op 36 (.iarr 4 1 (.t 4) (.t 35)),
  Af [2] (Ld 37 36),
  Fa 38 1 7,
  Ls 39 2 38,
  Af [6] (Ct 40 229 [39]),
  Fa 41 3 7,
  Ld 42 41,
  Af [9, 7, 6] (Ct 43 227 [42]),
  Af [4, 10, 2, 9, 7, 6] (Op 44 (.bsl 1 [.str []] 4 [0, 1, 2, 3] [(.c (.str [105, 102, 97, 99, 101])), (.t 37), (.t 40), (.t 43)])),
  Fa 45 4 7,
  Ld 46 45,
  Cv 47 .i64 46,
  Fa 48 5 7,
  Ld 49 48,
  Fa 50 6 7,
  Ld 51 50,
  Fa 52 7 7,
  Ld 53 52,
  Fa 54 8 7,
  Ld 55 54,
  Af [16, 18, 20, 22, 13] (Op 56 (.bsl 1 [.int .i64 0] 5 [0, 1, 2, 3, 4] [(.t 47), (.t 49), (.t 51), (.t 53), (.t 55)])),
  Af [11, 23, 4, 10, 2, 16, 18, 20, 22, 13, 9, 7, 6] (Ct 57 408 [44, 56]),
  Af [24, 11, 23, 4, 10, 2, 16, 18, 20, 22, 13, 9, 7, 6] (Ct 58 406 [33, 57])]
def f402x7 : List AOper := [
  Bc 59 .add 29 1,
  Mv 29 59]
def f402x8L : ACode := (.seq (.region f402x4 false) (.seq (.cond (.t 30) .skip (.exit 0)) (.seq (.block 1 (.seq (.region f402x5 false) (.region f402x6 true))) (.region f402x7 false))))
def f402x9 : List AOper := [
  Fa 60 1 3,
  Fa 61 2 60,
  Ld 62 61,
  Ln 63 0 62,
  Mc 64 (.int .i64 0)]
def f402x10 : List AOper := [
  Bi 65 .lss 64 63]
def f402x11 : List AOper := [
  Ia 66 4 62 64,
  Ls 67 4 66,
  Op 9 (.alloc (.agg [.int .u32 0, .int .u32 0, .int .i64 0, .bool false])),
  St 4 9 67]
def f402x12 : List AOper := [
  Mv 68 0,
  Fa 69 0 9,
  Ld 70 69,
  Cv 71 .i64 70,
  Af [2] (Ct 72 337 [71]),
  Fa 73 1 9,
  Ls 74 2 73,
  Af [6, 4, 2] (Ct 75 229 [74]),
  Fa 76 3 9,
  Ld 77 76,
  Af [9, 7, 6, 4, 2] (Ct 78 449 [77]),
  Af [10, 9, 7, 6, 4, 2] (Op 79 (.bsl 1 [.str []] 4 [0, 1, 2, 3] [(.c (.str [114, 97, 110, 103, 101])), (.t 72), (.t 75), (.t 78)])),
  Af [11, 10, 9, 7, 6, 4, 2] (Ct 80 406 [68, 79])]
def f402x13 : List AOper := [
  Bc 81 .add 64 1,
  Mv 64 81]
def f402x14L : ACode := (.seq (.region f402x10 false) (.seq (.cond (.t 65) .skip (.exit 2)) (.seq (.block 3 (.seq (.region f402x11 false) (.region f402x12 true))) (.region f402x13 false))))
def f402 : AFunc := ⟨82, 2, false, [], (.seq (.region f402x0 false) (.seq (.region f402x1 false) (.seq (.region f402x2 false) (.seq (.seq (.region f402x3 false) (.block 0 (.loop f402x8L))) (.seq (.region f402x9 false) (.block 2 (.loop f402x14L)))))))⟩
def f403x0 : List AOper := [
  Op 3 (.box (.t 1))]
def f403x1 : List AOper := [
  Fa 9 20 3,
  Ld 10 9]
def f403x2 : List AOper := [
  Mv 11 0,
  Op 12 (.bsl 1 [.str []] 1 [0] [(.c (.str [108, 97, 98, 101, 108, 115]))]),
  Ct 13 406 [11, 12]]
def f403x3 : List AOper := [
  Fa 14 21 3,
  Ld 15 14]
def f403x4 : List AOper := [
  Mv 16 0,
  Op 17 (.bsl 1 [.str []] 1 [0] [(.c (.str [114, 101, 114, 111, 117, 116, 101]))]),
  Ct 18 406 [16, 17]]
def f403x5 : List AOper := [
  Fa 19 24 3,
  Ld 20 19,
  Ln 21 0 20,
  Bc 22 .gtr 21 0]
def f403x6 : List AOper := [
  Mv 23 0,
  Op 24 (.bsl 1 [.str []] 1 [0] [(.c (.str [100, 105, 115, 116, 97, 110, 99, 101, 115]))]),
  Fa 25 24 3,
  Ld 26 25,
  Ct 27 408 [24, 26],
  Ct 28 406 [23, 27]]
def f403x7 : List AOper := [
  Fa 29 23 3,
  Ld 30 29,
  Ln 31 0 30,
  Mc 32 (.int .i64 0)]
def f403x8 : List AOper := [
  Bi 33 .lss 32 31]
def f403x9 : List AOper := [
  Ia 34 4 30 32,
  Ls 35 4 34,
  Op 5 (.alloc (.agg [.int .u32 0, .int .i64 0, .int .u32 0, .int .i64 0])),
  St 4 5 35]
def f403x10 : List AOper := [
  Mc 6 (.str [46])]
def f403x11 : List AOper := [
  Fa 36 2 5,
  Ld 37 36,
  Op 38 (.bin .neq (.t 37) (.c (.int .u32 0)))]
def f403x12 : List AOper := [
  Fa 39 2 5,
  Ld 40 39,
  Ct 41 227 [40],
  Mv 6 41]
def f403x13 : List AOper := [
  Mv 42 0,
  Fa 43 0 5,
  Ls 44 2 43,
  Af [2] (Ct 45 229 [44]),
  Mv 46 6,
  Fa 47 3 5,
  Ld 48 47,
  Af [6, 3, 2] (Ct 49 337 [48]),
  Af [7, 6, 3, 2] (Op 50 (.bsl 1 [.str []] 4 [0, 1, 2, 3] [(.c (.str [115, 116, 97, 116, 105, 99])), (.t 45), (.t 46), (.t 49)])),
  Af [8, 7, 6, 3, 2] (Ct 51 406 [42, 50])]
def f403x14 : List AOper := [
  Bc 52 .add 32 1,
  Mv 32 52]
def f403x15L : ACode := (.seq (.region f403x8 false) (.seq (.cond (.t 33) .skip (.exit 0)) (.seq (.block 1 (.seq (.region f403x9 false) (.seq (.region f403x10 false) (.seq (.seq (.region f403x11 false) (.cond (.t 38) (.region f403x12 false) .skip)) (.region f403x13 true))))) (.region f403x14 false))))
def f403x16 : List AOper := [
  Fa 53 22 3,
  Ld 54 53,
  Ln 55 0 54,
  Mc 56 (.int .i64 0)]
def f403x17 : List AOper := [
  Bi 57 .lss 56 55]
def f403x18 : List AOper := [
  Ia 58 5 54 56,
  Ls 59 5 58,
  Op 8 (.alloc (.agg [.int .i64 0, .int .i64 0, .str [], .int .i64 0, .bool false])),
  St 5 8 59]
def f403x19 : List AOper := [
  Mv 60 0,
  Fa 61 0 8,
  Ld 62 61,
  Af [2] (Ct 63 337 [62]),
  Fa 64 1 8,
  Ld 65 64,
  Af [5, 3, 2] (Ct 66 337 [65]),
  Fa 67 2 8,
  Ld 68 67,
  Af [8, 6, 5, 3, 2] (Ct 69 450 [68]),
  Fa 70 3 8,
  Ld 71 70,
  Af [11, 9, 8, 6, 5, 3, 2] (Ct 72 337 [71]),
  Fa 73 4 8,
  Ld 74 73,
  Af [14, 12, 11, 9, 8, 6, 5, 3, 2] (Ct 75 449 [74]),
  Af [15, 14, 12, 11, 9, 8, 6, 5, 3, 2] (Op 76 (.bsl 1 [.str []] 6 [0, 1, 2, 3, 4, 5] [(.c (.str [114, 101, 100, 105, 115, 116, 114, 105, 98, 117, 116, 101])), (.t 63), (.t 66), (.t 69), (.t 72), (.t 75)])),
  Af [16, 15, 14, 12, 11, 9, 8, 6, 5, 3, 2] (Ct 77 406 [60, 76])]
def f403x20 : List AOper := [
  Bc 78 .add 56 1,
  Mv 56 78]
def f403x21L : ACode := (.seq (.region f403x17 false) (.seq (.cond (.t 57) .skip (.exit 2)) (.seq (.block 3 (.seq (.region f403x18 false) (.region f403x19 true))) (.region f403x20 false))))
def f403 : AFunc := ⟨79, 2, false, [], (.seq (.region f403x0 false) (.seq (.seq (.region f403x1 false) (.cond (.t 10) (.region f403x2 false) .skip)) (.seq (.seq (.region f403x3 false) (.cond (.t 15) (.region f403x4 false) .skip)) (.seq (.seq (.region f403x5 false) (.cond (.t 22) (.region f403x6 false) .skip)) (.seq (.seq (.region f403x7 false) (.block 0 (.loop f403x15L))) (.seq (.region f403x16 false) (.block 2 (.loop f403x21L))))))))⟩
def f404x0 : List AOper := [
  Op 3 (.box (.t 1))]
def f404x1 : List AOper := [
  Ct 11 448 [],
  Mv 10 11,
  Ex 12 10 0,
  Ex 13 10 1,
  Op 4 (.alloc (.agg [.str [], .str [], .str [], .str []])),
  Op 5 (.alloc (.agg [.str [], .str [], .str [], .str []])),
  St 4 4 12,
  St 4 5 13]
def f404x2 : List AOper := [
  Mv 14 0,
  Op 15 (.bsl 1 [.str []] 1 [0] [(.c (.str [115, 112, 101, 97, 107, 101, 114]))]),
  Fa 16 0 3,
  Ld 17 16,
  Fa 18 1 3,
  Ld 19 18,
  Fa 20 3 3,
  Ld 21 20,
  Cv 22 .i64 21,
  Fa 23 14 3,
  Ld 24 23,
  Op 25 (.bsl 1 [.int .i64 0] 4 [0, 1, 2, 3] [(.t 17), (.t 19), (.t 22), (.t 24)]),
  Ct 26 408 [15, 25],
  Ct 27 406 [14, 26]]
def f404x3 : List AOper := [
  Mv 28 0,
  Op 29 (.bsl 1 [.str []] 1 [0] [(.c (.str [100, 97, 109, 112, 105, 110, 103]))]),
  Fa 30 10 3,
  Fa 31 0 30,
  Ld 32 31,
  Fa 33 10 3,
  Fa 34 1 33,
  Ld 35 34,
  Fa 36 10 3,
  Fa 37 2 36,
  Ld 38 37,
  Fa 39 10 3,
  Fa 40 3 39,
  Ld 41 40,
  Op 42 (.bsl 1 [.int .i64 0] 4 [0, 1, 2, 3] [(.t 32), (.t 35), (.t 38), (.t 41)]),
  Ct 43 408 [29, 42],
  Ct 44 406 [28, 43]]
def f404x4 : List AOper := [
  Fa 45 4 3,
  Ld 46 45,
  Ln 47 0 46,
  Mc 48 (.int .i64 0)]
def f404x5 : List AOper := [
  Bi 49 .lss 48 47]
def f404x6 : List AOper := [
  Ia 50 11 46 48,
  Ls 51 11 50,
  Op 7 (.alloc (.agg [.int .i64 0, .int .i64 0, .int .u32 0, .int .u32 0, .bool false, .int .i64 0, .int .i64 0, .str [], .str [], .bool false, .bool false])),
  St 11 7 51]
def f404x7 : List AOper := [
  Mv 52 0,
  Fa 53 0 7,
  Ld 54 53,
  Op 55 (.iarr 4 1 (.t 5) (.t 54)),
  Af [2] (Ld 56 55),
  Fa 57 1 7,
  Ld 58 57,
  Af [6] (Ct 59 337 [58]),
  Fa 60 2 7,
  Ld 61 60,
  Af [9, 7, 6] (Ct 62 227 [61]),
  Fa 63 3 7,
  Ld 64 63,
  Af [12, 10, 9, 7, 6] (Ct 65 227 [64]),
  Fa 66 4 7,
  Ld 67 66,
  Af [15, 13, 12, 10, 9, 7, 6] (Ct 68 449 [67]),
  Fa 69 5 7,
  Ld 70 69,
  Af [18, 16, 15, 13, 12, 10, 9, 7, 6] (Ct 71 337 [70]),
  Fa 72 6 7,
  Ld 73 72,
  Af [21, 19, 18, 16, 15, 13, 12, 10, 9, 7, 6] (Ct 74 337 [73]),
  Fa 75 7 7,
  Ld 76 75,
  Af [24, 22, 21, 19, 18, 16, 15, 13, 12, 10, 9, 7, 6] (Ct 77 450 [76]),
  Fa 78 8 7,
  Ld 79 78,
  Af [27, 25, 24, 22, 21, 19, 18, 16, 15, 13, 12, 10, 9, 7, 6] (Ct 80 450 [79]),
  Fa 81 9 7,
  Ld 82 81,
  Af [30, 28, 27, 25, 24, 22, 21, 19, 18, 16, 15, 13, 12, 10, 9, 7, 6] (Ct 83 449 [82]),
  Fa 84 10 7,
  Ld 85 84,
  Af [33, 31, 30, 28, 27, 25, 24, 22, 21, 19, 18, 16, 15, 13, 12, 10, 9, 7, 6] (Ct 86 449 [85]),
  Af [4, 34, 2, 33, 31, 30, 28, 27, 25, 24, 22, 21, 19, 18, 16, 15, 13, 12, 10, 9, 7, 6] (Op 87 (.bsl 1 [.str []] 12 [0, 1, 2, 3, 4, 5, 6, 7, 8, 9, 10, 11] [(.c (.str [112, 101, 101, 114])), (.t 56), (.t 59), (.t 62), (.t 65), (.t 68), (.t 71), (.t 74), (.t 77), (.t 80), (.t 83), (.t 86)])),
  Af [35, 4, 34, 2, 33, 31, 30, 28, 27, 25, 24, 22, 21, 19, 18, 16, 15, 13, 12, 10, 9, 7, 6] (Ct 88 406 [52, 87])]
def f404x8 : List AOper := [
  Bc 89 .add 48 1,
  Mv 48 89]
def f404x9L : ACode := (.seq (.region f404x5 false) (.seq (.cond (.t 49) .skip (.exit 0)) (.seq (.block 1 (.seq (.region f404x6 false) (.region f404x7 true))) (.region f404x8 false))))
def f404x10 : List AOper := [
  Fa 90 5 3,
  Ld 91 90,
  Ln 92 0 91,
  Mc 93 (.int .i64 0)]
def f404x11 : List AOper := [
  Bi 94 .lss 93 92]
def f404x12 : List AOper := [
  Ia 95 2 91 93,
  Ls 96 2 95,
  Op 9 (.alloc (.agg [.int .u32 0, .int .i64 0])),
  St 2 9 96]
def f404x13 : List AOper := [
  Mv 97 0,
  Ls 98 2 9,
  Ct 99 229 [98],
  Op 100 (.bsl 1 [.str []] 2 [0, 1] [(.c (.str [110, 101, 116, 119, 111, 114, 107])), (.t 99)]),
  Ct 101 406 [97, 100]]
def f404x14 : List AOper := [
  Bc 102 .add 93 1,
  Mv 93 102]
def f404x15L : ACode := (.seq (.region f404x11 false) (.seq (.cond (.t 94) .skip (.exit 2)) (.seq (.block 3 (.seq (.region f404x12 false) (.region f404x13 false))) (.region f404x14 false))))
def f404 : AFunc := ⟨103, 2, false, [], (.seq (.region f404x0 false) (.seq (.region f404x1 false) (.seq (.region f404x2 false) (.seq (.region f404x3 false) (.seq (.seq (.region f404x4 false) (.block 0 (.loop f404x9L))) (.seq (.region f404x10 false) (.block 2 (.loop f404x15L))))))))⟩
def f405x0 : List AOper := [
  Op 1 (.box (.t 0)),
  Mc 2 (.str []),
  Mc 3 (.int .i64 0)]
def f405x1 : List AOper := [
  Ls 22 4 1,
  Ct 23 451 [22],
  Mv 4 23]
def f405x2 : List AOper := [
  Mv 24 4,
  Bc 25 .neq 24 0]
def f405x3 : List AOper := [
  Mv 26 4,
  Mc 2 (.str []),
  Mv 3 26]
def f405x4 : List AOper := [
  Mc 5 (.str [])]
def f405x5 : List AOper := [
  Fa 27 0 1,
  Ld 28 27,
  Ln 29 0 28,
  Mc 30 (.int .i64 0)]
def f405x6 : List AOper := [
  Bi 31 .lss 30 29]
def f405x7 : List AOper := [
  Ia 32 2 28 30,
  Ls 33 2 32,
  Op 7 (.alloc (.agg [.str [], .con (.slice none 0 0)])),
  St 2 7 33]
def f405x8 : List AOper := [
  Mv 34 5,
  Fa 35 0 7,
  Ld 36 35,
  Op 37 (.bin .add (.c (.str [112, 114, 101, 102, 105, 120, 45, 108, 105, 115, 116, 32])) (.t 36)),
  Op 38 (.bin .add (.t 37) (.c (.str [10]))),
  Bi 39 .add 34 38,
  Mv 5 39]
def f405x9 : List AOper := [
  Fa 40 1 7,
  Ld 41 40,
  Ln 42 0 41,
  Mc 43 (.int .i64 0)]
def f405x10 : List AOper := [
  Bi 44 .lss 43 42]
def f405x11 : List AOper := [
  Ia 45 5 41 43,
  Ls 46 5 45,
  Op 9 (.alloc (.agg [.bool false, .int .u32 0, .int .i64 0, .int .i64 0, .int .i64 0])),
  St 5 9 46]
def f405x12 : List AOper := [
  Ls 48 5 9,
  Ct 49 332 [48],
  Mv 47 49,
  Ex 50 47 0,
  Ex 51 47 1,
  Mv 10 50,
  Mv 11 51]
def f405x13 : List AOper := [
  Mv 52 5,
  Mv 53 10,
  Op 54 (.bin .add (.t 53) (.c (.str [10]))),
  Bi 55 .add 52 54,
  Mv 5 55]
def f405x14 : List AOper := [
  Bc 56 .add 43 1,
  Mv 43 56]
def f405x15L : ACode := (.seq (.region f405x10 false) (.seq (.cond (.t 44) .skip (.exit 2)) (.seq (.block 3 (.seq (.region f405x11 false) (.seq (.region f405x12 false) (.region f405x13 false)))) (.region f405x14 false))))
def f405x16 : List AOper := [
  Bc 57 .add 30 1,
  Mv 30 57]
def f405x17L : ACode := (.seq (.region f405x6 false) (.seq (.cond (.t 31) .skip (.exit 0)) (.seq (.block 1 (.seq (.region f405x7 false) (.seq (.region f405x8 false) (.seq (.region f405x9 false) (.block 2 (.loop f405x15L)))))) (.region f405x16 false))))
def f405x18 : List AOper := [
  Fa 58 1 1,
  Ld 59 58,
  Ln 60 0 59,
  Mc 61 (.int .i64 0)]
def f405x19 : List AOper := [
  Bi 62 .lss 61 60]
def f405x20 : List AOper := [
  Ia 63 2 59 61,
  Ls 64 2 63,
  Op 13 (.alloc (.agg [.str [], .con (.slice none 0 0)])),
  St 2 13 64]
def f405x21 : List AOper := [
  Mv 65 5,
  Fa 66 0 13,
  Ld 67 66,
  Op 68 (.bin .add (.c (.str [112, 97, 116, 104, 45, 108, 105, 115, 116, 32])) (.t 67)),
  Op 69 (.bin .add (.t 68) (.c (.str [10]))),
  Bi 70 .add 65 69,
  Mv 5 70]
def f405x22 : List AOper := [
  Fa 71 1 13,
  Ld 72 71,
  Ln 73 0 72,
  Mc 74 (.int .i64 0)]
def f405x23 : List AOper := [
  Bi 75 .lss 74 73]
def f405x24 : List AOper := [
  Ia 76 2 72 74,
  Ls 77 2 76,
  Op 15 (.alloc (.agg [.bool false, .str []])),
  St 2 15 77]
def f405x25 : List AOper := [
  Mv 78 5,
  Fa 79 0 15,
  Ld 80 79,
  Af [2] (Ct 81 452 [80]),
  Fa 82 1 15,
  Ld 83 82,
  Bi 84 .add 81 83,
  Op 85 (.bin .add (.t 84) (.c (.str [10]))),
  Bi 86 .add 78 85,
  Mv 5 86]
def f405x26 : List AOper := [
  Bc 87 .add 74 1,
  Mv 74 87]
def f405x27L : ACode := (.seq (.region f405x23 false) (.seq (.cond (.t 75) .skip (.exit 6)) (.seq (.block 7 (.seq (.region f405x24 false) (.region f405x25 true))) (.region f405x26 false))))
def f405x28 : List AOper := [
  Bc 88 .add 61 1,
  Mv 61 88]
def f405x29L : ACode := (.seq (.region f405x19 false) (.seq (.cond (.t 62) .skip (.exit 4)) (.seq (.block 5 (.seq (.region f405x20 false) (.seq (.region f405x21 false) (.seq (.region f405x22 false) (.block 6 (.loop f405x27L)))))) (.region f405x28 false))))
def f405x30 : List AOper := [
  Fa 89 2 1,
  Ld 90 89,
  Ln 91 0 90,
  Mc 92 (.int .i64 0)]
def f405x31 : List AOper := [
  Bi 93 .lss 92 91]
def f405x32 : List AOper := [
  Ia 94 2 90 92,
  Ls 95 2 94,
  Op 17 (.alloc (.agg [.str [], .con (.slice none 0 0)])),
  St 2 17 95]
def f405x33 : List AOper := [
  Mv 96 5,
  Fa 97 0 17,
  Ld 98 97,
  Op 99 (.bin .add (.c (.str [99, 111, 109, 109, 117, 110, 105, 116, 121, 45, 108, 105, 115, 116, 32])) (.t 98)),
  Op 100 (.bin .add (.t 99) (.c (.str [10]))),
  Bi 101 .add 96 100,
  Mv 5 101]
def f405x34 : List AOper := [
  Fa 102 1 17,
  Ld 103 102,
  Ln 104 0 103,
  Mc 105 (.int .i64 0)]
def f405x35 : List AOper := [
  Bi 106 .lss 105 104]
def f405x36 : List AOper := [
  Ia 107 3 103 105,
  Ls 108 3 107,
  Op 19 (.alloc (.agg [.bool false, .int .i64 0, .int .i64 0])),
  St 3 19 108]
def f405x37 : List AOper := [
  Mv 109 5,
  Fa 110 0 19,
  Ld 111 110,
  Af [2] (Ct 112 452 [111]),
  Fa 113 1 19,
  Ld 114 113,
  Af [5, 3, 2] (Ct 115 453 [114]),
  Bi 116 .add 112 115,
  Op 117 (.bin .add (.t 116) (.c (.str [58]))),
  Fa 118 2 19,
  Ld 119 118,
  Af [10, 6, 5, 3, 2] (Ct 120 453 [119]),
  Bi 121 .add 117 120,
  Op 122 (.bin .add (.t 121) (.c (.str [10]))),
  Bi 123 .add 109 122,
  Mv 5 123]
def f405x38 : List AOper := [
  Bc 124 .add 105 1,
  Mv 105 124]
def f405x39L : ACode := (.seq (.region f405x35 false) (.seq (.cond (.t 106) .skip (.exit 10)) (.seq (.block 11 (.seq (.region f405x36 false) (.region f405x37 true))) (.region f405x38 false))))
def f405x40 : List AOper := [
  Bc 125 .add 92 1,
  Mv 92 125]
def f405x41L : ACode := (.seq (.region f405x31 false) (.seq (.cond (.t 93) .skip (.exit 8)) (.seq (.block 9 (.seq (.region f405x32 false) (.seq (.region f405x33 false) (.seq (.region f405x34 false) (.block 10 (.loop f405x39L)))))) (.region f405x40 false))))
def f405x42 : List AOper := [
  Fa 126 3 1,
  Ld 127 126,
  Ln 128 0 127,
  Mc 129 (.int .i64 0)]
def f405x43 : List AOper := [
  Bi 130 .lss 129 128]
def f405x44 : List AOper := [
  Ia 131 3 127 129,
  Ls 132 3 131,
  Op 21 (.alloc (.agg [.str [], .con (.slice none 0 0), .int .i64 0])),
  St 3 21 132]
def f405x45 : List AOper := [
  Mv 133 5,
  Ls 134 3 21,
  Ct 135 454 [134],
  Bi 136 .add 133 135,
  Mv 5 136]
def f405x46 : List AOper := [
  Mv 137 5,
  Ln 138 1 137,
  Bc 139 .gtr 138 65536]
def f405x47 : List AOper := [
  Bc 140 .add 129 1,
  Mv 129 140]
def f405x48L : ACode := (.seq (.region f405x43 false) (.seq (.cond (.t 130) .skip (.exit 12)) (.seq (.block 13 (.seq (.region f405x44 false) (.seq (.region f405x45 false) (.seq (.region f405x46 false) (.cond (.t 139) (.exit 12) .skip))))) (.region f405x47 false))))
def f405x49 : List AOper := [
  Mv 141 5,
  Ln 142 1 141,
  Bc 143 .gtr 142 65536]
def f405x50 : List AOper := [
  Mc 2 (.str []),
  Mc 3 (.int .i64 4)]
def f405x51 : List AOper := [
  Mv 144 5,
  Mv 2 144,
  Mc 3 (.int .i64 0)]
def f405 : AFunc := ⟨145, 1, false, [.t 2, .t 3], (.seq (.region f405x0 false) (.seq (.seq (.region f405x1 false) (.seq (.region f405x2 false) (.cond (.t 25) (.seq (.region f405x3 false) .ret) .skip))) (.seq (.region f405x4 false) (.seq (.seq (.region f405x5 false) (.block 0 (.loop f405x17L))) (.seq (.seq (.region f405x18 false) (.block 4 (.loop f405x29L))) (.seq (.seq (.region f405x30 false) (.block 8 (.loop f405x41L))) (.seq (.seq (.region f405x42 false) (.block 12 (.loop f405x48L))) (.seq (.seq (.region f405x49 false) (.cond (.t 143) (.seq (.region f405x50 false) .ret) .skip)) (.seq (.region f405x51 false) .ret)))))))))⟩
def f406x0 : List AOper := [
  Mv 6 1,
  Ln 7 0 6,
  Mc 8 (.int .i64 0)]
def f406x1 : List AOper := [
  Bi 9 .lss 8 7]
def f406x2 : List AOper := [
  Mv 10 8,
  Ia 11 1 6 8,
  Ld 12 11,
  Mv 4 10,
  Mv 5 12]
def f406x3 : List AOper := [
  Mv 13 4,
  Bc 14 .gtr 13 0]
def f406x4 : List AOper := [
  Mv 15 0,
  Nc 16 15,
  Fa 17 0 16,
  Ld 18 17,
  Op 19 (.bin .add (.t 18) (.c (.str [32]))),
  Nc 20 15,
  Fa 21 0 20,
  St 1 21 19]
def f406x5 : List AOper := [
  Mv 22 0,
  Nc 23 22,
  Fa 24 0 23,
  Ld 25 24,
  Mv 26 5,
  Bi 27 .add 25 26,
  Nc 28 22,
  Fa 29 0 28,
  St 1 29 27]
def f406x6 : List AOper := [
  Bc 30 .add 8 1,
  Mv 8 30]
def f406x7L : ACode := (.seq (.region f406x1 false) (.seq (.cond (.t 9) .skip (.exit 0)) (.seq (.block 1 (.seq (.region f406x2 false) (.seq (.seq (.region f406x3 false) (.cond (.t 14) (.region f406x4 false) .skip)) (.region f406x5 false)))) (.region f406x6 false))))
def f406x8 : List AOper := [
  Mv 31 0,
  Nc 32 31,
  Fa 33 0 32,
  Ld 34 33,
  Op 35 (.bin .add (.t 34) (.c (.str [10]))),
  Nc 36 31,
  Fa 37 0 36,
  St 1 37 35]
def f406 : AFunc := ⟨38, 2, false, [], (.seq (.seq (.region f406x0 false) (.block 0 (.loop f406x7L))) (.region f406x8 false))⟩
def f337x0 : List AOper := [
  Mc 2 (.str [])]
def f337x1 : List AOper := [
  Mv 3 0,
  Ct 4 246 [3],
  Mv 2 4]
def f337 : AFunc := ⟨5, 1, false, [.t 2], (.seq (.region f337x0 false) (.seq (.region f337x1 false) .ret))⟩
def f407x0 : List AOper := [
  Mc 2 (.int .i64 0)]
def f407x1 : List AOper := [
  Mc 3 (.int .i64 0)]
def f407x2 : List AOper := [
  Mv 5 0,
  Ln 6 1 5,
  Mc 7 (.int .i64 0)]
def f407x3 : List AOper := [
  Bi 8 .lss 7 6]
def f407x4 : List AOper := [
  Mv 9 7,
  Mv 4 9]
def f407x5 : List AOper := [
  Mv 10 0,
  Mv 11 4,
  Op 12 (.istr (.t 10) (.t 11)),
  Op 13 (.bin .eql (.t 12) (.c (.int .u8 10)))]
def f407x6 : List AOper := [
  Mv 14 3,
  Bc 15 .add 14 1,
  Mv 3 15]
def f407x7 : List AOper := [
  Bc 16 .add 7 1,
  Mv 7 16]
def f407x8L : ACode := (.seq (.region f407x3 false) (.seq (.cond (.t 8) .skip (.exit 0)) (.seq (.block 1 (.seq (.region f407x4 false) (.seq (.region f407x5 false) (.cond (.t 13) (.region f407x6 false) .skip)))) (.region f407x7 false))))
def f407x9 : List AOper := [
  Mv 17 3,
  Mv 2 17]
def f407 : AFunc := ⟨18, 1, false, [.t 2], (.seq (.region f407x0 false) (.seq (.region f407x1 false) (.seq (.seq (.region f407x2 false) (.block 0 (.loop f407x8L))) (.seq (.region f407x9 false) .ret))))⟩
def f408x0 : List AOper := [
  Mc 4 (.con (.slice none 0 0))]
def f408x1 : List AOper := [
  Mv 7 1,
  Ln 8 0 7,
  Mc 9 (.int .i64 0)]
def f408x2 : List AOper := [
  Bi 10 .lss 9 8]
def f408x3 : List AOper := [
  Ia 11 1 7 9,
  Ld 12 11,
  Mv 6 12]
def f408x4 : List AOper := [
  Mv 13 0,
  Mv 14 6,
  Ct 15 337 [14],
  Op 16 (.bsl 1 [.str []] 1 [0] [(.t 15)]),
  Ap 17 1 16 13 16,
  Mv 0 17]
def f408x5 : List AOper := [
  Bc 18 .add 9 1,
  Mv 9 18]
def f408x6L : ACode := (.seq (.region f408x2 false) (.seq (.cond (.t 10) .skip (.exit 0)) (.seq (.block 1 (.seq (.region f408x3 false) (.region f408x4 false))) (.region f408x5 false))))
def f408x7 : List AOper := [
  Mv 19 0,
  Mv 4 19]
def f408 : AFunc := ⟨20, 2, true, [.t 4], (.seq (.region f408x0 false) (.seq (.seq (.region f408x1 false) (.block 0 (.loop f408x6L))) (.seq (.region f408x7 false) .ret)))⟩
def f396x0 : List AOper := [
  Op 3 (.box (.t 1)),
  Mc 4 (.int .i64 0)]
def f396x1 : List AOper := [
  Fa 12 0 3,
  Ld 13 12,
  Ct 14 436 [13],
  Un 15 .not 14]
def f396x2 : List AOper := [
  Mc 4 (.int .i64 1)]
def f396x3 : List AOper := [
  Mv 16 0,
  Ln 17 0 16,
  Mc 18 (.int .i64 0)]
def f396x4 : List AOper := [
  Bi 19 .lss 18 17]
def f396x5 : List AOper := [
  Ia 20 25 16 18,
  Ls 21 25 20,
  Op 6 (.alloc (.agg [.str [], .int .u32 0, .con (.slice none 0 0), .con (.slice none 0 0), .bool false, .int .i64 0, .int .i64 0, .int .u32 0, .int .u32 0, .con (.slice none 0 0), .con (.slice none 0 0), .con (.slice none 0 0), .con (.slice none 0 0), .con (.slice none 0 0), .con (.slice none 0 0), .int .i64 0, .int .i64 0, .int .i64 0, .int .i64 0, .int .i64 0, .bool false, .bool false, .con (.slice none 0 0), .con (.slice none 0 0), .con (.slice none 0 0)])),
  St 25 6 21]
def f396x6 : List AOper := [
  Fa 22 0 6,
  Ld 23 22,
  Fa 24 0 3,
  Ld 25 24,
  Bi 26 .eql 23 25]
def f396x7 : List AOper := [
  Mc 4 (.int .i64 7)]
def f396x8 : List AOper := [
  Bc 27 .add 18 1,
  Mv 18 27]
def f396x9L : ACode := (.seq (.region f396x4 false) (.seq (.cond (.t 19) .skip (.exit 0)) (.seq (.block 1 (.seq (.region f396x5 false) (.seq (.region f396x6 false) (.cond (.t 26) (.seq (.region f396x7 false) .ret) .skip)))) (.region f396x8 false))))
def f396x10 : List AOper := [
  Fa 28 1 3,
  Ls 29 3 28,
  Ct 30 437 [29],
  Mv 7 30]
def f396x11 : List AOper := [
  Mv 31 7,
  Bc 32 .neq 31 0]
def f396x12 : List AOper := [
  Mv 33 7,
  Mv 4 33]
def f396x13 : List AOper := [
  Mv 34 0,
  Ln 35 0 34,
  Mc 36 (.int .i64 0)]
def f396x14 : List AOper := [
  Bi 37 .lss 36 35]
def f396x15 : List AOper := [
  Ia 38 25 34 36,
  Ls 39 25 38,
  Op 9 (.alloc (.agg [.str [], .int .u32 0, .con (.slice none 0 0), .con (.slice none 0 0), .bool false, .int .i64 0, .int .i64 0, .int .u32 0, .int .u32 0, .con (.slice none 0 0), .con (.slice none 0 0), .con (.slice none 0 0), .con (.slice none 0 0), .con (.slice none 0 0), .con (.slice none 0 0), .int .i64 0, .int .i64 0, .int .i64 0, .int .i64 0, .int .i64 0, .bool false, .bool false, .con (.slice none 0 0), .con (.slice none 0 0), .con (.slice none 0 0)])),
  St 25 9 39]
def f396x16 : List AOper := [
  Fa 40 1 9,
  Fa 41 0 40,
  Ld 42 41,
  Fa 43 1 3,
  Fa 44 0 43,
  Ld 45 44,
  Bi 46 .eql 42 45]
def f396x17 : List AOper := [
  Mc 4 (.int .i64 7)]
def f396x18 : List AOper := [
  Bc 47 .add 36 1,
  Mv 36 47]
def f396x19L : ACode := (.seq (.region f396x14 false) (.seq (.cond (.t 37) .skip (.exit 2)) (.seq (.block 3 (.seq (.region f396x15 false) (.seq (.region f396x16 false) (.cond (.t 46) (.seq (.region f396x17 false) .ret) .skip)))) (.region f396x18 false))))
def f396x20 : List AOper := [
  Ls 48 25 3,
  Ct 49 438 [48],
  Mv 10 49]
def f396x21 : List AOper := [
  Mv 50 10,
  Bc 51 .neq 50 0]
def f396x22 : List AOper := [
  Mv 52 10,
  Mv 4 52]
def f396x23 : List AOper := [
  Fa 53 5 3,
  Fa 54 6 53,
  Ls 55 4 54,
  Fa 56 22 3,
  Ld 57 56,
  Ct 58 439 [55, 57],
  Mv 11 58]
def f396x24 : List AOper := [
  Mv 59 11,
  Bc 60 .neq 59 0]
def f396x25 : List AOper := [
  Mv 61 11,
  Mv 4 61]
def f396x26 : List AOper := [
  Ls 62 25 3,
  Ct 63 440 [62],
  Mv 4 63]
def f396 : AFunc := ⟨64, 2, false, [.t 4], (.seq (.region f396x0 false) (.seq (.seq (.region f396x1 false) (.cond (.t 15) (.seq (.region f396x2 false) .ret) .skip)) (.seq (.seq (.region f396x3 false) (.block 0 (.loop f396x9L))) (.seq (.seq (.region f396x10 false) (.seq (.region f396x11 false) (.cond (.t 32) (.seq (.region f396x12 false) .ret) .skip))) (.seq (.seq (.region f396x13 false) (.block 2 (.loop f396x19L))) (.seq (.seq (.region f396x20 false) (.seq (.region f396x21 false) (.cond (.t 51) (.seq (.region f396x22 false) .ret) .skip))) (.seq (.seq (.region f396x23 false) (.seq (.region f396x24 false) (.cond (.t 60) (.seq (.region f396x25 false) .ret) .skip))) (.seq (.region f396x26 false) .ret))))))))⟩
def f397x0 : List AOper := [
  Op 3 (.box (.t 0)),
  Op 4 (.box (.t 1)),
  Mc 6 (.int .i64 0)]
def f397x1 : List AOper := [
  Fa 15 0 4,
  Ld 16 15,
  Ln 17 0 16,
  Bc 18 .lss 17 2]
def f397x2 : List AOper := [
  Mc 6 (.int .i64 1)]
def f397x3 : List AOper := [
  Fa 19 1 4,
  Ld 20 19,
  Bc 21 .lss 20 1,
  Mv 22 21,
  Gf 22 (Fa 23 1 4),
  Gf 22 (Ld 24 23),
  Gf 22 (Bc 25 .gtr 24 60),
  Po 26 22 25]
def f397x4 : List AOper := [
  Mc 6 (.int .i64 5)]
def f397x5 : List AOper := [
  Ls 27 2 3,
  Ls 28 2 4,
  Mv 29 2,
  Ct 30 441 [27, 28, 29],
  Mv 7 30]
def f397x6 : List AOper := [
  Mv 31 7,
  Bc 32 .neq 31 0]
def f397x7 : List AOper := [
  Mv 33 7,
  Mv 6 33]
def f397x8 : List AOper := [
  Ls 35 2 3,
  Fa 36 0 4,
  Ld 37 36,
  Af [2] (Op 38 (.iadr 2 (.t 37) (.c (.int .i64 0)))),
  Af [3, 2] (Ls 39 2 38),
  Af [0, 4, 3, 2] (Ct 40 426 [35, 39]),
  Mv 34 40,
  Ex 41 34 0,
  Ex 42 34 1,
  Op 8 (.alloc (.agg [.int .i64 0, .int .u32 0, .int .i64 0, .int .u32 0, .int .u32 0, .int .i64 0, .int .i64 0, .int .i64 0, .int .i64 0])),
  Af [9, 5, 0, 4, 3, 2] (St 9 8 41),
  Mv 9 42]
def f397x9 : List AOper := [
  Mc 10 (.bool false)]
def f397x10 : List AOper := [
  Fa 43 0 4,
  Ld 44 43,
  Ln 45 0 44,
  Mc 46 (.int .i64 0)]
def f397x11 : List AOper := [
  Bi 47 .lss 46 45]
def f397x12 : List AOper := [
  Ia 48 2 44 46,
  Ls 49 2 48,
  Op 12 (.alloc (.agg [.int .i64 0, .int .i64 0])),
  St 2 12 49]
def f397x13 : List AOper := [
  Ls 51 2 3,
  Ls 52 2 12,
  Ct 53 426 [51, 52],
  Mv 50 53,
  Ex 54 50 0,
  Ex 55 50 1,
  Op 13 (.alloc (.agg [.int .i64 0, .int .u32 0, .int .i64 0, .int .u32 0, .int .u32 0, .int .i64 0, .int .i64 0, .int .i64 0, .int .i64 0])),
  St 9 13 54,
  Mv 14 55]
def f397x14 : List AOper := [
  Fa 56 0 13,
  Ld 57 56,
  Bc 58 .neq 57 2,
  Mv 59 58,
  Gt 59 (Fa 60 0 4),
  Gt 59 (Ld 61 60),
  Gt 59 (Ln 62 0 61),
  Gt 59 (Bc 63 .gtr 62 2),
  Pa 64 59 63]
def f397x15 : List AOper := [
  Mc 6 (.int .i64 15)]
def f397x16 : List AOper := [
  Mv 65 10,
  Mv 66 65,
  Gf 66 (Fa 67 0 13),
  Gf 66 (Ld 68 67),
  Gf 66 (Fa 69 0 8),
  Gf 66 (Ld 70 69),
  Gf 66 (Bi 71 .neq 68 70),
  Po 72 66 71,
  Mv 73 72,
  Gf 73 (Fa 74 1 13),
  Gf 73 (Ls 75 2 74),
  Gf 73 (Fa 76 1 8),
  Gf 73 (Ls 77 2 76),
  Gf 73 (Op 78 (.eqs [.int, .int] true (.t 75) (.t 77))),
  Po 79 73 78,
  Mv 80 79,
  Gf 80 (Fa 81 4 13),
  Gf 80 (Ld 82 81),
  Gf 80 (Fa 83 4 8),
  Gf 80 (Ld 84 83),
  Gf 80 (Bi 85 .neq 82 84),
  Po 86 80 85,
  Mv 87 86,
  Gf 87 (Fa 88 7 13),
  Gf 87 (Ld 89 88),
  Gf 87 (Fa 90 7 8),
  Gf 87 (Ld 91 90),
  Gf 87 (Bi 92 .neq 89 91),
  Po 93 87 92,
  Mv 94 93,
  Gf 94 (Fa 95 8 13),
  Gf 94 (Ld 96 95),
  Gf 94 (Fa 97 8 8),
  Gf 94 (Ld 98 97),
  Gf 94 (Bi 99 .neq 96 98),
  Po 100 94 99,
  Mv 10 100]
def f397x17 : List AOper := [
  Bc 101 .add 46 1,
  Mv 46 101]
def f397x18L : ACode := (.seq (.region f397x11 false) (.seq (.cond (.t 47) .skip (.exit 0)) (.seq (.block 1 (.seq (.region f397x12 false) (.seq (.region f397x13 false) (.seq (.seq (.region f397x14 false) (.cond (.t 64) (.seq (.region f397x15 false) .ret) .skip)) (.region f397x16 false))))) (.region f397x17 false))))
def f397x19 : List AOper := [
  Mv 102 10]
def f397x20 : List AOper := [
  Mc 6 (.int .i64 14)]
def f397x21 : List AOper := [
  Mc 6 (.int .i64 0)]
def f397 : AFunc := ⟨103, 3, false, [.t 6], (.seq (.region f397x0 false) (.seq (.seq (.region f397x1 false) (.cond (.t 18) (.seq (.region f397x2 false) .ret) .skip)) (.seq (.seq (.region f397x3 false) (.cond (.t 26) (.seq (.region f397x4 false) .ret) .skip)) (.seq (.seq (.region f397x5 false) (.seq (.region f397x6 false) (.cond (.t 32) (.seq (.region f397x7 false) .ret) .skip))) (.seq (.region f397x8 true) (.seq (.region f397x9 false) (.seq (.seq (.region f397x10 false) (.block 0 (.loop f397x18L))) (.seq (.seq (.region f397x19 false) (.cond (.t 102) (.seq (.region f397x20 false) .ret) .skip)) (.seq (.region f397x21 false) .ret)))))))))⟩
def f339x0 : List AOper := [
  Mc 2 (.con (.slice none 0 0)),
  Mc 3 (.int .i64 0)]
def f339x1 : List AOper := [
  Mv 7 0,
  Op 8 (.bin .eql (.t 7) (.c (.str [])))]
def f339x2 : List AOper := [
  Mc 2 (.con (.slice none 0 0)),
  Mc 3 (.int .i64 0)]
def f339x3 : List AOper := [
  Mv 9 0,
  Ca 10 345 [(.t 9), (.c (.str [10]))]]
def f339x4 : List AOper := [
  Mc 2 (.con (.slice none 0 0)),
  Mc 3 (.int .i64 2)]
def f339x5 : List AOper := [
  Mv 11 0,
  Ca 12 249 [(.t 11), (.c (.str [32]))],
  Mv 4 12]
def f339x6 : List AOper := [
  Mv 13 4,
  Ln 14 0 13,
  Mc 15 (.int .i64 0)]
def f339x7 : List AOper := [
  Bi 16 .lss 15 14]
def f339x8 : List AOper := [
  Ia 17 1 13 15,
  Ld 18 17,
  Mv 6 18]
def f339x9 : List AOper := [
  Mv 19 6,
  Op 20 (.bin .eql (.t 19) (.c (.str [])))]
def f339x10 : List AOper := [
  Mc 2 (.con (.slice none 0 0)),
  Mc 3 (.int .i64 2)]
def f339x11 : List AOper := [
  Bc 21 .add 15 1,
  Mv 15 21]
def f339x12L : ACode := (.seq (.region f339x7 false) (.seq (.cond (.t 16) .skip (.exit 0)) (.seq (.block 1 (.seq (.region f339x8 false) (.seq (.region f339x9 false) (.cond (.t 20) (.seq (.region f339x10 false) .ret) .skip)))) (.region f339x11 false))))
def f339x13 : List AOper := [
  Mv 22 4,
  Mv 2 22,
  Mc 3 (.int .i64 0)]
def f339 : AFunc := ⟨23, 1, false, [.t 2, .t 3], (.seq (.region f339x0 false) (.seq (.seq (.region f339x1 false) (.cond (.t 8) (.seq (.region f339x2 false) .ret) .skip)) (.seq (.seq (.region f339x3 false) (.cond (.t 10) (.seq (.region f339x4 false) .ret) .skip)) (.seq (.region f339x5 false) (.seq (.seq (.region f339x6 false) (.block 0 (.loop f339x12L))) (.seq (.region f339x13 false) .ret))))))⟩
def f460x0 : List AOper := [
  Mc 4 (.bool false)]
def f460x1 : List AOper := [
  Mv 8 1,
  Ct 9 462 [8],
  Mv 7 9,
  Ex 10 7 0,
  Ex 11 7 1,
  Mv 5 10,
  Mv 6 11]
def f460x2 : List AOper := [
  Mv 13 1,
  Op 14 (.bin .eql (.t 13) (.c (.str [108, 105, 110, 107]))),
  Mv 12 14]
def f460x3 : List AOper := [
  Mv 15 0,
  Nc 16 15,
  Fa 17 2 16,
  Ld 18 17,
  Bc 19 .neq 18 8,
  Mv 4 19]
def f460x4 : List AOper := [
  Mv 21 5,
  Bc 22 .lss 21 0,
  Mv 23 22,
  Gf 23 (Mv 24 0),
  Gf 23 (Nc 25 24),
  Gf 23 (Fa 26 2 25),
  Gf 23 (Ld 27 26),
  Gf 23 (Bc 28 .eql 27 100),
  Po 29 23 28,
  Mv 20 29]
def f460x5 : List AOper := [
  Mc 4 (.bool false)]
def f460x6 : List AOper := [
  Mv 31 5,
  Bc 32 .eql 31 0,
  Mv 30 32]
def f460x7 : List AOper := [
  Mv 33 0,
  Nc 34 33,
  Fa 35 2 34,
  Ld 36 35,
  Bc 37 .neq 36 8,
  Mv 4 37]
def f460x8 : List AOper := [
  Mv 39 0,
  Nc 40 39,
  Fa 41 2 40,
  Ld 42 41,
  Bc 43 .eql 42 (-1),
  Mv 38 43]
def f460x9 : List AOper := [
  Mc 4 (.bool false)]
def f460x10 : List AOper := [
  Mv 45 0,
  Nc 46 45,
  Fa 47 2 46,
  Ld 48 47,
  Bc 49 .eql 48 8,
  Mv 50 49,
  Gf 50 (Mv 51 5),
  Gf 50 (Bc 52 .eql 51 9),
  Po 53 50 52,
  Mv 44 53]
def f460x11 : List AOper := [
  Mv 54 0,
  Nc 55 54,
  Fa 56 2 55,
  Ld 57 56,
  Bc 58 .eql 57 8,
  Mv 59 58,
  Gt 59 (Mv 60 5),
  Gt 59 (Bc 61 .eql 60 9),
  Pa 62 59 61,
  Mv 4 62]
def f460x12 : List AOper := [
  Mv 64 5,
  Bc 65 .eql 64 10,
  Mv 66 65,
  Gf 66 (Mv 67 5),
  Gf 66 (Bc 68 .eql 67 11),
  Po 69 66 68,
  Mv 63 69]
def f460x13 : List AOper := [
  Mv 70 0,
  Ct 71 419 [70],
  Nc 72 71,
  Fa 73 4 72,
  Ld 74 73,
  Un 75 .not 74]
def f460x14 : List AOper := [
  Mc 4 (.bool false)]
def f460x15 : List AOper := [
  Mv 76 5,
  Mv 77 0,
  Nc 78 77,
  Fa 79 2 78,
  Ld 80 79,
  Bi 81 .gtr 76 80,
  Mv 82 81,
  Gf 82 (Mv 83 6),
  Gf 82 (Mv 84 83),
  Gt 84 (Mv 85 5),
  Gt 84 (Mv 86 0),
  Gt 84 (Nc 87 86),
  Gt 84 (Fa 88 2 87),
  Gt 84 (Ld 89 88),
  Gt 84 (Bi 90 .eql 85 89),
  Gf 82 (Pa 91 84 90),
  Po 92 82 91,
  Mv 4 92]
def f460 : AFunc := ⟨93, 2, false, [.t 4], (.seq (.region f460x0 false) (.seq (.region f460x1 false) (.seq (.block 0 (.seq (.region f460x2 false) (.cond (.t 12) (.seq (.region f460x3 false) .ret) (.seq (.region f460x4 false) (.cond (.t 20) (.seq (.region f460x5 false) .ret) (.seq (.region f460x6 false) (.cond (.t 30) (.seq (.region f460x7 false) .ret) (.seq (.region f460x8 false) (.cond (.t 38) (.seq (.region f460x9 false) .ret) (.seq (.region f460x10 false) (.cond (.t 44) (.seq (.region f460x11 false) .ret) (.seq (.region f460x12 false) (.cond (.t 63) (.seq (.region f460x13 false) (.cond (.t 75) (.seq (.region f460x14 false) .ret) .skip)) .skip))))))))))))) (.seq (.region f460x15 false) .ret))))⟩
def f461x0 : List AOper := [
  Mc 4 (.int .i64 0)]
def f461x1 : List AOper := [
  Mv 19 1,
  Ct 20 463 [19],
  Mv 18 20,
  Ex 21 18 0,
  Ex 22 18 1,
  Ex 23 18 2,
  Ex 24 18 3,
  Ex 25 18 4,
  Mv 5 21,
  Mv 6 22,
  Mv 7 23,
  Mv 8 24,
  Mv 9 25]
def f461x2 : List AOper := [
  Mv 26 5,
  Op 27 (.call (.t 26) [(.c (.int .i64 1099511627776))]),
  Op 28 (.build [.con (.slice none 0 0), .int .i64 0] [(1, 1)] [(.t 27)]),
  Op 10 (.alloc (.agg [.con (.slice none 0 0), .int .i64 0])),
  St 2 10 28]
def f461x3 : List AOper := [
  Mc 11 (.bool false)]
def f461x4 : List AOper := [
  Mv 29 1,
  Nc 30 29,
  Fa 31 0 30,
  Ld 32 31,
  Ln 33 0 32,
  Bc 34 .gtr 33 0]
def f461x5 : List AOper := [
  Mv 36 1,
  Ct 37 531 [36],
  Ct 38 530 [37],
  Mv 35 38,
  Ex 39 35 0,
  Ex 40 35 1,
  Mv 12 39,
  Mv 13 40]
def f461x6 : List AOper := [
  Mv 42 13,
  Ca 43 346 [(.t 42), (.c (.int .i64 1099511627776))],
  Mv 41 43,
  Ex 44 41 0,
  Ex 45 41 1,
  Mv 14 44,
  Mv 15 45]
def f461x7 : List AOper := [
  Mv 46 1,
  Mv 47 1,
  Nc 48 47,
  Fa 49 1 48,
  Ld 50 49,
  Mv 51 50,
  Gf 51 (Mv 52 12),
  Gf 51 (Op 53 (.bin .eql (.t 52) (.c (.str [])))),
  Po 54 51 53,
  Mv 55 54,
  Gf 55 (Mv 56 15),
  Gf 55 (Bc 57 .neq 56 0),
  Po 58 55 57,
  Nc 59 46,
  Fa 60 1 59,
  St 1 60 58]
def f461x8 : List AOper := [
  Mv 62 0,
  Nc 63 62,
  Fa 64 0 63,
  Ls 65 2 64,
  Mv 66 12,
  Ct 67 386 [65, 66],
  Mv 61 67,
  Ex 68 61 0,
  Ex 69 61 1,
  Mv 16 68,
  Mv 17 69]
def f461x9 : List AOper := [
  Mv 70 11,
  Mv 71 70,
  Gf 71 (Mv 72 17),
  Gf 71 (Un 73 .not 72),
  Po 74 71 73,
  Mv 11 74]
def f461x10 : List AOper := [
  Fa 75 0 10,
  Ld 76 75,
  Mv 77 16,
  Mv 78 14,
  Op 79 (.build [.int .i64 0, .int .i64 0] [(0, 1), (1, 1)] [(.t 77), (.t 78)]),
  Op 80 (.bsl 2 [.int .i64 0, .int .i64 0] 1 [0] [(.t 79)]),
  Ap 81 2 16 76 80,
  Fa 82 0 10,
  St 1 82 81]
def f461x11L : ACode := (.seq (.seq (.region f461x4 false) (.cond (.t 34) .skip (.exit 0))) (.block 1 (.seq (.region f461x5 false) (.seq (.region f461x6 false) (.seq (.region f461x7 false) (.seq (.region f461x8 false) (.seq (.region f461x9 false) (.region f461x10 false))))))))
def f461x12 : List AOper := [
  Mv 84 1,
  Nc 85 84,
  Fa 86 1 85,
  Ld 87 86,
  Mv 83 87]
def f461x13 : List AOper := [
  Mc 4 (.int .i64 2)]
def f461x14 : List AOper := [
  Mv 89 11,
  Mv 88 89]
def f461x15 : List AOper := [
  Mc 4 (.int .i64 6)]
def f461x16 : List AOper := [
  Mv 90 0,
  Mv 91 0,
  Nc 92 91,
  Fa 93 0 92,
  Fa 94 1 93,
  Ld 95 94,
  Ls 96 2 10,
  Af [6] (Op 97 (.bsl 2 [.con (.slice none 0 0), .int .i64 0] 1 [0] [(.t 96)])),
  Af [5, 7, 6] (Ap 98 2 32 95 97),
  Nc 99 90,
  Fa 100 0 99,
  Fa 101 1 100,
  Af [8, 5, 7, 6] (St 1 101 98)]
def f461x17 : List AOper := [
  Mc 4 (.int .i64 0)]
def f461 : AFunc := ⟨102, 2, false, [.t 4], (.seq (.region f461x0 false) (.seq (.region f461x1 false) (.seq (.region f461x2 false) (.seq (.region f461x3 false) (.seq (.block 0 (.loop f461x11L)) (.seq (.block 2 (.seq (.region f461x12 false) (.cond (.t 83) (.seq (.region f461x13 false) .ret) (.seq (.region f461x14 false) (.cond (.t 88) (.seq (.region f461x15 false) .ret) .skip))))) (.seq (.region f461x16 true) (.seq (.region f461x17 false) .ret))))))))⟩
def f462x0 : List AOper := [
  Mc 2 (.int .i64 0),
  Mc 3 (.bool false)]
def f462x1 : List AOper := [
  Op 6 (.build [.str [], .str [], .str [], .str [], .str [], .str [], .str [], .str [], .str [], .str [], .str [], .str [], .str []] [(0, 1), (1, 1), (2, 1), (3, 1), (4, 1), (5, 1), (6, 1), (7, 1), (8, 1), (9, 1), (10, 1), (11, 1), (12, 1)] [(.c (.str [114, 111, 117, 116, 101, 114])), (.c (.str [105, 102, 97, 99, 101])), (.c (.str [114, 97, 110, 103, 101])), (.c (.str [108, 97, 98, 101, 108, 115])), (.c (.str [114, 101, 114, 111, 117, 116, 101])), (.c (.str [100, 105, 115, 116, 97, 110, 99, 101, 115])), (.c (.str [115, 116, 97, 116, 105, 99])), (.c (.str [114, 101, 100, 105, 115, 116, 114, 105, 98, 117, 116, 101])), (.c (.str [115, 112, 101, 97, 107, 101, 114])), (.c (.str [100, 97, 109, 112, 105, 110, 103])), (.c (.str [112, 101, 101, 114])), (.c (.str [110, 101, 116, 119, 111, 114, 107])), (.c (.str [112, 111, 108, 105, 99, 105, 101, 115]))]),
  Mc 7 (.int .i64 0)]
def f462x2 : List AOper := [
  Bc 8 .lss 7 13]
def f462x3 : List AOper := [
  Mv 9 7,
  Op 10 (.ival 13 1 none (.t 6) (.t 7)),
  Mv 4 9,
  Mv 5 10]
def f462x4 : List AOper := [
  Mv 11 5,
  Mv 12 0,
  Bi 13 .eql 11 12]
def f462x5 : List AOper := [
  Mv 14 4,
  Mv 15 0,
  Op 16 (.bin .eql (.t 15) (.c (.str [105, 102, 97, 99, 101]))),
  Mv 17 16,
  Gf 17 (Mv 18 0),
  Gf 17 (Op 19 (.bin .eql (.t 18) (.c (.str [114, 97, 110, 103, 101])))),
  Po 20 17 19,
  Mv 21 20,
  Gf 21 (Mv 22 0),
  Gf 21 (Op 23 (.bin .eql (.t 22) (.c (.str [115, 116, 97, 116, 105, 99])))),
  Po 24 21 23,
  Mv 25 24,
  Gf 25 (Mv 26 0),
  Gf 25 (Op 27 (.bin .eql (.t 26) (.c (.str [114, 101, 100, 105, 115, 116, 114, 105, 98, 117, 116, 101])))),
  Po 28 25 27,
  Mv 29 28,
  Gf 29 (Mv 30 0),
  Gf 29 (Op 31 (.bin .eql (.t 30) (.c (.str [112, 101, 101, 114])))),
  Po 32 29 31,
  Mv 33 32,
  Gf 33 (Mv 34 0),
  Gf 33 (Op 35 (.bin .eql (.t 34) (.c (.str [110, 101, 116, 119, 111, 114, 107])))),
  Po 36 33 35,
  Mv 2 14,
  Mv 3 36]
def f462x6 : List AOper := [
  Bc 37 .add 7 1,
  Mv 7 37]
def f462x7L : ACode := (.seq (.region f462x2 false) (.seq (.cond (.t 8) .skip (.exit 0)) (.seq (.block 1 (.seq (.region f462x3 false) (.seq (.region f462x4 false) (.cond (.t 13) (.seq (.region f462x5 false) .ret) .skip)))) (.region f462x6 false))))
def f462x8 : List AOper := [
  Mc 2 (.int .i64 (-1)),
  Mc 3 (.bool false)]
def f462 : AFunc := ⟨38, 1, false, [.t 2, .t 3], (.seq (.region f462x0 false) (.seq (.seq (.region f462x1 false) (.block 0 (.loop f462x7L))) (.seq (.region f462x8 false) .ret)))⟩
def f463x0 : List AOper := [
  Op 1 (.box (.t 0)),
  Mc 2 (.con (.nilFunc)),
  Mc 3 (.con (.nilFunc)),
  Mc 4 (.con (.nilFunc)),
  Mc 5 (.con (.nilFunc)),
  Mc 6 (.con (.nilFunc))]
def f463x1 : List AOper := [
  Op 8 (.mkfn 532 [(.t 1)]),
  Op 7 (.alloc (.con (.nilFunc))),
  St 1 7 8]
def f463x2 : List AOper := [
  Op 9 (.mkfn 533 [(.t 1), (.t 7)]),
  Mv 2 9]
def f463x3 : List AOper := [
  Op 10 (.mkfn 534 [(.t 1), (.t 7)]),
  Mv 3 10]
def f463x4 : List AOper := [
  Op 11 (.mkfn 535 [(.t 1), (.t 7)]),
  Mv 4 11]
def f463x5 : List AOper := [
  Op 12 (.mkfn 536 [(.t 1)]),
  Mv 5 12]
def f463x6 : List AOper := [
  Op 13 (.mkfn 537 [(.t 1)]),
  Mv 6 13]
def f463x7 : List AOper := [
  Mv 14 2,
  Mv 15 3,
  Mv 16 4,
  Mv 17 5,
  Mv 18 6,
  Mv 2 14,
  Mv 3 15,
  Mv 4 16,
  Mv 5 17,
  Mv 6 18]
def f463 : AFunc := ⟨19, 1, false, [.t 2, .t 3, .t 4, .t 5, .t 6], (.seq (.region f463x0 false) (.seq (.region f463x1 false) (.seq (.region f463x2 false) (.seq (.region f463x3 false) (.seq (.region f463x4 false) (.seq (.region f463x5 false) (.seq (.region f463x6 false) (.seq (.region f463x7 false) .ret))))))))⟩
def f464x0 : List AOper := [
  Mv 15 2,
  Ct 16 463 [15],
  Mv 14 16,
  Ex 17 14 0,
  Ex 18 14 1,
  Ex 19 14 2,
  Ex 20 14 3,
  Ex 21 14 4,
  Mv 6 17,
  Mv 7 18,
  Mv 8 19,
  Mv 9 20,
  Mv 10 21]
def f464x1 : List AOper := [
  Ct 23 448 [],
  Mv 22 23,
  Ex 24 22 0,
  Ex 25 22 1,
  Op 11 (.alloc (.agg [.str [], .str [], .str [], .str []])),
  Op 12 (.alloc (.agg [.str [], .str [], .str [], .str []])),
  St 4 11 24,
  St 4 12 25]
def f464x2 : List AOper := [
  Mv 26 0,
  Ct 27 419 [26],
  Mv 13 27]
def f464x3 : List AOper := [
  Mv 28 1]
def f464x4 : List AOper := [
  Op 30 (.bin .eql (.t 28) (.c (.str [115, 112, 101, 97, 107, 101, 114]))),
  Mv 29 30]
def f464x5 : List AOper := [
  Mv 31 13,
  Nc 32 31,
  Fa 33 4 32,
  ⟨none, .store 1 (.t 33) (.c (.bool true)), none, []⟩]
def f464x6 : List AOper := [
  Mv 34 13,
  Mv 35 13,
  Nc 36 35,
  Fa 37 1 36,
  Fa 38 0 37,
  Ld 39 38,
  Nc 40 34,
  Fa 41 5 40,
  Fa 42 2 41,
  St 1 42 39]
def f464x7 : List AOper := [
  Mv 43 13,
  Mv 44 13,
  Mv 45 13,
  Mv 46 13,
  Mv 47 6,
  Op 48 (.call (.t 47) [(.c (.int .i64 1099511627776))]),
  Mv 49 6,
  Op 50 (.call (.t 49) [(.c (.int .i64 1099511627776))]),
  Mv 51 6,
  Op 52 (.call (.t 51) [(.c (.int .i64 4294967295))]),
  Cv 53 .u32 52,
  Mv 54 6,
  Op 55 (.call (.t 54) [(.c (.int .i64 1099511627776))]),
  Nc 56 43,
  Fa 57 5 56,
  Fa 58 0 57,
  St 1 58 48,
  Nc 59 44,
  Fa 60 5 59,
  Fa 61 1 60,
  St 1 61 50,
  Nc 62 45,
  Fa 63 5 62,
  Fa 64 3 63,
  St 1 64 53,
  Nc 65 46,
  Fa 66 5 65,
  Fa 67 14 66,
  St 1 67 55]
def f464x8 : List AOper := [
  Op 69 (.bin .eql (.t 28) (.c (.str [100, 97, 109, 112, 105, 110, 103]))),
  Mv 68 69]
def f464x9 : List AOper := [
  Mv 70 13,
  Mv 71 6,
  Op 72 (.call (.t 71) [(.c (.int .i64 1099511627776))]),
  Mv 73 6,
  Op 74 (.call (.t 73) [(.c (.int .i64 1099511627776))]),
  Mv 75 6,
  Op 76 (.call (.t 75) [(.c (.int .i64 1099511627776))]),
  Mv 77 6,
  Op 78 (.call (.t 77) [(.c (.int .i64 1099511627776))]),
  Op 79 (.build [.int .i64 0, .int .i64 0, .int .i64 0, .int .i64 0] [(0, 1), (1, 1), (2, 1), (3, 1)] [(.t 72), (.t 74), (.t 76), (.t 78)]),
  Nc 80 70,
  Fa 81 5 80,
  Fa 82 10 81,
  St 4 82 79]
def f464x10 : List AOper := [
  Op 84 (.bin .eql (.t 28) (.c (.str [112, 101, 101, 114]))),
  Mv 83 84]
def f464x11 : List AOper := [
  Mv 85 13,
  Mv 86 13,
  Nc 87 86,
  Fa 88 5 87,
  Fa 89 4 88,
  Ld 90 89,
  Mv 91 2,
  Ls 92 4 12,
  Af [7] (Ct 93 538 [91, 92]),
  Mv 94 6,
  Af [8, 7] (Op 95 (.call (.t 94) [(.c (.int .i64 1099511627776))])),
  Mv 96 8,
  Af [10, 8, 7] (Op 97 (.call (.t 96) [])),
  Mv 98 8,
  Af [12, 10, 8, 7] (Op 99 (.call (.t 98) [])),
  Mv 100 9,
  Af [14, 12, 10, 8, 7] (Op 101 (.call (.t 100) [])),
  Mv 102 6,
  Af [16, 14, 12, 10, 8, 7] (Op 103 (.call (.t 102) [(.c (.int .i64 1099511627776))])),
  Mv 104 6,
  Af [18, 16, 14, 12, 10, 8, 7] (Op 105 (.call (.t 104) [(.c (.int .i64 1099511627776))])),
  Mv 106 10,
  Af [20, 18, 16, 14, 12, 10, 8, 7] (Op 107 (.call (.t 106) [])),
  Af [22, 20, 18, 16, 14, 12, 10, 8, 7] (Ct 108 539 [107]),
  Mv 109 10,
  Af [23, 22, 20, 18, 16, 14, 12, 10, 8, 7] (Op 110 (.call (.t 109) [])),
  Af [25, 23, 22, 20, 18, 16, 14, 12, 10, 8, 7] (Ct 111 539 [110]),
  Mv 112 9,
  Af [26, 25, 23, 22, 20, 18, 16, 14, 12, 10, 8, 7] (Op 113 (.call (.t 112) [])),
  Mv 114 9,
  Af [28, 26, 25, 23, 22, 20, 18, 16, 14, 12, 10, 8, 7] (Op 115 (.call (.t 114) [])),
  Op 116 (.build [.int .i64 0, .int .i64 0, .int .u32 0, .int .u32 0, .bool false, .int .i64 0, .int .i64 0, .str [], .str [], .bool false, .bool false] [(0, 1), (1, 1), (2, 1), (3, 1), (4, 1), (5, 1), (6, 1), (7, 1), (8, 1), (9, 1), (10, 1)] [(.t 93), (.t 95), (.t 97), (.t 99), (.t 101), (.t 103), (.t 105), (.t 108), (.t 111), (.t 113), (.t 115)]),
  Af [30, 28, 26, 25, 23, 22, 20, 18, 16, 14, 12, 10, 8, 7] (Op 117 (.bsl 11 [.int .i64 0, .int .i64 0, .int .u32 0, .int .u32 0, .bool false, .int .i64 0, .int .i64 0, .str [], .str [], .bool false, .bool false] 1 [0] [(.t 116)])),
  Af [5, 32, 30, 28, 26, 25, 23, 22, 20, 18, 16, 14, 12, 10, 8, 7] (Ap 118 11 88 90 117),
  Nc 119 85,
  Fa 120 5 119,
  Fa 121 4 120,
  Af [33, 5, 32, 30, 28, 26, 25, 23, 22, 20, 18, 16, 14, 12, 10, 8, 7] (St 1 121 118)]
def f464x12 : List AOper := [
  Op 123 (.bin .eql (.t 28) (.c (.str [110, 101, 116, 119, 111, 114, 107]))),
  Mv 122 123]
def f464x13 : List AOper := [
  Mv 124 13,
  Mv 125 13,
  Nc 126 125,
  Fa 127 5 126,
  Fa 128 5 127,
  Ld 129 128,
  Mv 130 7,
  Op 131 (.call (.t 130) []),
  Af [7] (Op 132 (.bsl 2 [.int .u32 0, .int .i64 0] 1 [0] [(.t 131)])),
  Af [5, 8, 7] (Ap 133 2 16 129 132),
  Nc 134 124,
  Fa 135 5 134,
  Fa 136 5 135,
  Af [9, 5, 8, 7] (St 1 136 133)]
def f464 : AFunc := ⟨137, 3, false, [], (.seq (.region f464x0 false) (.seq (.region f464x1 false) (.seq (.region f464x2 false) (.seq (.region f464x3 false) (.block 0 (.seq (.region f464x4 false) (.cond (.t 29) (.seq (.region f464x5 false) (.seq (.region f464x6 false) (.region f464x7 false))) (.seq (.region f464x8 false) (.cond (.t 68) (.region f464x9 false) (.seq (.region f464x10 false) (.cond (.t 83) (.region f464x11 true) (.seq (.region f464x12 false) (.cond (.t 122) (.region f464x13 true) .skip)))))))))))))⟩
def f465x0 : List AOper := [
  Mv 16 2,
  Ct 17 463 [16],
  Mv 15 17,
  Ex 18 15 0,
  Ex 19 15 1,
  Ex 20 15 2,
  Ex 21 15 3,
  Ex 22 15 4,
  Mv 6 18,
  Mv 7 19,
  Mv 8 20,
  Mv 9 21,
  Mv 10 22]
def f465x1 : List AOper := [
  Ct 24 448 [],
  Mv 23 24,
  Ex 25 23 0,
  Ex 26 23 1,
  Op 11 (.alloc (.agg [.str [], .str [], .str [], .str []])),
  Op 12 (.alloc (.agg [.str [], .str [], .str [], .str []])),
  St 4 11 25,
  St 4 12 26]
def f465x2 : List AOper := [
  Mv 27 1,
  Op 28 (.bin .eql (.t 27) (.c (.str [114, 111, 117, 116, 101, 114])))]
def f465x3 : List AOper := [
  Mv 29 0,
  Mv 30 0,
  Nc 31 30,
  Fa 32 0 31,
  Fa 33 0 32,
  Ld 34 33,
  Mv 35 10,
  Op 36 (.call (.t 35) []),
  Mv 37 6,
  Af [7] (Op 38 (.call (.t 37) [(.c (.int .i64 4294967295))])),
  Cv 39 .u32 38,
  Op 40 (.build [.int .u32 0, .con (.slice none 0 0), .con (.slice none 0 0)] [(0, 1)] [(.t 39)]),
  Op 41 (.build [.str [], .int .u32 0, .con (.slice none 0 0), .con (.slice none 0 0), .bool false, .int .i64 0, .int .i64 0, .int .u32 0, .int .u32 0, .con (.slice none 0 0), .con (.slice none 0 0), .con (.slice none 0 0), .con (.slice none 0 0), .con (.slice none 0 0), .con (.slice none 0 0), .int .i64 0, .int .i64 0, .int .i64 0, .int .i64 0, .int .i64 0, .bool false, .bool false, .con (.slice none 0 0), .con (.slice none 0 0), .con (.slice none 0 0)] [(0, 1), (1, 3)] [(.t 36), (.t 40)]),
  Af [9, 7] (Op 42 (.bsl 25 [.str [], .int .u32 0, .con (.slice none 0 0), .con (.slice none 0 0), .bool false, .int .i64 0, .int .i64 0, .int .u32 0, .int .u32 0, .con (.slice none 0 0), .con (.slice none 0 0), .con (.slice none 0 0), .con (.slice none 0 0), .con (.slice none 0 0), .con (.slice none 0 0), .int .i64 0, .int .i64 0, .int .i64 0, .int .i64 0, .int .i64 0, .bool false, .bool false, .con (.slice none 0 0), .con (.slice none 0 0), .con (.slice none 0 0)] 1 [0] [(.t 41)])),
  Af [5, 13, 9, 7] (Ap 43 25 368 34 42),
  Nc 44 29,
  Fa 45 0 44,
  Fa 46 0 45,
  Af [14, 5, 13, 9, 7] (St 1 46 43)]
def f465x4 : List AOper := [
  Mv 47 0,
  Ct 48 419 [47],
  Mv 13 48]
def f465x5 : List AOper := [
  Mv 49 1]
def f465x6 : List AOper := [
  Op 51 (.bin .eql (.t 49) (.c (.str [105, 102, 97, 99, 101]))),
  Mv 50 51]
def f465x7 : List AOper := [
  Mv 52 13,
  Mv 53 13,
  Nc 54 53,
  Fa 55 1 54,
  Fa 56 1 55,
  Ld 57 56,
  Mv 58 2,
  Ls 59 4 11,
  Af [7] (Ct 60 538 [58, 59]),
  Mv 61 7,
  Af [8, 7] (Op 62 (.call (.t 61) [])),
  Mv 63 8,
  Af [10, 8, 7] (Op 64 (.call (.t 63) [])),
  Mv 65 6,
  Af [12, 10, 8, 7] (Op 66 (.call (.t 65) [(.c (.int .i64 4294967295))])),
  Cv 67 .u32 66,
  Mv 68 6,
  Af [14, 12, 10, 8, 7] (Op 69 (.call (.t 68) [(.c (.int .i64 1099511627776))])),
  Mv 70 6,
  Af [17, 14, 12, 10, 8, 7] (Op 71 (.call (.t 70) [(.c (.int .i64 1099511627776))])),
  Mv 72 6,
  Af [19, 17, 14, 12, 10, 8, 7] (Op 73 (.call (.t 72) [(.c (.int .i64 1099511627776))])),
  Mv 74 6,
  Af [21, 19, 17, 14, 12, 10, 8, 7] (Op 75 (.call (.t 74) [(.c (.int .i64 1099511627776))])),
  Op 76 (.build [.int .i64 0, .int .u32 0, .int .i64 0, .int .u32 0, .int .u32 0, .int .i64 0, .int .i64 0, .int .i64 0, .int .i64 0] [(0, 1), (1, 2), (3, 1), (4, 1), (5, 1), (6, 1), (7, 1), (8, 1)] [(.t 60), (.t 62), (.t 64), (.t 67), (.t 69), (.t 71), (.t 73), (.t 75)]),
  Af [23, 21, 19, 17, 14, 12, 10, 8, 7] (Op 77 (.bsl 9 [.int .i64 0, .int .u32 0, .int .i64 0, .int .u32 0, .int .u32 0, .int .i64 0, .int .i64 0, .int .i64 0, .int .i64 0] 1 [0] [(.t 76)])),
  Af [5, 25, 23, 21, 19, 17, 14, 12, 10, 8, 7] (Ap 78 9 64 57 77),
  Nc 79 52,
  Fa 80 1 79,
  Fa 81 1 80,
  Af [26, 5, 25, 23, 21, 19, 17, 14, 12, 10, 8, 7] (St 1 81 78)]
def f465x8 : List AOper := [
  Op 83 (.bin .eql (.t 49) (.c (.str [114, 97, 110, 103, 101]))),
  Mv 82 83]
def f465x9 : List AOper := [
  Mv 84 13,
  Mv 85 13,
  Nc 86 85,
  Fa 87 1 86,
  Fa 88 2 87,
  Ld 89 88,
  Mv 90 6,
  Op 91 (.call (.t 90) [(.c (.int .i64 4294967295))]),
  Cv 92 .u32 91,
  Mv 93 7,
  Af [7] (Op 94 (.call (.t 93) [])),
  Mv 95 9,
  Af [10, 7] (Op 96 (.call (.t 95) [])),
  Op 97 (.build [.int .u32 0, .int .u32 0, .int .i64 0, .bool false] [(0, 1), (1, 2), (3, 1)] [(.t 92), (.t 94), (.t 96)]),
  Af [12, 10, 7] (Op 98 (.bsl 4 [.int .u32 0, .int .u32 0, .int .i64 0, .bool false] 1 [0] [(.t 97)])),
  Af [5, 14, 12, 10, 7] (Ap 99 4 32 89 98),
  Nc 100 84,
  Fa 101 1 100,
  Fa 102 2 101,
  Af [15, 5, 14, 12, 10, 7] (St 1 102 99)]
def f465x10 : List AOper := [
  Op 104 (.bin .eql (.t 49) (.c (.str [108, 97, 98, 101, 108, 115]))),
  Mv 103 104]
def f465x11 : List AOper := [
  Mv 105 13,
  Nc 106 105,
  Fa 107 20 106,
  ⟨none, .store 1 (.t 107) (.c (.bool true)), none, []⟩]
def f465x12 : List AOper := [
  Op 109 (.bin .eql (.t 49) (.c (.str [114, 101, 114, 111, 117, 116, 101]))),
  Mv 108 109]
def f465x13 : List AOper := [
  Mv 110 13,
  Nc 111 110,
  Fa 112 21 111,
  ⟨none, .store 1 (.t 112) (.c (.bool true)), none, []⟩]
def f465x14 : List AOper := [
  Op 114 (.bin .eql (.t 49) (.c (.str [100, 105, 115, 116, 97, 110, 99, 101, 115]))),
  Mv 113 114]
def f465x15 : List AOper := [
  Mv 115 13,
  Mv 116 13,
  Nc 117 116,
  Fa 118 24 117,
  Ld 119 118,
  Mv 120 6,
  Op 121 (.call (.t 120) [(.c (.int .i64 1099511627776))]),
  Af [6] (Op 122 (.bsl 1 [.int .i64 0] 1 [0] [(.t 121)])),
  Af [4, 7, 6] (Ap 123 1 8 119 122),
  Nc 124 115,
  Fa 125 24 124,
  Af [8, 4, 7, 6] (St 1 125 123)]
def f465x16 : List AOper := [
  Mv 126 2,
  Nc 127 126,
  Fa 128 0 127,
  Ld 129 128,
  Ln 130 0 129,
  Bc 131 .gtr 130 0]
def f465x17 : List AOper := [
  Mv 132 13,
  Mv 133 13,
  Nc 134 133,
  Fa 135 24 134,
  Ld 136 135,
  Mv 137 6,
  Op 138 (.call (.t 137) [(.c (.int .i64 1099511627776))]),
  Af [6] (Op 139 (.bsl 1 [.int .i64 0] 1 [0] [(.t 138)])),
  Af [4, 7, 6] (Ap 140 1 8 136 139),
  Nc 141 132,
  Fa 142 24 141,
  Af [8, 4, 7, 6] (St 1 142 140)]
def f465x18L : ACode := (.seq (.seq (.region f465x16 false) (.cond (.t 131) .skip (.exit 1))) (.block 2 (.region f465x17 true)))
def f465x19 : List AOper := [
  Op 144 (.bin .eql (.t 49) (.c (.str [115, 116, 97, 116, 105, 99]))),
  Mv 143 144]
def f465x20 : List AOper := [
  Mv 145 7,
  Op 146 (.call (.t 145) []),
  Op 147 (.build [.int .u32 0, .int .i64 0, .int .u32 0, .int .i64 0] [(0, 2)] [(.t 146)]),
  Op 14 (.alloc (.agg [.int .u32 0, .int .i64 0, .int .u32 0, .int .i64 0])),
  St 4 14 147]
def f465x21 : List AOper := [
  Mv 148 2,
  Nc 149 148,
  Fa 150 0 149,
  Ld 151 150,
  Ln 152 0 151,
  Bc 153 .gtr 152 0,
  Mv 154 153,
  Gt 154 (Mv 155 2),
  Gt 154 (Nc 156 155),
  Gt 154 (Fa 157 0 156),
  Gt 154 (Ld 158 157),
  Gt 154 (Op 159 (.iadr 1 (.t 158) (.c (.int .i64 0)))),
  Gt 154 (Ld 160 159),
  Gt 154 (Op 161 (.bin .eql (.t 160) (.c (.str [46])))),
  Pa 162 154 161]
def f465x22 : List AOper := [
  Mv 163 2,
  Ct 164 531 [163]]
def f465x23 : List AOper := [
  Mv 165 8,
  Op 166 (.call (.t 165) []),
  Fa 167 2 14,
  St 1 167 166]
def f465x24 : List AOper := [
  Mv 168 2,
  Mv 169 2,
  Nc 170 169,
  Fa 171 1 170,
  Ld 172 171,
  Mv 173 172,
  Gf 173 (Fa 174 2 14),
  Gf 173 (Ld 175 174),
  Gf 173 (Op 176 (.bin .eql (.t 175) (.c (.int .u32 0)))),
  Po 177 173 176,
  Nc 178 168,
  Fa 179 1 178,
  St 1 179 177]
def f465x25 : List AOper := [
  Mv 180 6,
  Op 181 (.call (.t 180) [(.c (.int .i64 1099511627776))]),
  Fa 182 3 14,
  St 1 182 181]
def f465x26 : List AOper := [
  Mv 183 13,
  Mv 184 13,
  Nc 185 184,
  Fa 186 23 185,
  Ld 187 186,
  Ls 188 4 14,
  Af [5] (Op 189 (.bsl 4 [.int .u32 0, .int .i64 0, .int .u32 0, .int .i64 0] 1 [0] [(.t 188)])),
  Af [4, 6, 5] (Ap 190 4 32 187 189),
  Nc 191 183,
  Fa 192 23 191,
  Af [7, 4, 6, 5] (St 1 192 190)]
def f465x27 : List AOper := [
  Op 194 (.bin .eql (.t 49) (.c (.str [114, 101, 100, 105, 115, 116, 114, 105, 98, 117, 116, 101]))),
  Mv 193 194]
def f465x28 : List AOper := [
  Mv 195 13,
  Mv 196 13,
  Nc 197 196,
  Fa 198 22 197,
  Ld 199 198,
  Mv 200 6,
  Op 201 (.call (.t 200) [(.c (.int .i64 1099511627776))]),
  Mv 202 6,
  Af [6] (Op 203 (.call (.t 202) [(.c (.int .i64 1099511627776))])),
  Mv 204 10,
  Af [8, 6] (Op 205 (.call (.t 204) [])),
  Af [10, 8, 6] (Ct 206 539 [205]),
  Mv 207 6,
  Af [11, 10, 8, 6] (Op 208 (.call (.t 207) [(.c (.int .i64 1099511627776))])),
  Mv 209 9,
  Af [13, 11, 10, 8, 6] (Op 210 (.call (.t 209) [])),
  Op 211 (.build [.int .i64 0, .int .i64 0, .str [], .int .i64 0, .bool false] [(0, 1), (1, 1), (2, 1), (3, 1), (4, 1)] [(.t 201), (.t 203), (.t 206), (.t 208), (.t 210)]),
  Af [15, 13, 11, 10, 8, 6] (Op 212 (.bsl 5 [.int .i64 0, .int .i64 0, .str [], .int .i64 0, .bool false] 1 [0] [(.t 211)])),
  Af [4, 17, 15, 13, 11, 10, 8, 6] (Ap 213 5 48 199 212),
  Nc 214 195,
  Fa 215 22 214,
  Af [18, 4, 17, 15, 13, 11, 10, 8, 6] (St 1 215 213)]
def f465 : AFunc := ⟨216, 3, false, [], (.seq (.region f465x0 false) (.seq (.region f465x1 false) (.seq (.seq (.region f465x2 false) (.cond (.t 28) (.seq (.region f465x3 true) .ret) .skip)) (.seq (.region f465x4 false) (.seq (.region f465x5 false) (.block 0 (.seq (.region f465x6 false) (.cond (.t 50) (.region f465x7 true) (.seq (.region f465x8 false) (.cond (.t 82) (.region f465x9 true) (.seq (.region f465x10 false) (.cond (.t 103) (.region f465x11 false) (.seq (.region f465x12 false) (.cond (.t 108) (.region f465x13 false) (.seq (.region f465x14 false) (.cond (.t 113) (.seq (.region f465x15 true) (.block 1 (.loop f465x18L))) (.seq (.region f465x19 false) (.cond (.t 143) (.seq (.region f465x20 false) (.seq (.seq (.region f465x21 false) (.cond (.t 162) (.region f465x22 false) (.seq (.region f465x23 false) (.region f465x24 false)))) (.seq (.region f465x25 false) (.region f465x26 true)))) (.seq (.region f465x27 false) (.cond (.t 193) (.region f465x28 true) .skip))))))))))))))))))))⟩
def f448x0 : List AOper := [
  Op 0 (.alloc (.agg [.str [], .str [], .str [], .str []])),
  Op 1 (.alloc (.agg [.str [], .str [], .str [], .str []]))]
def f448x1 : List AOper := [
  Op 2 (.build [.str [], .str [], .str [], .str []] [(0, 1), (1, 1), (2, 1), (3, 1)] [(.c (.str [])), (.c (.str [112, 111, 105, 110, 116])), (.c (.str [108, 97, 110])), (.c (.str [115, 116, 117, 98]))]),
  Op 3 (.build [.str [], .str [], .str [], .str []] [(0, 1), (1, 1), (2, 1), (3, 1)] [(.c (.str [])), (.c (.str [101, 120, 116, 101, 114, 110, 97, 108])), (.c (.str [99, 111, 110, 102, 101, 100])), (.c (.str [105, 110, 116, 101, 114, 110, 97, 108]))]),
  St 4 0 2,
  St 4 1 3]
def f448 : AFunc := ⟨4, 0, false, [.cell 0 (some 4), .cell 1 (some 4)], (.seq (.region f448x0 false) (.seq (.region f448x1 false) .ret))⟩
def f229x0 : List AOper := [
  Op 1 (.box (.t 0)),
  Mc 2 (.str [])]
def f229x1 : List AOper := [
  Ls 3 2 1,
  Ct 4 178 [3],
  Un 5 .not 4]
def f229x2 : List AOper := [
  Mc 2 (.str [])]
def f229x3 : List AOper := [
  Fa 6 0 1,
  Ld 7 6,
  Af [1] (Ct 8 227 [7]),
  Op 9 (.bin .add (.t 8) (.c (.str [47]))),
  Fa 10 1 1,
  Ld 11 10,
  Af [5, 2, 1] (Ct 12 246 [11]),
  Bi 13 .add 9 12,
  Mv 2 13]
def f229 : AFunc := ⟨14, 1, false, [.t 2], (.seq (.region f229x0 false) (.seq (.seq (.region f229x1 false) (.cond (.t 5) (.seq (.region f229x2 false) .ret) .skip)) (.seq (.region f229x3 true) .ret)))⟩
def f227x0 : List AOper := [
  Mc 2 (.str [])]
def f227x1 : List AOper := [
  Op 3 (.alloc (.agg [.str [], .str [], .str [], .str []]))]
def f227x2 : List AOper := [
  Mc 5 (.int .i64 0)]
def f227x3 : List AOper := [
  Bc 6 .lss 5 4]
def f227x4 : List AOper := [
  Mv 7 5,
  Mv 4 7]
def f227x5 : List AOper := [
  Mv 8 4,
  Mv 9 0,
  Mv 10 4,
  Op 11 (.bin .mul (.c (.int .i64 8)) (.t 10)),
  Op 12 (.bin .sub (.c (.int .i64 24)) (.t 11)),
  Bi 13 .shr 9 12,
  Op 14 (.bin .and (.t 13) (.c (.int .u32 255))),
  Cv 15 .i64 14,
  Ct 16 246 [15],
  Op 17 (.iarr 4 1 (.t 3) (.t 8)),
  St 1 17 16]
def f227x6 : List AOper := [
  Bc 18 .add 5 1,
  Mv 5 18]
def f227x7L : ACode := (.seq (.region f227x3 false) (.seq (.cond (.t 6) .skip (.exit 0)) (.seq (.block 1 (.seq (.region f227x4 false) (.region f227x5 false))) (.region f227x6 false))))
def f227x8 : List AOper := [
  Op 19 (.slarr 4 1 (.t 3) none none none),
  Ca 20 247 [(.t 19), (.c (.str [46]))],
  Mv 2 20]
def f227 : AFunc := ⟨21, 1, false, [.t 2], (.seq (.region f227x0 false) (.seq (.region f227x1 false) (.seq (.seq (.region f227x2 false) (.block 0 (.loop f227x7L))) (.seq (.region f227x8 false) .ret))))⟩
def f449x0 : List AOper := [
  Mc 2 (.str [])]
def f449x1 : List AOper := [
  Mv 3 0]
def f449x2 : List AOper := [
  Mc 2 (.str [121, 101, 115])]
def f449x3 : List AOper := [
  Mc 2 (.str [110, 111])]
def f449 : AFunc := ⟨4, 1, false, [.t 2], (.seq (.region f449x0 false) (.seq (.seq (.region f449x1 false) (.cond (.t 3) (.seq (.region f449x2 false) .ret) .skip)) (.seq (.region f449x3 false) .ret)))⟩
def f450x0 : List AOper := [
  Mc 2 (.str [])]
def f450x1 : List AOper := [
  Mv 3 0,
  Op 4 (.bin .eql (.t 3) (.c (.str [])))]
def f450x2 : List AOper := [
  Mc 2 (.str [46])]
def f450x3 : List AOper := [
  Mv 5 0,
  Mv 2 5]
def f450 : AFunc := ⟨6, 1, false, [.t 2], (.seq (.region f450x0 false) (.seq (.seq (.region f450x1 false) (.cond (.t 4) (.seq (.region f450x2 false) .ret) .skip)) (.seq (.region f450x3 false) .ret)))⟩
def f451x0 : List AOper := [
  Op 1 (.box (.t 0)),
  Mc 2 (.int .i64 0)]
def f451x1 : List AOper := [
  Ls 5 4 1,
  Ct 6 507 [5],
  Op 3 (.alloc (.agg [.con (.slice none 0 0), .con (.slice none 0 0), .con (.slice none 0 0), .con (.slice none 0 0)])),
  St 4 3 6]
def f451x2 : List AOper := [
  Op 7 (.iarr 4 1 (.t 3) (.c (.int .i64 0))),
  Ld 8 7,
  Op 9 (.mkfn 509 [(.t 1)]),
  Op 10 (.mkfn 510 [(.t 1)]),
  Ct 11 508 [8, 9, 10],
  Mv 4 11]
def f451x3 : List AOper := [
  Mv 12 4,
  Bc 13 .neq 12 0]
def f451x4 : List AOper := [
  Mv 14 4,
  Mv 2 14]
def f451x5 : List AOper := [
  Op 15 (.iarr 4 1 (.t 3) (.c (.int .i64 1))),
  Ld 16 15,
  Op 17 (.mkfn 513 [(.t 1)]),
  Op 18 (.mkfn 514 [(.t 1)]),
  Ct 19 508 [16, 17, 18],
  Mv 4 19]
def f451x6 : List AOper := [
  Mv 20 4,
  Bc 21 .neq 20 0]
def f451x7 : List AOper := [
  Mv 22 4,
  Mv 2 22]
def f451x8 : List AOper := [
  Op 23 (.iarr 4 1 (.t 3) (.c (.int .i64 2))),
  Ld 24 23,
  Op 25 (.mkfn 517 [(.t 1)]),
  Op 26 (.mkfn 518 [(.t 1)]),
  Ct 27 508 [24, 25, 26],
  Mv 4 27]
def f451x9 : List AOper := [
  Mv 28 4,
  Bc 29 .neq 28 0]
def f451x10 : List AOper := [
  Mv 30 4,
  Mv 2 30]
def f451x11 : List AOper := [
  Op 31 (.iarr 4 1 (.t 3) (.c (.int .i64 3))),
  Ld 32 31,
  Op 33 (.mkfn 521 [(.t 1)]),
  Op 34 (.mkfn 522 [(.t 3), (.t 1)]),
  Ct 35 508 [32, 33, 34],
  Mv 2 35]
def f451 : AFunc := ⟨36, 1, false, [.t 2], (.seq (.region f451x0 false) (.seq (.region f451x1 false) (.seq (.region f451x2 false) (.seq (.seq (.region f451x3 false) (.cond (.t 13) (.seq (.region f451x4 false) .ret) .skip)) (.seq (.region f451x5 false) (.seq (.seq (.region f451x6 false) (.cond (.t 21) (.seq (.region f451x7 false) .ret) .skip)) (.seq (.region f451x8 false) (.seq (.seq (.region f451x9 false) (.cond (.t 29) (.seq (.region f451x10 false) .ret) .skip)) (.seq (.region f451x11 false) .ret)))))))))⟩
def f332x0 : List AOper := [
  Op 1 (.box (.t 0)),
  Mc 2 (.str []),
  Mc 3 (.int .i64 0)]
def f332x1 : List AOper := [
  Ls 6 5 1,
  Ct 7 325 [6],
  Mv 4 7]
def f332x2 : List AOper := [
  Mv 8 4,
  Bc 9 .neq 8 0]
def f332x3 : List AOper := [
  Mv 10 4,
  Mc 2 (.str []),
  Mv 3 10]
def f332x4 : List AOper := [
  Mc 5 (.str [100, 101, 110, 121, 32])]
def f332x5 : List AOper := [
  Fa 11 0 1,
  Ld 12 11]
def f332x6 : List AOper := [
  Mc 5 (.str [112, 101, 114, 109, 105, 116, 32])]
def f332x7 : List AOper := [
  Mv 13 5,
  Fa 14 1 1,
  Ls 15 2 14,
  Ct 16 229 [15],
  Bi 17 .add 13 16,
  Mv 5 17]
def f332x8 : List AOper := [
  Fa 18 3 1,
  Ld 19 18,
  Fa 20 1 1,
  Fa 21 1 20,
  Ld 22 21,
  Bi 23 .neq 19 22,
  Mv 24 23,
  Gf 24 (Fa 25 4 1),
  Gf 24 (Ld 26 25),
  Gf 24 (Fa 27 1 1),
  Gf 24 (Fa 28 1 27),
  Gf 24 (Ld 29 28),
  Gf 24 (Bi 30 .neq 26 29),
  Po 31 24 30]
def f332x9 : List AOper := [
  Mv 32 5,
  Fa 33 3 1,
  Ld 34 33,
  Af [2] (Ct 35 337 [34]),
  Op 36 (.bin .add (.c (.str [32])) (.t 35)),
  Op 37 (.bin .add (.t 36) (.c (.str [45]))),
  Fa 38 4 1,
  Ld 39 38,
  Af [7, 3, 2] (Ct 40 337 [39]),
  Bi 41 .add 37 40,
  Bi 42 .add 32 41,
  Mv 5 42]
def f332x10 : List AOper := [
  Mv 43 5,
  Mv 2 43,
  Mc 3 (.int .i64 0)]
def f332 : AFunc := ⟨44, 1, false, [.t 2, .t 3], (.seq (.region f332x0 false) (.seq (.seq (.region f332x1 false) (.seq (.region f332x2 false) (.cond (.t 9) (.seq (.region f332x3 false) .ret) .skip))) (.seq (.region f332x4 false) (.seq (.seq (.region f332x5 false) (.cond (.t 12) (.region f332x6 false) .skip)) (.seq (.region f332x7 false) (.seq (.seq (.region f332x8 false) (.cond (.t 31) (.region f332x9 true) .skip)) (.seq (.region f332x10 false) .ret)))))))⟩
def f452x0 : List AOper := [
  Mc 2 (.str [])]
def f452x1 : List AOper := [
  Mv 3 0]
def f452x2 : List AOper := [
  Mc 2 (.str [112, 101, 114, 109, 105, 116, 32])]
def f452x3 : List AOper := [
  Mc 2 (.str [100, 101, 110, 121, 32])]
def f452 : AFunc := ⟨4, 1, false, [.t 2], (.seq (.region f452x0 false) (.seq (.seq (.region f452x1 false) (.cond (.t 3) (.seq (.region f452x2 false) .ret) .skip)) (.seq (.region f452x3 false) .ret)))⟩
def f453x0 : List AOper := [
  Mc 2 (.str [])]
def f453x1 : List AOper := [
  Mv 3 0,
  Bc 4 .lss 3 0]
def f453x2 : List AOper := [
  Mc 2 (.str [42])]
def f453x3 : List AOper := [
  Mv 5 0,
  Ct 6 337 [5],
  Mv 2 6]
def f453 : AFunc := ⟨7, 1, false, [.t 2], (.seq (.region f453x0 false) (.seq (.seq (.region f453x1 false) (.cond (.t 4) (.seq (.region f453x2 false) .ret) .skip)) (.seq (.region f453x3 false) .ret)))⟩
def f454x0 : List AOper := [
  Op 1 (.box (.t 0)),
  Mc 2 (.str [])]
def f454x1 : List AOper := [
  Fa 11 0 1,
  Ld 12 11,
  Op 13 (.bin .add (.c (.str [112, 111, 108, 105, 99, 121, 32])) (.t 12)),
  Op 14 (.bin .add (.t 13) (.c (.str [10]))),
  Mv 3 14]
def f454x2 : List AOper := [
  Fa 15 1 1,
  Ld 16 15,
  Ln 17 0 16,
  Mc 18 (.int .i64 0)]
def f454x3 : List AOper := [
  Bi 19 .lss 18 17]
def f454x4 : List AOper := [
  Ia 20 4 16 18,
  Ls 21 4 20,
  Op 5 (.alloc (.agg [.str [], .con (.slice none 0 0), .con (.slice none 0 0), .int .i64 0])),
  St 4 5 21]
def f454x5 : List AOper := [
  Mv 22 3,
  Fa 23 0 5,
  Ld 24 23,
  Op 25 (.bin .add (.c (.str [116, 101, 114, 109, 32])) (.t 24)),
  Op 26 (.bin .add (.t 25) (.c (.str [10]))),
  Bi 27 .add 22 26,
  Mv 3 27]
def f454x6 : List AOper := [
  Fa 28 1 5,
  Ld 29 28,
  Ln 30 0 29,
  Mc 31 (.int .i64 0)]
def f454x7 : List AOper := [
  Bi 32 .lss 31 30]
def f454x8 : List AOper := [
  Ia 33 6 29 31,
  Ls 34 6 33,
  Op 7 (.alloc (.agg [.int .i64 0, .str [], .int .i64 0, .int .u32 0, .int .i64 0, .bool false])),
  St 6 7 34]
def f454x9 : List AOper := [
  Mc 8 (.str [])]
def f454x10 : List AOper := [
  Fa 35 5 7,
  Ld 36 35]
def f454x11 : List AOper := [
  Mc 8 (.str [110, 111, 116, 32])]
def f454x12 : List AOper := [
  Mv 37 3,
  Mv 38 8,
  Op 39 (.bin .add (.c (.str [109, 97, 116, 99, 104, 32])) (.t 38)),
  Ls 40 6 7,
  Ct 41 524 [40],
  Bi 42 .add 39 41,
  Op 43 (.bin .add (.t 42) (.c (.str [10]))),
  Bi 44 .add 37 43,
  Mv 3 44]
def f454x13 : List AOper := [
  Bc 45 .add 31 1,
  Mv 31 45]
def f454x14L : ACode := (.seq (.region f454x7 false) (.seq (.cond (.t 32) .skip (.exit 2)) (.seq (.block 3 (.seq (.region f454x8 false) (.seq (.region f454x9 false) (.seq (.seq (.region f454x10 false) (.cond (.t 36) (.region f454x11 false) .skip)) (.region f454x12 false))))) (.region f454x13 false))))
def f454x15 : List AOper := [
  Fa 46 2 5,
  Ld 47 46,
  Ln 48 0 47,
  Mc 49 (.int .i64 0)]
def f454x16 : List AOper := [
  Bi 50 .lss 49 48]
def f454x17 : List AOper := [
  Ia 51 5 47 49,
  Ls 52 5 51,
  Op 10 (.alloc (.agg [.int .i64 0, .int .i64 0, .int .i64 0, .int .u32 0, .int .u32 0])),
  St 5 10 52]
def f454x18 : List AOper := [
  Mv 53 3,
  Ls 54 5 10,
  Ct 55 525 [54],
  Op 56 (.bin .add (.c (.str [115, 101, 116, 32])) (.t 55)),
  Op 57 (.bin .add (.t 56) (.c (.str [10]))),
  Bi 58 .add 53 57,
  Mv 3 58]
def f454x19 : List AOper := [
  Bc 59 .add 49 1,
  Mv 49 59]
def f454x20L : ACode := (.seq (.region f454x16 false) (.seq (.cond (.t 50) .skip (.exit 4)) (.seq (.block 5 (.seq (.region f454x17 false) (.region f454x18 false))) (.region f454x19 false))))
def f454x21 : List AOper := [
  Mv 60 3,
  Fa 61 3 5,
  Ld 62 61,
  Ct 63 526 [62],
  Op 64 (.bin .add (.t 63) (.c (.str [10]))),
  Bi 65 .add 60 64,
  Mv 3 65]
def f454x22 : List AOper := [
  Bc 66 .add 18 1,
  Mv 18 66]
def f454x23L : ACode := (.seq (.region f454x3 false) (.seq (.cond (.t 19) .skip (.exit 0)) (.seq (.block 1 (.seq (.region f454x4 false) (.seq (.region f454x5 false) (.seq (.seq (.region f454x6 false) (.block 2 (.loop f454x14L))) (.seq (.seq (.region f454x15 false) (.block 4 (.loop f454x20L))) (.region f454x21 false)))))) (.region f454x22 false))))
def f454x24 : List AOper := [
  Mv 67 3,
  Op 68 (.bin .add (.t 67) (.c (.str [100, 101, 102, 97, 117, 108, 116, 32]))),
  Fa 69 2 1,
  Ld 70 69,
  Ct 71 526 [70],
  Bi 72 .add 68 71,
  Op 73 (.bin .add (.t 72) (.c (.str [10]))),
  Mv 2 73]
def f454 : AFunc := ⟨74, 1, false, [.t 2], (.seq (.region f454x0 false) (.seq (.region f454x1 false) (.seq (.seq (.region f454x2 false) (.block 0 (.loop f454x23L))) (.seq (.region f454x24 false) .ret))))⟩
def f246x0 : List AOper := [
  Mc 2 (.str [])]
def f246x1 : List AOper := [
  Mv 3 0,
  Ct 4 258 [3],
  Mv 2 4]
def f246 : AFunc := ⟨5, 1, false, [.t 2], (.seq (.region f246x0 false) (.seq (.region f246x1 false) .ret))⟩
def f436x0 : List AOper := [
  Mc 2 (.bool false)]
def f436x1 : List AOper := [
  Mv 5 0,
  Ln 6 1 5,
  Mc 7 (.int .i64 0)]
def f436x2 : List AOper := [
  Bi 8 .lss 7 6]
def f436x3 : List AOper := [
  Mv 9 7,
  Mv 3 9]
def f436x4 : List AOper := [
  Mv 10 0,
  Mv 11 3,
  Op 12 (.istr (.t 10) (.t 11)),
  Mv 4 12]
def f436x5 : List AOper := [
  Mv 13 4,
  Op 14 (.bin .geq (.t 13) (.c (.int .u8 97))),
  Mv 15 14,
  Gt 15 (Mv 16 4),
  Gt 15 (Op 17 (.bin .leq (.t 16) (.c (.int .u8 122)))),
  Pa 18 15 17,
  Mv 19 18,
  Gf 19 (Mv 20 4),
  Gf 19 (Op 21 (.bin .geq (.t 20) (.c (.int .u8 48)))),
  Gf 19 (Mv 22 21),
  Gt 22 (Mv 23 4),
  Gt 22 (Op 24 (.bin .leq (.t 23) (.c (.int .u8 57)))),
  Gf 19 (Pa 25 22 24),
  Po 26 19 25,
  Mv 27 26,
  Gf 27 (Mv 28 4),
  Gf 27 (Op 29 (.bin .eql (.t 28) (.c (.int .u8 45)))),
  Po 30 27 29,
  Un 31 .not 30]
def f436x6 : List AOper := [
  Mc 2 (.bool false)]
def f436x7 : List AOper := [
  Bc 32 .add 7 1,
  Mv 7 32]
def f436x8L : ACode := (.seq (.region f436x2 false) (.seq (.cond (.t 8) .skip (.exit 0)) (.seq (.block 1 (.seq (.region f436x3 false) (.seq (.region f436x4 false) (.seq (.region f436x5 false) (.cond (.t 31) (.seq (.region f436x6 false) .ret) .skip))))) (.region f436x7 false))))
def f436x9 : List AOper := [
  Mv 33 0,
  Ln 34 1 33,
  Bc 35 .geq 34 1,
  Mv 36 35,
  Gt 36 (Mv 37 0),
  Gt 36 (Ln 38 1 37),
  Gt 36 (Bc 39 .leq 38 32),
  Pa 40 36 39,
  Mv 2 40]
def f436 : AFunc := ⟨41, 1, false, [.t 2], (.seq (.region f436x0 false) (.seq (.seq (.region f436x1 false) (.block 0 (.loop f436x8L))) (.seq (.region f436x9 false) .ret)))⟩
def f437x0 : List AOper := [
  Op 1 (.box (.t 0)),
  Mc 2 (.int .i64 0)]
def f437x1 : List AOper := [
  Fa 8 0 1,
  Ld 9 8,
  Op 10 (.bin .eql (.t 9) (.c (.int .u32 0))),
  Mv 7 10]
def f437x2 : List AOper := [
  Mc 2 (.int .i64 5)]
def f437x3 : List AOper := [
  Fa 12 1 1,
  Ld 13 12,
  Ln 14 0 13,
  Bc 15 .eql 14 0,
  Mv 11 15]
def f437x4 : List AOper := [
  Mc 2 (.int .i64 1)]
def f437x5 : List AOper := [
  Fa 17 1 1,
  Ld 18 17,
  Ln 19 0 18,
  Bc 20 .gtr 19 16,
  Mv 21 20,
  Gf 21 (Fa 22 2 1),
  Gf 21 (Ld 23 22),
  Gf 21 (Ln 24 0 23),
  Gf 21 (Bc 25 .gtr 24 64),
  Po 26 21 25,
  Mv 16 26]
def f437x6 : List AOper := [
  Mc 2 (.int .i64 4)]
def f437x7 : List AOper := [
  Fa 27 1 1,
  Ld 28 27,
  Ct 29 490 [28],
  Mv 3 29]
def f437x8 : List AOper := [
  Mv 30 3,
  Bc 31 .neq 30 0]
def f437x9 : List AOper := [
  Mv 32 3,
  Mv 2 32]
def f437x10 : List AOper := [
  Fa 33 2 1,
  Ld 34 33,
  Ln 35 0 34,
  Mc 36 (.int .i64 0)]
def f437x11 : List AOper := [
  Bi 37 .lss 36 35]
def f437x12 : List AOper := [
  Mv 38 36,
  Ia 39 4 34 36,
  Ls 40 4 39,
  Op 5 (.alloc (.agg [.int .u32 0, .int .u32 0, .int .i64 0, .bool false])),
  Mv 4 38,
  St 4 5 40]
def f437x13 : List AOper := [
  Fa 41 1 5,
  Ls 42 2 41,
  Ct 43 178 [42],
  Un 44 .not 43]
def f437x14 : List AOper := [
  Mc 2 (.int .i64 1)]
def f437x15 : List AOper := [
  Mv 45 4,
  Bc 46 .gtr 45 0]
def f437x16 : List AOper := [
  Fa 47 2 1,
  Ld 48 47,
  Mv 49 4,
  Bc 50 .sub 49 1,
  Ia 51 4 48 50,
  Ls 52 4 51,
  Op 6 (.alloc (.agg [.int .u32 0, .int .u32 0, .int .i64 0, .bool false])),
  St 4 6 52]
def f437x17 : List AOper := [
  Fa 53 0 6,
  Ld 54 53,
  Fa 55 0 5,
  Ld 56 55,
  Af [1, 3] (Ct 57 43 [54, 56]),
  Fa 58 1 6,
  Ls 59 2 58,
  Fa 60 1 5,
  Ls 61 2 60,
  Af [6, 8, 4, 1, 3] (Ct 62 172 [59, 61]),
  Af [9, 6, 8, 4, 1, 3] (Op 63 (.bsl 1 [.int .i64 0] 2 [0, 1] [(.t 57), (.t 62)])),
  Af [10, 9, 6, 8, 4, 1, 3] (Ct 64 41 [63]),
  Bc 65 .geq 64 0]
def f437x18 : List AOper := [
  Mc 2 (.int .i64 16)]
def f437x19 : List AOper := [
  Bc 66 .add 36 1,
  Mv 36 66]
def f437x20L : ACode := (.seq (.region f437x11 false) (.seq (.cond (.t 37) .skip (.exit 1)) (.seq (.block 2 (.seq (.region f437x12 false) (.seq (.seq (.region f437x13 false) (.cond (.t 44) (.seq (.region f437x14 false) .ret) .skip)) (.seq (.region f437x15 false) (.cond (.t 46) (.seq (.region f437x16 false) (.seq (.region f437x17 true) (.cond (.t 65) (.seq (.region f437x18 false) .ret) .skip))) .skip))))) (.region f437x19 false))))
def f437x21 : List AOper := [
  Mc 2 (.int .i64 0)]
def f437 : AFunc := ⟨67, 1, false, [.t 2], (.seq (.region f437x0 false) (.seq (.block 0 (.seq (.region f437x1 false) (.cond (.t 7) (.seq (.region f437x2 false) .ret) (.seq (.region f437x3 false) (.cond (.t 11) (.seq (.region f437x4 false) .ret) (.seq (.region f437x5 false) (.cond (.t 16) (.seq (.region f437x6 false) .ret) .skip))))))) (.seq (.seq (.region f437x7 false) (.seq (.region f437x8 false) (.cond (.t 31) (.seq (.region f437x9 false) .ret) .skip))) (.seq (.seq (.region f437x10 false) (.block 1 (.loop f437x20L))) (.seq (.region f437x21 false) .ret)))))⟩
def f438x0 : List AOper := [
  Op 1 (.box (.t 0)),
  Mc 2 (.int .i64 0)]
def f438x1 : List AOper := [
  Fa 4 4 1,
  Ld 5 4,
  Un 6 .not 5]
def f438x2 : List AOper := [
  Fa 7 5 1,
  Fa 8 6 7,
  Ls 9 4 8,
  Ct 10 451 [9],
  Bc 11 .neq 10 0]
def f438x3 : List AOper := [
  Mc 2 (.int .i64 1)]
def f438x4 : List AOper := [
  Mc 2 (.int .i64 0)]
def f438x5 : List AOper := [
  Fa 12 5 1,
  Ls 13 15 12,
  Ct 14 491 [13],
  Mv 3 14]
def f438x6 : List AOper := [
  Mv 15 3,
  Bc 16 .neq 15 0]
def f438x7 : List AOper := [
  Mv 17 3,
  Mv 2 17]
def f438x8 : List AOper := [
  Fa 18 5 1,
  Fa 19 2 18,
  Ld 20 19,
  Fa 21 1 1,
  Fa 22 0 21,
  Ld 23 22,
  Bi 24 .neq 20 23]
def f438x9 : List AOper := [
  Mc 2 (.int .i64 14)]
def f438x10 : List AOper := [
  Mc 2 (.int .i64 0)]
def f438 : AFunc := ⟨25, 1, false, [.t 2], (.seq (.region f438x0 false) (.seq (.seq (.region f438x1 false) (.cond (.t 6) (.seq (.seq (.region f438x2 false) (.cond (.t 11) (.seq (.region f438x3 false) .ret) .skip)) (.seq (.region f438x4 false) .ret)) .skip)) (.seq (.seq (.region f438x5 false) (.seq (.region f438x6 false) (.cond (.t 16) (.seq (.region f438x7 false) .ret) .skip))) (.seq (.seq (.region f438x8 false) (.cond (.t 24) (.seq (.region f438x9 false) .ret) .skip)) (.seq (.region f438x10 false) .ret)))))⟩
def f439x0 : List AOper := [
  Op 2 (.box (.t 0)),
  Mc 4 (.int .i64 0)]
def f439x1 : List AOper := [
  Ls 9 4 2,
  Ct 10 451 [9],
  Mv 5 10]
def f439x2 : List AOper := [
  Mv 11 5,
  Bc 12 .neq 11 0]
def f439x3 : List AOper := [
  Mv 13 5,
  Mv 4 13]
def f439x4 : List AOper := [
  Mv 14 1,
  Ln 15 0 14,
  Bc 16 .gtr 15 64]
def f439x5 : List AOper := [
  Mc 4 (.int .i64 4)]
def f439x6 : List AOper := [
  Mv 17 1,
  Ln 18 0 17,
  Mc 19 (.int .i64 0)]
def f439x7 : List AOper := [
  Bi 20 .lss 19 18]
def f439x8 : List AOper := [
  Ia 21 5 17 19,
  Ls 22 5 21,
  Op 7 (.alloc (.agg [.int .i64 0, .int .i64 0, .str [], .int .i64 0, .bool false])),
  St 5 7 22]
def f439x9 : List AOper := [
  Ls 23 4 2,
  Ls 24 5 7,
  Ct 25 492 [23, 24],
  Mv 8 25]
def f439x10 : List AOper := [
  Mv 26 8,
  Bc 27 .neq 26 0]
def f439x11 : List AOper := [
  Mv 28 8,
  Mv 4 28]
def f439x12 : List AOper := [
  Bc 29 .add 19 1,
  Mv 19 29]
def f439x13L : ACode := (.seq (.region f439x7 false) (.seq (.cond (.t 20) .skip (.exit 0)) (.seq (.block 1 (.seq (.region f439x8 false) (.seq (.region f439x9 false) (.seq (.region f439x10 false) (.cond (.t 27) (.seq (.region f439x11 false) .ret) .skip))))) (.region f439x12 false))))
def f439x14 : List AOper := [
  Mc 4 (.int .i64 0)]
def f439 : AFunc := ⟨30, 2, false, [.t 4], (.seq (.region f439x0 false) (.seq (.seq (.region f439x1 false) (.seq (.region f439x2 false) (.cond (.t 12) (.seq (.region f439x3 false) .ret) .skip))) (.seq (.seq (.region f439x4 false) (.cond (.t 16) (.seq (.region f439x5 false) .ret) .skip)) (.seq (.seq (.region f439x6 false) (.block 0 (.loop f439x13L))) (.seq (.region f439x14 false) .ret)))))⟩
def f440x0 : List AOper := [
  Op 1 (.box (.t 0)),
  Mc 2 (.int .i64 0)]
def f440x1 : List AOper := [
  Fa 7 23 1,
  Ld 8 7,
  Ln 9 0 8,
  Mc 10 (.int .i64 0)]
def f440x2 : List AOper := [
  Bi 11 .lss 10 9]
def f440x3 : List AOper := [
  Ia 12 4 8 10,
  Ls 13 4 12,
  Op 4 (.alloc (.agg [.int .u32 0, .int .i64 0, .int .u32 0, .int .i64 0])),
  St 4 4 13]
def f440x4 : List AOper := [
  Fa 14 0 4,
  Ls 15 2 14,
  Ct 16 178 [15],
  Un 17 .not 16,
  Mv 18 17,
  Gf 18 (Fa 19 3 4),
  Gf 18 (Ld 20 19),
  Gf 18 (Bc 21 .lss 20 0),
  Po 22 18 21,
  Mv 23 22,
  Gf 23 (Fa 24 3 4),
  Gf 23 (Ld 25 24),
  Gf 23 (Bc 26 .gtr 25 255),
  Po 27 23 26]
def f440x5 : List AOper := [
  Mc 2 (.int .i64 1)]
def f440x6 : List AOper := [
  Bc 28 .add 10 1,
  Mv 10 28]
def f440x7L : ACode := (.seq (.region f440x2 false) (.seq (.cond (.t 11) .skip (.exit 0)) (.seq (.block 1 (.seq (.region f440x3 false) (.seq (.region f440x4 false) (.cond (.t 27) (.seq (.region f440x5 false) .ret) .skip)))) (.region f440x6 false))))
def f440x8 : List AOper := [
  Fa 29 24 1,
  Ld 30 29,
  Ln 31 0 30,
  Bc 32 .neq 31 0,
  Mv 33 32,
  Gt 33 (Fa 34 24 1),
  Gt 33 (Ld 35 34),
  Gt 33 (Ln 36 0 35),
  Gt 33 (Bc 37 .neq 36 7),
  Pa 38 33 37]
def f440x9 : List AOper := [
  Mc 2 (.int .i64 1)]
def f440x10 : List AOper := [
  Fa 39 24 1,
  Ld 40 39,
  Ln 41 0 40,
  Mc 42 (.int .i64 0)]
def f440x11 : List AOper := [
  Bi 43 .lss 42 41]
def f440x12 : List AOper := [
  Ia 44 1 40 42,
  Ld 45 44,
  Mv 6 45]
def f440x13 : List AOper := [
  Mv 46 6,
  Bc 47 .lss 46 0,
  Mv 48 47,
  Gf 48 (Mv 49 6),
  Gf 48 (Bc 50 .gtr 49 255),
  Po 51 48 50]
def f440x14 : List AOper := [
  Mc 2 (.int .i64 1)]
def f440x15 : List AOper := [
  Bc 52 .add 42 1,
  Mv 42 52]
def f440x16L : ACode := (.seq (.region f440x11 false) (.seq (.cond (.t 43) .skip (.exit 2)) (.seq (.block 3 (.seq (.region f440x12 false) (.seq (.region f440x13 false) (.cond (.t 51) (.seq (.region f440x14 false) .ret) .skip)))) (.region f440x15 false))))
def f440x17 : List AOper := [
  Mc 2 (.int .i64 0)]
def f440 : AFunc := ⟨53, 1, false, [.t 2], (.seq (.region f440x0 false) (.seq (.seq (.region f440x1 false) (.block 0 (.loop f440x7L))) (.seq (.seq (.region f440x8 false) (.cond (.t 38) (.seq (.region f440x9 false) .ret) .skip)) (.seq (.seq (.region f440x10 false) (.block 2 (.loop f440x16L))) (.seq (.region f440x17 false) .ret)))))⟩
def f441x0 : List AOper := [
  Op 3 (.box (.t 0)),
  Op 4 (.box (.t 1)),
  Mc 6 (.int .i64 0)]
def f441x1 : List AOper := [
  Fa 13 0 4,
  Ld 14 13,
  Ln 15 0 14,
  Mc 16 (.int .i64 0)]
def f441x2 : List AOper := [
  Bi 17 .lss 16 15]
def f441x3 : List AOper := [
  Mv 18 16,
  Ia 19 2 14 16,
  Ls 20 2 19,
  Op 8 (.alloc (.agg [.int .i64 0, .int .i64 0])),
  Mv 7 18,
  St 2 8 20]
def f441x4 : List AOper := [
  Ls 22 2 3,
  Ls 23 2 8,
  Ct 24 426 [22, 23],
  Mv 21 24,
  Ex 25 21 0,
  Ex 26 21 1,
  Op 9 (.alloc (.agg [.int .i64 0, .int .u32 0, .int .i64 0, .int .u32 0, .int .u32 0, .int .i64 0, .int .i64 0, .int .i64 0, .int .i64 0])),
  St 9 9 25,
  Mv 10 26]
def f441x5 : List AOper := [
  Mv 27 10,
  Un 28 .not 27]
def f441x6 : List AOper := [
  Mc 6 (.int .i64 5)]
def f441x7 : List AOper := [
  Mv 29 2,
  Ls 30 2 8,
  Op 31 (.mlook true [.int, .int] (.bool false) (.t 29) (.t 30))]
def f441x8 : List AOper := [
  Mc 6 (.int .i64 7)]
def f441x9 : List AOper := [
  Fa 32 0 4,
  Ld 33 32,
  Mv 34 7,
  Op 35 (.slc 2 (.t 33) none (some (.t 34)) none),
  Ln 36 0 35,
  Mc 37 (.int .i64 0)]
def f441x10 : List AOper := [
  Bi 38 .lss 37 36]
def f441x11 : List AOper := [
  Ia 39 2 35 37,
  Ls 40 2 39,
  Op 12 (.alloc (.agg [.int .i64 0, .int .i64 0])),
  St 2 12 40]
def f441x12 : List AOper := [
  Fa 41 0 12,
  Ld 42 41,
  Fa 43 0 8,
  Ld 44 43,
  Bi 45 .eql 42 44]
def f441x13 : List AOper := [
  Mc 6 (.int .i64 1)]
def f441x14 : List AOper := [
  Bc 46 .add 37 1,
  Mv 37 46]
def f441x15L : ACode := (.seq (.region f441x10 false) (.seq (.cond (.t 38) .skip (.exit 2)) (.seq (.block 3 (.seq (.region f441x11 false) (.seq (.region f441x12 false) (.cond (.t 45) (.seq (.region f441x13 false) .ret) .skip)))) (.region f441x14 false))))
def f441x16 : List AOper := [
  Mv 47 2,
  Ls 48 2 8,
  ⟨none, .mset true [.int, .int] (.t 47) (.t 48) (.c (.bool true)), none, []⟩]
def f441x17 : List AOper := [
  Bc 49 .add 16 1,
  Mv 16 49]
def f441x18L : ACode := (.seq (.region f441x2 false) (.seq (.cond (.t 17) .skip (.exit 0)) (.seq (.block 1 (.seq (.region f441x3 false) (.seq (.seq (.region f441x4 false) (.seq (.region f441x5 false) (.cond (.t 28) (.seq (.region f441x6 false) .ret) .skip))) (.seq (.seq (.region f441x7 false) (.cond (.t 31) (.seq (.region f441x8 false) .ret) .skip)) (.seq (.seq (.region f441x9 false) (.block 2 (.loop f441x15L))) (.region f441x16 false)))))) (.region f441x17 false))))
def f441x19 : List AOper := [
  Mc 6 (.int .i64 0)]
def f441 : AFunc := ⟨50, 3, false, [.t 6], (.seq (.region f441x0 false) (.seq (.seq (.region f441x1 false) (.block 0 (.loop f441x18L))) (.seq (.region f441x19 false) .ret)))⟩
def f426x0 : List AOper := [
  Op 2 (.box (.t 0)),
  Op 3 (.box (.t 1)),
  Op 4 (.alloc (.agg [.int .i64 0, .int .u32 0, .int .i64 0, .int .u32 0, .int .u32 0, .int .i64 0, .int .i64 0, .int .i64 0, .int .i64 0])),
  Mc 5 (.bool false)]
def f426x1 : List AOper := [
  Fa 7 0 3,
  Ld 8 7,
  Bc 9 .lss 8 0,
  Mv 10 9,
  Gf 10 (Fa 11 0 3),
  Gf 10 (Ld 12 11),
  Gf 10 (Fa 13 0 2),
  Gf 10 (Ld 14 13),
  Gf 10 (Ln 15 0 14),
  Gf 10 (Bi 16 .geq 12 15),
  Po 17 10 16]
def f426x2 : List AOper := [
  Op 18 (.build [.int .i64 0, .int .u32 0, .int .i64 0, .int .u32 0, .int .u32 0, .int .i64 0, .int .i64 0, .int .i64 0, .int .i64 0] [] []),
  St 9 4 18,
  Mc 5 (.bool false)]
def f426x3 : List AOper := [
  Fa 19 0 2,
  Ld 20 19,
  Fa 21 0 3,
  Ld 22 21,
  Ia 23 25 20 22,
  Fa 24 1 23,
  Fa 25 1 24,
  Ld 26 25,
  Mv 6 26]
def f426x4 : List AOper := [
  Fa 27 1 3,
  Ld 28 27,
  Bc 29 .lss 28 0,
  Mv 30 29,
  Gf 30 (Fa 31 1 3),
  Gf 30 (Ld 32 31),
  Gf 30 (Mv 33 6),
  Gf 30 (Ln 34 0 33),
  Gf 30 (Bi 35 .geq 32 34),
  Po 36 30 35]
def f426x5 : List AOper := [
  Op 37 (.build [.int .i64 0, .int .u32 0, .int .i64 0, .int .u32 0, .int .u32 0, .int .i64 0, .int .i64 0, .int .i64 0, .int .i64 0] [] []),
  St 9 4 37,
  Mc 5 (.bool false)]
def f426x6 : List AOper := [
  Mv 38 6,
  Fa 39 1 3,
  Ld 40 39,
  Ia 41 9 38 40,
  Ls 42 9 41,
  St 9 4 42,
  Mc 5 (.bool true)]
def f426 : AFunc := ⟨43, 2, false, [.cell 4 (some 9), .t 5], (.seq (.region f426x0 false) (.seq (.seq (.region f426x1 false) (.cond (.t 17) (.seq (.region f426x2 false) .ret) .skip)) (.seq (.region f426x3 false) (.seq (.seq (.region f426x4 false) (.cond (.t 36) (.seq (.region f426x5 false) .ret) .skip)) (.seq (.region f426x6 false) .ret)))))⟩
def f530x0 : List AOper := [
  Mc 2 (.str []),
  Mc 3 (.str [])]
def f530x1 : List AOper := [
  Mv 5 0,
  Ln 6 1 5,
  Mc 7 (.int .i64 0)]
def f530x2 : List AOper := [
  Bi 8 .lss 7 6]
def f530x3 : List AOper := [
  Mv 9 7,
  Mv 4 9]
def f530x4 : List AOper := [
  Mv 10 0,
  Mv 11 4,
  Op 12 (.istr (.t 10) (.t 11)),
  Op 13 (.bin .eql (.t 12) (.c (.int .u8 58)))]
def f530x5 : List AOper := [
  Mv 14 0,
  Mv 15 4,
  Op 16 (.slstr (.t 14) none (some (.t 15))),
  Mv 17 0,
  Mv 18 4,
  Bc 19 .add 18 1,
  Op 20 (.slstr (.t 17) (some (.t 19)) none),
  Mv 2 16,
  Mv 3 20]
def f530x6 : List AOper := [
  Bc 21 .add 7 1,
  Mv 7 21]
def f530x7L : ACode := (.seq (.region f530x2 false) (.seq (.cond (.t 8) .skip (.exit 0)) (.seq (.block 1 (.seq (.region f530x3 false) (.seq (.region f530x4 false) (.cond (.t 13) (.seq (.region f530x5 true) .ret) .skip)))) (.region f530x6 false))))
def f530x8 : List AOper := [
  Mc 2 (.str []),
  Mc 3 (.str [])]
def f530 : AFunc := ⟨22, 1, false, [.t 2, .t 3], (.seq (.region f530x0 false) (.seq (.seq (.region f530x1 false) (.block 0 (.loop f530x7L))) (.seq (.region f530x8 false) .ret)))⟩
def f531x0 : List AOper := [
  Mc 2 (.str [])]
def f531x1 : List AOper := [
  Mv 4 0,
  Nc 5 4,
  Fa 6 0 5,
  Ld 7 6,
  Ln 8 0 7,
  Bc 9 .eql 8 0]
def f531x2 : List AOper := [
  Mv 10 0,
  Nc 11 10,
  Fa 12 1 11,
  ⟨none, .store 1 (.t 12) (.c (.bool true)), none, []⟩]
def f531x3 : List AOper := [
  Mc 2 (.str [])]
def f531x4 : List AOper := [
  Mv 13 0,
  Nc 14 13,
  Fa 15 0 14,
  Ld 16 15,
  Op 17 (.iadr 1 (.t 16) (.c (.int .i64 0))),
  Ld 18 17,
  Mv 3 18]
def f531x5 : List AOper := [
  Mv 19 0,
  Mv 20 0,
  Nc 21 20,
  Fa 22 0 21,
  Ld 23 22,
  Op 24 (.slc 1 (.t 23) (some (.c (.int .i64 1))) none none),
  Nc 25 19,
  Fa 26 0 25,
  St 1 26 24]
def f531x6 : List AOper := [
  Mv 27 3,
  Mv 2 27]
def f531 : AFunc := ⟨28, 1, false, [.t 2], (.seq (.region f531x0 false) (.seq (.seq (.region f531x1 false) (.cond (.t 9) (.seq (.region f531x2 false) (.seq (.region f531x3 false) .ret)) .skip)) (.seq (.region f531x4 false) (.seq (.region f531x5 false) (.seq (.region f531x6 false) .ret)))))⟩
def f346x0 : List AOper := [
  Mc 4 (.int .i64 0),
  Mc 5 (.int .i64 0)]
def f346x1 : List AOper := [
  Mv 9 0,
  Ct 10 347 [9],
  Un 11 .not 10]
def f346x2 : List AOper := [
  Mc 4 (.int .i64 0),
  Mc 5 (.int .i64 2)]
def f346x3 : List AOper := [
  Mc 6 (.int .i64 0)]
def f346x4 : List AOper := [
  Mv 12 0,
  Ln 13 1 12,
  Mc 14 (.int .i64 0)]
def f346x5 : List AOper := [
  Bi 15 .lss 14 13]
def f346x6 : List AOper := [
  Mv 16 14,
  Mv 7 16]
def f346x7 : List AOper := [
  Mv 17 0,
  Mv 18 7,
  Op 19 (.istr (.t 17) (.t 18)),
  Op 20 (.bin .sub (.t 19) (.c (.int .u8 48))),
  Cv 21 .i64 20,
  Mv 8 21]
def f346x8 : List AOper := [
  Mv 22 6,
  Mv 23 8,
  Op 24 (.bin .sub (.c (.int .i64 9223372036854775807)) (.t 23)),
  Bc 25 .quo 24 10,
  Bi 26 .gtr 22 25]
def f346x9 : List AOper := [
  Mc 4 (.int .i64 0),
  Mc 5 (.int .i64 5)]
def f346x10 : List AOper := [
  Mv 27 6,
  Op 28 (.bin .mul (.c (.int .i64 10)) (.t 27)),
  Mv 29 8,
  Bi 30 .add 28 29,
  Mv 6 30]
def f346x11 : List AOper := [
  Bc 31 .add 14 1,
  Mv 14 31]
def f346x12L : ACode := (.seq (.region f346x5 false) (.seq (.cond (.t 15) .skip (.exit 0)) (.seq (.block 1 (.seq (.region f346x6 false) (.seq (.region f346x7 false) (.seq (.seq (.region f346x8 false) (.cond (.t 26) (.seq (.region f346x9 false) .ret) .skip)) (.region f346x10 false))))) (.region f346x11 false))))
def f346x13 : List AOper := [
  Mv 32 6,
  Mv 33 1,
  Bi 34 .gtr 32 33]
def f346x14 : List AOper := [
  Mc 4 (.int .i64 0),
  Mc 5 (.int .i64 5)]
def f346x15 : List AOper := [
  Mv 35 6,
  Mv 4 35,
  Mc 5 (.int .i64 0)]
def f346 : AFunc := ⟨36, 2, false, [.t 4, .t 5], (.seq (.region f346x0 false) (.seq (.seq (.region f346x1 false) (.cond (.t 11) (.seq (.region f346x2 false) .ret) .skip)) (.seq (.region f346x3 false) (.seq (.seq (.region f346x4 false) (.block 0 (.loop f346x12L))) (.seq (.seq (.region f346x13 false) (.cond (.t 34) (.seq (.region f346x14 false) .ret) .skip)) (.seq (.region f346x15 false) .ret))))))⟩
def f532x0 : List AOper := [
  Ld 3 1,
  Ld 4 1,
  Nc 5 4,
  Fa 6 1 5,
  Af [1] (Ld 7 6),
  Mv 8 7,
  Gf 8 (Mv 9 0),
  Gf 8 (Bc 10 .neq 9 0),
  Po 11 8 10,
  Nc 12 3,
  Fa 13 1 12,
  Af [0, 4, 1] (St 1 13 11)]
def f532 : AFunc := ⟨14, 2, false, [], (.region f532x0 true)⟩
def f533x0 : List AOper := [
  Mc 4 (.int .i64 0)]
def f533x1 : List AOper := [
  Ld 8 1,
  Ct 9 531 [8],
  Mv 10 0,
  Ct 11 346 [9, 10],
  Mv 7 11,
  Ex 12 7 0,
  Ex 13 7 1,
  Mv 5 12,
  Mv 6 13]
def f533x2 : List AOper := [
  Ld 14 2,
  Mv 15 6,
  Op 16 (.call (.t 14) [(.t 15)])]
def f533x3 : List AOper := [
  Mv 17 5,
  Mv 4 17]
def f533 : AFunc := ⟨18, 3, false, [.t 4], (.seq (.region f533x0 false) (.seq (.region f533x1 false) (.seq (.region f533x2 false) (.seq (.region f533x3 false) .ret))))⟩
def f534x0 : List AOper := [
  Op 2 (.alloc (.agg [.int .u32 0, .int .i64 0]))]
def f534x1 : List AOper := [
  Ld 6 0,
  Ct 7 531 [6],
  Ct 8 233 [7],
  Mv 5 8,
  Ex 9 5 0,
  Ex 10 5 1,
  Op 3 (.alloc (.agg [.int .u32 0, .int .i64 0])),
  St 2 3 9,
  Mv 4 10]
def f534x2 : List AOper := [
  Ld 11 1,
  Mv 12 4,
  Op 13 (.call (.t 11) [(.t 12)])]
def f534x3 : List AOper := [
  Ls 14 2 3,
  St 2 2 14]
def f534 : AFunc := ⟨15, 2, false, [.cell 2 (some 2)], (.seq (.region f534x0 false) (.seq (.region f534x1 false) (.seq (.region f534x2 false) (.seq (.region f534x3 false) .ret))))⟩
def f233x0 : List AOper := [
  Op 2 (.alloc (.agg [.int .u32 0, .int .i64 0])),
  Mc 3 (.int .i64 0)]
def f233x1 : List AOper := [
  Mv 13 0,
  Ca 14 252 [(.t 13), (.c (.str [47]))],
  Mv 12 14,
  Ex 15 12 0,
  Ex 16 12 1,
  Ex 17 12 2,
  Mv 4 15,
  Mv 5 16,
  Mv 6 17]
def f233x2 : List AOper := [
  Mv 19 4,
  Ct 20 231 [19],
  Mv 18 20,
  Ex 21 18 0,
  Ex 22 18 1,
  Mv 7 21,
  Mv 8 22]
def f233x3 : List AOper := [
  Mv 24 5,
  Ca 25 250 [(.t 24), (.c (.int .i64 32))],
  Mv 23 25,
  Ex 26 23 0,
  Ex 27 23 1,
  Mv 9 26,
  Mv 10 27]
def f233x4 : List AOper := [
  Mv 28 6,
  Un 29 .not 28,
  Mv 30 29,
  Gf 30 (Mv 31 8),
  Gf 30 (Bc 32 .neq 31 0),
  Po 33 30 32,
  Mv 34 33,
  Gf 34 (Mv 35 10),
  Gf 34 (Un 36 .not 35),
  Po 37 34 36]
def f233x5 : List AOper := [
  Op 38 (.build [.int .u32 0, .int .i64 0] [] []),
  St 2 2 38,
  Mc 3 (.int .i64 2)]
def f233x6 : List AOper := [
  Mv 39 7,
  Mv 40 9,
  Op 41 (.build [.int .u32 0, .int .i64 0] [(0, 1), (1, 1)] [(.t 39), (.t 40)]),
  Op 11 (.alloc (.agg [.int .u32 0, .int .i64 0])),
  St 2 11 41]
def f233x7 : List AOper := [
  Ls 42 2 11,
  Ct 43 178 [42],
  Un 44 .not 43]
def f233x8 : List AOper := [
  Op 45 (.build [.int .u32 0, .int .i64 0] [] []),
  St 2 2 45,
  Mc 3 (.int .i64 1)]
def f233x9 : List AOper := [
  Ls 46 2 11,
  St 2 2 46,
  Mc 3 (.int .i64 0)]
def f233 : AFunc := ⟨47, 1, false, [.cell 2 (some 2), .t 3], (.seq (.region f233x0 false) (.seq (.region f233x1 false) (.seq (.region f233x2 false) (.seq (.region f233x3 false) (.seq (.seq (.region f233x4 false) (.cond (.t 37) (.seq (.region f233x5 false) .ret) .skip)) (.seq (.region f233x6 false) (.seq (.seq (.region f233x7 false) (.cond (.t 44) (.seq (.region f233x8 false) .ret) .skip)) (.seq (.region f233x9 false) .ret))))))))⟩
def f535x0 : List AOper := [
  Mc 2 (.int .u32 0)]
def f535x1 : List AOper := [
  Ld 6 0,
  Ct 7 531 [6],
  Ct 8 231 [7],
  Mv 5 8,
  Ex 9 5 0,
  Ex 10 5 1,
  Mv 3 9,
  Mv 4 10]
def f535x2 : List AOper := [
  Ld 11 1,
  Mv 12 4,
  Op 13 (.call (.t 11) [(.t 12)])]
def f535x3 : List AOper := [
  Mv 14 3,
  Mv 2 14]
def f535 : AFunc := ⟨15, 2, false, [.t 2], (.seq (.region f535x0 false) (.seq (.region f535x1 false) (.seq (.region f535x2 false) (.seq (.region f535x3 false) .ret))))⟩
def f231x0 : List AOper := [
  Mc 2 (.int .u32 0),
  Mc 3 (.int .i64 0)]
def f231x1 : List AOper := [
  Mv 10 0,
  Ca 11 249 [(.t 10), (.c (.str [46]))],
  Mv 4 11]
def f231x2 : List AOper := [
  Mv 12 4,
  Ln 13 0 12,
  Bc 14 .neq 13 4]
def f231x3 : List AOper := [
  Mc 2 (.int .u32 0),
  Mc 3 (.int .i64 2)]
def f231x4 : List AOper := [
  Mc 5 (.int .u32 0)]
def f231x5 : List AOper := [
  Mv 15 4,
  Ln 16 0 15,
  Mc 17 (.int .i64 0)]
def f231x6 : List AOper := [
  Bi 18 .lss 17 16]
def f231x7 : List AOper := [
  Ia 19 1 15 17,
  Ld 20 19,
  Mv 7 20]
def f231x8 : List AOper := [
  Mv 22 7,
  Ca 23 250 [(.t 22), (.c (.int .i64 255))],
  Mv 21 23,
  Ex 24 21 0,
  Ex 25 21 1,
  Mv 8 24,
  Mv 9 25]
def f231x9 : List AOper := [
  Mv 26 9,
  Un 27 .not 26]
def f231x10 : List AOper := [
  Mc 2 (.int .u32 0),
  Mc 3 (.int .i64 2)]
def f231x11 : List AOper := [
  Mv 28 5,
  Op 29 (.bin .shl (.t 28) (.c (.int .u64 8))),
  Mv 30 8,
  Cv 31 .u32 30,
  Bi 32 .or 29 31,
  Mv 5 32]
def f231x12 : List AOper := [
  Bc 33 .add 17 1,
  Mv 17 33]
def f231x13L : ACode := (.seq (.region f231x6 false) (.seq (.cond (.t 18) .skip (.exit 0)) (.seq (.block 1 (.seq (.region f231x7 false) (.seq (.region f231x8 false) (.seq (.seq (.region f231x9 false) (.cond (.t 27) (.seq (.region f231x10 false) .ret) .skip)) (.region f231x11 false))))) (.region f231x12 false))))
def f231x14 : List AOper := [
  Mv 34 5,
  Mv 2 34,
  Mc 3 (.int .i64 0)]
def f231 : AFunc := ⟨35, 1, false, [.t 2, .t 3], (.seq (.region f231x0 false) (.seq (.region f231x1 false) (.seq (.seq (.region f231x2 false) (.cond (.t 14) (.seq (.region f231x3 false) .ret) .skip)) (.seq (.region f231x4 false) (.seq (.seq (.region f231x5 false) (.block 0 (.loop f231x13L))) (.seq (.region f231x14 false) .ret))))))⟩
def f536x0 : List AOper := [
  Mc 1 (.bool false)]
def f536x1 : List AOper := [
  Ld 3 0,
  Ct 4 531 [3],
  Mv 2 4]
def f536x2 : List AOper := [
  Ld 5 0,
  Ld 6 0,
  Nc 7 6,
  Fa 8 1 7,
  Af [1] (Ld 9 8),
  Mv 10 9,
  Gf 10 (Mv 11 2),
  Gf 10 (Op 12 (.bin .neq (.t 11) (.c (.str [121, 101, 115])))),
  Gf 10 (Mv 13 12),
  Gt 13 (Mv 14 2),
  Gt 13 (Op 15 (.bin .neq (.t 14) (.c (.str [110, 111])))),
  Gf 10 (Pa 16 13 15),
  Po 17 10 16,
  Nc 18 5,
  Fa 19 1 18,
  Af [0, 4, 1] (St 1 19 17)]
def f536x3 : List AOper := [
  Mv 20 2,
  Op 21 (.bin .eql (.t 20) (.c (.str [121, 101, 115]))),
  Mv 1 21]
def f536 : AFunc := ⟨22, 1, false, [.t 1], (.seq (.region f536x0 false) (.seq (.region f536x1 false) (.seq (.region f536x2 true) (.seq (.region f536x3 false) .ret))))⟩
def f537x0 : List AOper := [
  Mc 1 (.str [])]
def f537x1 : List AOper := [
  Ld 4 0,
  Ct 5 531 [4],
  Mv 2 5]
def f537x2 : List AOper := [
  Mv 6 2,
  Ln 7 1 6,
  Mc 8 (.int .i64 0)]
def f537x3 : List AOper := [
  Bi 9 .lss 8 7]
def f537x4 : List AOper := [
  Mv 10 8,
  Mv 3 10]
def f537x5 : List AOper := [
  Ld 11 0,
  Ld 12 0,
  Nc 13 12,
  Fa 14 1 13,
  Af [1] (Ld 15 14),
  Mv 16 15,
  Gf 16 (Mv 17 2),
  Gf 16 (Mv 18 3),
  Gf 16 (Op 19 (.istr (.t 17) (.t 18))),
  Gf 16 (Op 20 (.bin .eql (.t 19) (.c (.int .u8 58)))),
  Po 21 16 20,
  Nc 22 11,
  Fa 23 1 22,
  Af [0, 4, 1] (St 1 23 21)]
def f537x6 : List AOper := [
  Bc 24 .add 8 1,
  Mv 8 24]
def f537x7L : ACode := (.seq (.region f537x3 false) (.seq (.cond (.t 9) .skip (.exit 0)) (.seq (.block 1 (.seq (.region f537x4 false) (.region f537x5 true))) (.region f537x6 false))))
def f537x8 : List AOper := [
  Mv 25 2,
  Mv 1 25]
def f537 : AFunc := ⟨26, 1, false, [.t 1], (.seq (.region f537x0 false) (.seq (.region f537x1 false) (.seq (.seq (.region f537x2 false) (.block 0 (.loop f537x7L))) (.seq (.region f537x8 false) .ret))))⟩
def f538x0 : List AOper := [
  Op 3 (.box (.t 1)),
  Mc 4 (.int .i64 0)]
def f538x1 : List AOper := [
  Mv 8 0,
  Ct 9 531 [8],
  Mv 5 9]
def f538x2 : List AOper := [
  Ls 10 4 3,
  Mc 11 (.int .i64 0)]
def f538x3 : List AOper := [
  Bc 12 .lss 11 4]
def f538x4 : List AOper := [
  Mv 13 11,
  Op 14 (.ival 4 1 none (.t 10) (.t 11)),
  Mv 6 13,
  Mv 7 14]
def f538x5 : List AOper := [
  Mv 15 6,
  Bc 16 .gtr 15 0,
  Mv 17 16,
  Gt 17 (Mv 18 7),
  Gt 17 (Mv 19 5),
  Gt 17 (Bi 20 .eql 18 19),
  Pa 21 17 20]
def f538x6 : List AOper := [
  Mv 22 6,
  Mv 4 22]
def f538x7 : List AOper := [
  Bc 23 .add 11 1,
  Mv 11 23]
def f538x8L : ACode := (.seq (.region f538x3 false) (.seq (.cond (.t 12) .skip (.exit 0)) (.seq (.block 1 (.seq (.region f538x4 false) (.seq (.region f538x5 false) (.cond (.t 21) (.seq (.region f538x6 false) .ret) .skip)))) (.region f538x7 false))))
def f538x9 : List AOper := [
  Mv 24 0,
  Nc 25 24,
  Fa 26 1 25,
  ⟨none, .store 1 (.t 26) (.c (.bool true)), none, []⟩]
def f538x10 : List AOper := [
  Mc 4 (.int .i64 0)]
def f538 : AFunc := ⟨27, 2, false, [.t 4], (.seq (.region f538x0 false) (.seq (.region f538x1 false) (.seq (.seq (.region f538x2 false) (.block 0 (.loop f538x8L))) (.seq (.region f538x9 false) (.seq (.region f538x10 false) .ret)))))⟩
def f539x0 : List AOper := [
  Mc 2 (.str [])]
def f539x1 : List AOper := [
  Mv 3 0,
  Op 4 (.bin .eql (.t 3) (.c (.str [46])))]
def f539x2 : List AOper := [
  Mc 2 (.str [])]
def f539x3 : List AOper := [
  Mv 5 0,
  Mv 2 5]
def f539 : AFunc := ⟨6, 1, false, [.t 2], (.seq (.region f539x0 false) (.seq (.seq (.region f539x1 false) (.cond (.t 4) (.seq (.region f539x2 false) .ret) .skip)) (.seq (.region f539x3 false) .ret)))⟩
def f541x0 : List AOper := [
  Mv 17 0,
  Mv 18 1,
  Ct 19 585 [17, 18]]
def f541x1 : List AOper := [
  Mv 20 0,
  Nc 21 20,
  Fa 22 8 21,
  Ld 23 22]
def f541x2 : List AOper := [
  Bc 26 .eql 23 1,
  Mv 25 26]
def f541x3 : List AOper := [
  Mv 27 0,
  Nc 28 27,
  Fa 29 0 28,
  Fa 30 0 29,
  Ld 31 30,
  Mv 32 0,
  Nc 33 32,
  Fa 34 0 33,
  Fa 35 0 34,
  Ld 36 35,
  Af [9] (Ln 37 0 36),
  Bc 38 .sub 37 1,
  Af [4, 10, 9] (Ia 39 2 31 38),
  Mv 4 39]
def f541x4 : List AOper := [
  Mv 41 1,
  Ct 42 334 [41],
  Mv 40 42,
  Ex 43 40 0,
  Ex 44 40 1,
  Op 5 (.alloc (.agg [.bool false, .int .u32 0, .int .i64 0, .int .i64 0, .int .i64 0])),
  St 5 5 43,
  Mv 6 44]
def f541x5 : List AOper := [
  Mv 45 6,
  Bc 46 .eql 45 0,
  Ct 47 586 [46]]
def f541x6 : List AOper := [
  Mv 48 4,
  Nc 49 48,
  Fa 50 1 49,
  Ld 51 50,
  Ln 52 0 51,
  Ct 53 587 [52]]
def f541x7 : List AOper := [
  Mv 54 4,
  Mv 55 4,
  Nc 56 55,
  Fa 57 1 56,
  Ld 58 57,
  Ls 59 5 5,
  Af [5] (Op 60 (.bsl 5 [.bool false, .int .u32 0, .int .i64 0, .int .i64 0, .int .i64 0] 1 [0] [(.t 59)])),
  Af [4, 6, 5] (Ap 61 5 40 58 60),
  Nc 62 54,
  Fa 63 1 62,
  Af [7, 4, 6, 5] (St 1 63 61)]
def f541x8 : List AOper := [
  Bc 65 .eql 23 2,
  Mv 64 65]
def f541x9 : List AOper := [
  Mv 66 0,
  Nc 67 66,
  Fa 68 0 67,
  Fa 69 1 68,
  Ld 70 69,
  Mv 71 0,
  Nc 72 71,
  Fa 73 0 72,
  Fa 74 1 73,
  Ld 75 74,
  Af [9] (Ln 76 0 75),
  Bc 77 .sub 76 1,
  Af [4, 10, 9] (Ia 78 2 70 77),
  Mv 7 78]
def f541x10 : List AOper := [
  Mv 80 1,
  Ct 81 588 [80],
  Mv 79 81,
  Ex 82 79 0,
  Ex 83 79 1,
  Mv 8 82,
  Mv 9 83]
def f541x11 : List AOper := [
  Mv 85 9,
  Ct 86 516 [85],
  Mv 84 86,
  Ex 87 84 0,
  Ex 88 84 1,
  Op 10 (.alloc (.agg [.int .i64 0, .int .i64 0, .int .i64 0, .con (.slice none 0 0)])),
  St 4 10 87,
  Mv 11 88]
def f541x12 : List AOper := [
  Mv 89 11,
  Bc 90 .eql 89 0,
  Ct 91 586 [90]]
def f541x13 : List AOper := [
  Mv 92 7,
  Nc 93 92,
  Fa 94 1 93,
  Ld 95 94,
  Ln 96 0 95,
  Ct 97 587 [96]]
def f541x14 : List AOper := [
  Mv 98 7,
  Mv 99 7,
  Nc 100 99,
  Fa 101 1 100,
  Ld 102 101,
  Mv 103 8,
  Mv 104 9,
  Op 105 (.build [.bool false, .str []] [(0, 1), (1, 1)] [(.t 103), (.t 104)]),
  Op 106 (.bsl 2 [.bool false, .str []] 1 [0] [(.t 105)]),
  Ap 107 2 24 102 106,
  Nc 108 98,
  Fa 109 1 108,
  St 1 109 107]
def f541x15 : List AOper := [
  Bc 111 .eql 23 3,
  Mv 110 111]
def f541x16 : List AOper := [
  Mv 112 0,
  Nc 113 112,
  Fa 114 0 113,
  Fa 115 2 114,
  Ld 116 115,
  Mv 117 0,
  Nc 118 117,
  Fa 119 0 118,
  Fa 120 2 119,
  Ld 121 120,
  Af [9] (Ln 122 0 121),
  Bc 123 .sub 122 1,
  Af [4, 10, 9] (Ia 124 2 116 123),
  Mv 12 124]
def f541x17 : List AOper := [
  Mv 126 1,
  Ct 127 588 [126],
  Mv 125 127,
  Ex 128 125 0,
  Ex 129 125 1,
  Mv 13 128,
  Mv 14 129]
def f541x18 : List AOper := [
  Mc 15 (.int .i64 0)]
def f541x19 : List AOper := [
  Mv 130 15,
  Mv 131 14,
  Ln 132 1 131,
  Bi 133 .lss 130 132,
  Mv 134 133,
  Gt 134 (Mv 135 14),
  Gt 134 (Mv 136 15),
  Gt 134 (Op 137 (.istr (.t 135) (.t 136))),
  Gt 134 (Op 138 (.bin .neq (.t 137) (.c (.int .u8 58)))),
  Pa 139 134 138]
def f541x20 : List AOper := [
  Mv 140 15,
  Bc 141 .add 140 1,
  Mv 15 141]
def f541x21L : ACode := (.seq (.seq (.region f541x19 false) (.cond (.t 139) .skip (.exit 1))) (.block 2 (.region f541x20 false)))
def f541x22 : List AOper := [
  Mv 142 15,
  Mv 143 14,
  Ln 144 1 143,
  Bi 145 .lss 142 144,
  Ct 146 586 [145]]
def f541x23 : List AOper := [
  Mv 147 13,
  Mv 148 14,
  Mv 149 15,
  Op 150 (.slstr (.t 148) none (some (.t 149))),
  Ct 151 589 [150],
  Mv 152 14,
  Mv 153 15,
  Bc 154 .add 153 1,
  Op 155 (.slstr (.t 152) (some (.t 154)) none),
  Af [4] (Ct 156 589 [155]),
  Op 157 (.build [.bool false, .int .i64 0, .int .i64 0] [(0, 1), (1, 1), (2, 1)] [(.t 147), (.t 151), (.t 156)]),
  Op 16 (.alloc (.agg [.bool false, .int .i64 0, .int .i64 0])),
  Af [11, 9, 4] (St 3 16 157)]
def f541x24 : List AOper := [
  Mv 158 12,
  Nc 159 158,
  Fa 160 1 159,
  Ld 161 160,
  Ln 162 0 161,
  Ct 163 587 [162]]
def f541x25 : List AOper := [
  Ls 164 3 16,
  Ct 165 520 [164],
  Ct 166 590 [165]]
def f541x26 : List AOper := [
  Mv 167 12,
  Mv 168 12,
  Nc 169 168,
  Fa 170 1 169,
  Ld 171 170,
  Ls 172 3 16,
  Af [5] (Op 173 (.bsl 3 [.bool false, .int .i64 0, .int .i64 0] 1 [0] [(.t 172)])),
  Af [4, 6, 5] (Ap 174 3 24 171 173),
  Nc 175 167,
  Fa 176 1 175,
  Af [7, 4, 6, 5] (St 1 176 174)]
def f541x27 : List AOper := [
  Ca 24 586 [(.c (.bool false))]]
def f541 : AFunc := ⟨177, 2, false, [], (.seq (.seq (.region f541x0 false) (.cond (.t 19) .ret .skip)) (.seq (.region f541x1 false) (.block 0 (.seq (.region f541x2 false) (.cond (.t 25) (.seq (.region f541x3 true) (.seq (.region f541x4 false) (.seq (.region f541x5 false) (.seq (.region f541x6 false) (.region f541x7 true))))) (.seq (.region f541x8 false) (.cond (.t 64) (.seq (.region f541x9 true) (.seq (.region f541x10 false) (.seq (.region f541x11 false) (.seq (.region f541x12 false) (.seq (.region f541x13 false) (.region f541x14 false)))))) (.seq (.region f541x15 false) (.cond (.t 110) (.seq (.region f541x16 true) (.seq (.region f541x17 false) (.seq (.region f541x18 false) (.seq (.block 1 (.loop f541x21L)) (.seq (.region f541x22 false) (.seq (.region f541x23 true) (.seq (.region f541x24 false) (.seq (.region f541x25 false) (.region f541x26 true))))))))) (.region f541x27 false))))))))))⟩
def f542x0 : List AOper := [
  Mv 10 0,
  Ct 11 591 [10],
  Mv 4 11]
def f542x1 : List AOper := [
  Mv 12 4,
  Nc 13 12,
  Fa 14 1 13,
  Ld 15 14,
  Mv 16 4,
  Nc 17 16,
  Fa 18 1 17,
  Ld 19 18,
  Af [7] (Ln 20 0 19),
  Bc 21 .sub 20 1,
  Af [3, 8, 7] (Ia 22 4 15 21),
  Mv 5 22]
def f542x2 : List AOper := [
  Mv 24 1,
  Ct 25 592 [24],
  Mv 23 25,
  Ex 26 23 0,
  Ex 27 23 1,
  Mv 6 26,
  Mv 7 27]
def f542x3 : List AOper := [
  Mv 53 1,
  Op 54 (.bin .eql (.t 53) (.c (.str [97, 99, 99, 101, 112, 116]))),
  Mv 52 54]
def f542x4 : List AOper := [
  Mv 55 5,
  Nc 56 55,
  Fa 57 3 56,
  ⟨none, .store 1 (.t 57) (.c (.int .i64 1)), none, []⟩]
def f542x5 : List AOper := [
  Mv 59 1,
  Op 60 (.bin .eql (.t 59) (.c (.str [114, 101, 106, 101, 99, 116]))),
  Mv 58 60]
def f542x6 : List AOper := [
  Mv 61 5,
  Nc 62 61,
  Fa 63 3 62,
  ⟨none, .store 1 (.t 63) (.c (.int .i64 2)), none, []⟩]
def f542x7 : List AOper := [
  Mv 65 1,
  Op 66 (.bin .eql (.t 65) (.c (.str [110, 101, 120, 116]))),
  Mv 64 66]
def f542x8 : List AOper := [
  Mv 67 5,
  Nc 68 67,
  Fa 69 3 68,
  ⟨none, .store 1 (.t 69) (.c (.int .i64 3)), none, []⟩]
def f542x9 : List AOper := [
  Mv 71 6,
  Op 72 (.bin .eql (.t 71) (.c (.str [109, 97, 116, 99, 104]))),
  Mv 70 72]
def f542x10 : List AOper := [
  Mv 73 5,
  Nc 74 73,
  Fa 75 2 74,
  Ld 76 75,
  Ln 77 0 76,
  Bc 78 .eql 77 0,
  Ct 79 586 [78]]
def f542x11 : List AOper := [
  Mv 80 7,
  Ct 81 593 [80],
  Op 8 (.alloc (.agg [.int .i64 0, .str [], .int .i64 0, .int .u32 0, .int .i64 0, .bool false])),
  St 6 8 81]
def f542x12 : List AOper := [
  Mv 82 5,
  Nc 83 82,
  Fa 84 1 83,
  Ld 85 84,
  Ln 86 0 85,
  Ct 87 587 [86]]
def f542x13 : List AOper := [
  Mv 88 0,
  Nc 89 88,
  Fa 90 4 89,
  Ls 91 4 90,
  Ls 92 6 8,
  Af [3, 4] (Ct 93 594 [91, 92]),
  Af [5, 3, 4] (Ct 94 590 [93])]
def f542x14 : List AOper := [
  Mv 95 5,
  Mv 96 5,
  Nc 97 96,
  Fa 98 1 97,
  Ld 99 98,
  Ls 100 6 8,
  Af [5] (Op 101 (.bsl 6 [.int .i64 0, .str [], .int .i64 0, .int .u32 0, .int .i64 0, .bool false] 1 [0] [(.t 100)])),
  Af [4, 6, 5] (Ap 102 6 56 99 101),
  Nc 103 95,
  Fa 104 1 103,
  Af [7, 4, 6, 5] (St 1 104 102)]
def f542x15 : List AOper := [
  Mv 28 6,
  Op 29 (.bin .eql (.t 28) (.c (.str [115, 101, 116]))),
  Ct 30 586 [29]]
def f542x16 : List AOper := [
  Mv 31 7,
  Ct 32 595 [31],
  Op 9 (.alloc (.agg [.int .i64 0, .int .i64 0, .int .i64 0, .int .u32 0, .int .u32 0])),
  St 5 9 32]
def f542x17 : List AOper := [
  Mv 33 5,
  Nc 34 33,
  Fa 35 2 34,
  Ld 36 35,
  Ln 37 0 36,
  Ct 38 587 [37]]
def f542x18 : List AOper := [
  Ls 39 5 9,
  Ct 40 596 [39],
  Ct 41 590 [40]]
def f542x19 : List AOper := [
  Mv 42 5,
  Mv 43 5,
  Nc 44 43,
  Fa 45 2 44,
  Ld 46 45,
  Ls 47 5 9,
  Af [5] (Op 48 (.bsl 5 [.int .i64 0, .int .i64 0, .int .i64 0, .int .u32 0, .int .u32 0] 1 [0] [(.t 47)])),
  Af [4, 6, 5] (Ap 49 5 32 46 48),
  Nc 50 42,
  Fa 51 2 50,
  Af [7, 4, 6, 5] (St 1 51 49)]
def f542x20 : List AOper := [
  Mv 105 0,
  Mv 106 5,
  Nc 107 106,
  Fa 108 3 107,
  Ld 109 108,
  Bc 110 .eql 109 0,
  Nc 111 105,
  Fa 112 10 111,
  St 1 112 110]
def f542 : AFunc := ⟨113, 2, false, [], (.seq (.region f542x0 false) (.seq (.region f542x1 true) (.seq (.region f542x2 false) (.seq (.block 0 (.seq (.region f542x3 false) (.cond (.t 52) (.region f542x4 false) (.seq (.region f542x5 false) (.cond (.t 58) (.region f542x6 false) (.seq (.region f542x7 false) (.cond (.t 64) (.region f542x8 false) (.seq (.region f542x9 false) (.cond (.t 70) (.seq (.region f542x10 false) (.seq (.region f542x11 false) (.seq (.region f542x12 false) (.seq (.region f542x13 true) (.region f542x14 true))))) (.seq (.region f542x15 false) (.seq (.region f542x16 false) (.seq (.region f542x17 false) (.seq (.region f542x18 false) (.region f542x19 true)))))))))))))) (.region f542x20 false)))))⟩
def f543x0 : List AOper := [
  Mv 9 1,
  Ct 10 592 [9],
  Mv 8 10,
  Ex 11 8 0,
  Ex 12 8 1,
  Mv 4 11,
  Mv 5 12]
def f543x1 : List AOper := [
  Mv 13 0,
  Ct 14 591 [13],
  Mv 6 14]
def f543x2 : List AOper := [
  Mv 53 1,
  Op 54 (.bin .eql (.t 53) (.c (.str [100, 101, 102, 97, 117, 108, 116, 32, 97, 99, 99, 101, 112, 116]))),
  Mv 52 54]
def f543x3 : List AOper := [
  Mv 55 6,
  Nc 56 55,
  Fa 57 2 56,
  ⟨none, .store 1 (.t 57) (.c (.int .i64 1)), none, []⟩]
def f543x4 : List AOper := [
  Mv 58 0,
  Nc 59 58,
  Fa 60 9 59,
  ⟨none, .store 1 (.t 60) (.c (.bool false)), none, []⟩]
def f543x5 : List AOper := [
  Mv 62 1,
  Op 63 (.bin .eql (.t 62) (.c (.str [100, 101, 102, 97, 117, 108, 116, 32, 114, 101, 106, 101, 99, 116]))),
  Mv 61 63]
def f543x6 : List AOper := [
  Mv 64 6,
  Nc 65 64,
  Fa 66 2 65,
  ⟨none, .store 1 (.t 66) (.c (.int .i64 2)), none, []⟩]
def f543x7 : List AOper := [
  Mv 67 0,
  Nc 68 67,
  Fa 69 9 68,
  ⟨none, .store 1 (.t 69) (.c (.bool false)), none, []⟩]
def f543x8 : List AOper := [
  Mv 15 4,
  Op 16 (.bin .eql (.t 15) (.c (.str [116, 101, 114, 109]))),
  Ct 17 586 [16]]
def f543x9 : List AOper := [
  Mv 18 5,
  Ct 19 597 [18],
  Op 20 (.build [.str [], .con (.slice none 0 0), .con (.slice none 0 0), .int .i64 0] [(0, 1), (3, 1)] [(.t 19), (.c (.int .i64 1))]),
  Op 7 (.alloc (.agg [.str [], .con (.slice none 0 0), .con (.slice none 0 0), .int .i64 0])),
  St 4 7 20]
def f543x10 : List AOper := [
  Mv 21 6,
  Nc 22 21,
  Fa 23 1 22,
  Ld 24 23,
  Ln 25 0 24,
  Ct 26 587 [25]]
def f543x11 : List AOper := [
  Mv 27 0,
  Nc 28 27,
  Fa 29 4 28,
  Ls 30 4 29,
  Mv 31 6,
  Nc 32 31,
  Fa 33 1 32,
  Ld 34 33,
  Ls 35 4 7,
  Af [3, 7, 8] (Ct 36 582 [30, 34, 35]),
  Af [9, 3, 7, 8] (Ct 37 590 [36])]
def f543x12 : List AOper := [
  Fa 38 3 7,
  ⟨none, .store 1 (.t 38) (.c (.int .i64 0)), none, []⟩]
def f543x13 : List AOper := [
  Mv 39 6,
  Mv 40 6,
  Nc 41 40,
  Fa 42 1 41,
  Ld 43 42,
  Ls 44 4 7,
  Af [5] (Op 45 (.bsl 4 [.str [], .con (.slice none 0 0), .con (.slice none 0 0), .int .i64 0] 1 [0] [(.t 44)])),
  Af [4, 6, 5] (Ap 46 4 72 43 45),
  Nc 47 39,
  Fa 48 1 47,
  Af [7, 4, 6, 5] (St 1 48 46)]
def f543x14 : List AOper := [
  Mv 49 0,
  Nc 50 49,
  Fa 51 10 50,
  ⟨none, .store 1 (.t 51) (.c (.bool true)), none, []⟩]
def f543 : AFunc := ⟨70, 2, false, [], (.seq (.region f543x0 false) (.seq (.region f543x1 false) (.block 0 (.seq (.region f543x2 false) (.cond (.t 52) (.seq (.region f543x3 false) (.region f543x4 false)) (.seq (.region f543x5 false) (.cond (.t 61) (.seq (.region f543x6 false) (.region f543x7 false)) (.seq (.region f543x8 false) (.seq (.region f543x9 false) (.seq (.region f543x10 false) (.seq (.region f543x11 true) (.seq (.region f543x12 false) (.seq (.region f543x13 true) (.region f543x14 false))))))))))))))⟩
def f178x0 : List AOper := [
  Op 1 (.box (.t 0)),
  Mc 2 (.bool false)]
def f178x1 : List AOper := [
  Fa 3 1 1,
  Ld 4 3,
  Bc 5 .geq 4 0,
  Mv 6 5,
  Gt 6 (Fa 7 1 1),
  Af [1] (Gt 6 (Ld 8 7)),
  Gt 6 (Bc 9 .leq 8 32),
  Pa 10 6 9,
  Mv 11 10,
  Gt 11 (Fa 12 0 1),
  Af [5, 1] (Gt 11 (Ld 13 12)),
  Gt 11 (Fa 14 1 1),
  Af [5, 1] (Gt 11 (Ld 15 14)),
  Af [10, 12, 5, 1] (Gt 11 (Ct 16 181 [13, 15])),
  Gt 11 (Fa 17 0 1),
  Af [5, 1] (Gt 11 (Ld 18 17)),
  Gt 11 (Bi 19 .eql 16 18),
  Pa 20 11 19,
  Mv 2 20]
def f178 : AFunc := ⟨21, 1, false, [.t 2], (.seq (.region f178x0 false) (.seq (.region f178x1 true) .ret))⟩
def f507x0 : List AOper := [
  Op 1 (.box (.t 0)),
  Op 2 (.alloc (.agg [.con (.slice none 0 0), .con (.slice none 0 0), .con (.slice none 0 0), .con (.slice none 0 0)]))]
def f507x1 : List AOper := [
  Op 3 (.alloc (.agg [.con (.slice none 0 0), .con (.slice none 0 0), .con (.slice none 0 0), .con (.slice none 0 0)]))]
def f507x2 : List AOper := [
  Fa 12 0 1,
  Ld 13 12,
  Ln 14 0 13,
  Mc 15 (.int .i64 0)]
def f507x3 : List AOper := [
  Bi 16 .lss 15 14]
def f507x4 : List AOper := [
  Ia 17 2 13 15,
  Ls 18 2 17,
  Op 5 (.alloc (.agg [.str [], .con (.slice none 0 0)])),
  St 2 5 18]
def f507x5 : List AOper := [
  Op 19 (.iarr 4 1 (.t 3) (.c (.int .i64 0))),
  Ld 20 19,
  Fa 21 0 5,
  Ld 22 21,
  Op 23 (.bsl 1 [.str []] 1 [0] [(.t 22)]),
  Ap 24 1 16 20 23,
  Op 25 (.iarr 4 1 (.t 3) (.c (.int .i64 0))),
  St 1 25 24]
def f507x6 : List AOper := [
  Bc 26 .add 15 1,
  Mv 15 26]
def f507x7L : ACode := (.seq (.region f507x3 false) (.seq (.cond (.t 16) .skip (.exit 0)) (.seq (.block 1 (.seq (.region f507x4 false) (.region f507x5 false))) (.region f507x6 false))))
def f507x8 : List AOper := [
  Fa 27 1 1,
  Ld 28 27,
  Ln 29 0 28,
  Mc 30 (.int .i64 0)]
def f507x9 : List AOper := [
  Bi 31 .lss 30 29]
def f507x10 : List AOper := [
  Ia 32 2 28 30,
  Ls 33 2 32,
  Op 7 (.alloc (.agg [.str [], .con (.slice none 0 0)])),
  St 2 7 33]
def f507x11 : List AOper := [
  Op 34 (.iarr 4 1 (.t 3) (.c (.int .i64 1))),
  Ld 35 34,
  Fa 36 0 7,
  Ld 37 36,
  Op 38 (.bsl 1 [.str []] 1 [0] [(.t 37)]),
  Ap 39 1 16 35 38,
  Op 40 (.iarr 4 1 (.t 3) (.c (.int .i64 1))),
  St 1 40 39]
def f507x12 : List AOper := [
  Bc 41 .add 30 1,
  Mv 30 41]
def f507x13L : ACode := (.seq (.region f507x9 false) (.seq (.cond (.t 31) .skip (.exit 2)) (.seq (.block 3 (.seq (.region f507x10 false) (.region f507x11 false))) (.region f507x12 false))))
def f507x14 : List AOper := [
  Fa 42 2 1,
  Ld 43 42,
  Ln 44 0 43,
  Mc 45 (.int .i64 0)]
def f507x15 : List AOper := [
  Bi 46 .lss 45 44]
def f507x16 : List AOper := [
  Ia 47 2 43 45,
  Ls 48 2 47,
  Op 9 (.alloc (.agg [.str [], .con (.slice none 0 0)])),
  St 2 9 48]
def f507x17 : List AOper := [
  Op 49 (.iarr 4 1 (.t 3) (.c (.int .i64 2))),
  Ld 50 49,
  Fa 51 0 9,
  Ld 52 51,
  Op 53 (.bsl 1 [.str []] 1 [0] [(.t 52)]),
  Ap 54 1 16 50 53,
  Op 55 (.iarr 4 1 (.t 3) (.c (.int .i64 2))),
  St 1 55 54]
def f507x18 : List AOper := [
  Bc 56 .add 45 1,
  Mv 45 56]
def f507x19L : ACode := (.seq (.region f507x15 false) (.seq (.cond (.t 46) .skip (.exit 4)) (.seq (.block 5 (.seq (.region f507x16 false) (.region f507x17 false))) (.region f507x18 false))))
def f507x20 : List AOper := [
  Fa 57 3 1,
  Ld 58 57,
  Ln 59 0 58,
  Mc 60 (.int .i64 0)]
def f507x21 : List AOper := [
  Bi 61 .lss 60 59]
def f507x22 : List AOper := [
  Ia 62 3 58 60,
  Ls 63 3 62,
  Op 11 (.alloc (.agg [.str [], .con (.slice none 0 0), .int .i64 0])),
  St 3 11 63]
def f507x23 : List AOper := [
  Op 64 (.iarr 4 1 (.t 3) (.c (.int .i64 3))),
  Ld 65 64,
  Fa 66 0 11,
  Ld 67 66,
  Op 68 (.bsl 1 [.str []] 1 [0] [(.t 67)]),
  Ap 69 1 16 65 68,
  Op 70 (.iarr 4 1 (.t 3) (.c (.int .i64 3))),
  St 1 70 69]
def f507x24 : List AOper := [
  Bc 71 .add 60 1,
  Mv 60 71]
def f507x25L : ACode := (.seq (.region f507x21 false) (.seq (.cond (.t 61) .skip (.exit 6)) (.seq (.block 7 (.seq (.region f507x22 false) (.region f507x23 false))) (.region f507x24 false))))
def f507x26 : List AOper := [
  Ls 72 4 3,
  St 4 2 72]
def f507 : AFunc := ⟨73, 1, false, [.cell 2 (some 4)], (.seq (.region f507x0 false) (.seq (.region f507x1 false) (.seq (.seq (.region f507x2 false) (.block 0 (.loop f507x7L))) (.seq (.seq (.region f507x8 false) (.block 2 (.loop f507x13L))) (.seq (.seq (.region f507x14 false) (.block 4 (.loop f507x19L))) (.seq (.seq (.region f507x20 false) (.block 6 (.loop f507x25L))) (.seq (.region f507x26 false) .ret)))))))⟩
def f508x0 : List AOper := [
  Mc 6 (.int .i64 0)]
def f508x1 : List AOper := [
  Mv 11 0,
  Ln 12 0 11,
  Bc 13 .gtr 12 64]
def f508x2 : List AOper := [
  Mc 6 (.int .i64 4)]
def f508x3 : List AOper := [
  Mv 14 0,
  Ln 15 0 14,
  Mc 16 (.int .i64 0)]
def f508x4 : List AOper := [
  Bi 17 .lss 16 15]
def f508x5 : List AOper := [
  Mv 18 16,
  Ia 19 1 14 16,
  Ld 20 19,
  Mv 7 18,
  Mv 8 20]
def f508x6 : List AOper := [
  Mv 21 0,
  Mv 22 7,
  Op 23 (.slc 1 (.t 21) none (some (.t 22)) none),
  Mv 24 8,
  Ct 25 577 [23, 24],
  Mv 9 25]
def f508x7 : List AOper := [
  Mv 26 9,
  Bc 27 .neq 26 0]
def f508x8 : List AOper := [
  Mv 28 9,
  Mv 6 28]
def f508x9 : List AOper := [
  Mv 29 1,
  Mv 30 7,
  Op 31 (.call (.t 29) [(.t 30)]),
  Bc 32 .gtr 31 64]
def f508x10 : List AOper := [
  Mc 6 (.int .i64 4)]
def f508x11 : List AOper := [
  Mv 33 2,
  Mv 34 7,
  Op 35 (.call (.t 33) [(.t 34)]),
  Mv 10 35]
def f508x12 : List AOper := [
  Mv 36 10,
  Bc 37 .neq 36 0]
def f508x13 : List AOper := [
  Mv 38 10,
  Mv 6 38]
def f508x14 : List AOper := [
  Bc 39 .add 16 1,
  Mv 16 39]
def f508x15L : ACode := (.seq (.region f508x4 false) (.seq (.cond (.t 17) .skip (.exit 0)) (.seq (.block 1 (.seq (.region f508x5 false) (.seq (.seq (.region f508x6 false) (.seq (.region f508x7 false) (.cond (.t 27) (.seq (.region f508x8 false) .ret) .skip))) (.seq (.seq (.region f508x9 false) (.cond (.t 32) (.seq (.region f508x10 false) .ret) .skip)) (.seq (.region f508x11 false) (.seq (.region f508x12 false) (.cond (.t 37) (.seq (.region f508x13 false) .ret) .skip))))))) (.region f508x14 false))))
def f508x16 : List AOper := [
  Mc 6 (.int .i64 0)]
def f508 : AFunc := ⟨40, 3, false, [.t 6], (.seq (.region f508x0 false) (.seq (.seq (.region f508x1 false) (.cond (.t 13) (.seq (.region f508x2 false) .ret) .skip)) (.seq (.seq (.region f508x3 false) (.block 0 (.loop f508x15L))) (.seq (.region f508x16 false) .ret))))⟩
def f509x0 : List AOper := [
  Mc 3 (.int .i64 0)]
def f509x1 : List AOper := [
  Fa 4 0 1,
  Ld 5 4,
  Mv 6 0,
  Ia 7 2 5 6,
  Fa 8 1 7,
  Ld 9 8,
  Ln 10 0 9,
  Mv 3 10]
def f509 : AFunc := ⟨11, 2, false, [.t 3], (.seq (.region f509x0 false) (.seq (.region f509x1 false) .ret))⟩
def f510x0 : List AOper := [
  Mc 3 (.int .i64 0)]
def f510x1 : List AOper := [
  Fa 5 0 1,
  Ld 6 5,
  Mv 7 0,
  Ia 8 2 6 7,
  Fa 9 1 8,
  Ld 10 9,
  Op 4 (.alloc (.con (.slice none 0 0))),
  St 1 4 10]
def f510x2 : List AOper := [
  Ld 11 4,
  Ln 12 0 11,
  Op 13 (.mkfn 512 [(.t 4)]),
  Ct 14 511 [12, 13],
  Mv 3 14]
def f510 : AFunc := ⟨15, 2, false, [.t 3], (.seq (.region f510x0 false) (.seq (.region f510x1 false) (.seq (.region f510x2 false) .ret)))⟩
def f511x0 : List AOper := [
  Mc 4 (.int .i64 0)]
def f511x1 : List AOper := [
  Mv 7 0,
  Mc 8 (.int .i64 0)]
def f511x2 : List AOper := [
  Bi 9 .lss 8 7]
def f511x3 : List AOper := [
  Mv 10 8,
  Mv 5 10]
def f511x4 : List AOper := [
  Mv 11 1,
  Mv 12 5,
  Op 13 (.call (.t 11) [(.t 12)]),
  Mv 6 13]
def f511x5 : List AOper := [
  Mv 14 6,
  Bc 15 .neq 14 0]
def f511x6 : List AOper := [
  Mv 16 6,
  Mv 4 16]
def f511x7 : List AOper := [
  Bc 17 .add 8 1,
  Mv 8 17]
def f511x8L : ACode := (.seq (.region f511x2 false) (.seq (.cond (.t 9) .skip (.exit 0)) (.seq (.block 1 (.seq (.region f511x3 false) (.seq (.region f511x4 false) (.seq (.region f511x5 false) (.cond (.t 15) (.seq (.region f511x6 false) .ret) .skip))))) (.region f511x7 false))))
def f511x9 : List AOper := [
  Mc 4 (.int .i64 0)]
def f511 : AFunc := ⟨18, 2, false, [.t 4], (.seq (.region f511x0 false) (.seq (.seq (.region f511x1 false) (.block 0 (.loop f511x8L))) (.seq (.region f511x9 false) .ret)))⟩
def f512x0 : List AOper := [
  Mc 3 (.int .i64 0)]
def f512x1 : List AOper := [
  Ld 4 1,
  Mv 5 0,
  Ia 6 5 4 5,
  Ls 7 5 6,
  Ct 8 325 [7],
  Mv 3 8]
def f512 : AFunc := ⟨9, 2, false, [.t 3], (.seq (.region f512x0 false) (.seq (.region f512x1 false) .ret))⟩
def f325x0 : List AOper := [
  Op 1 (.box (.t 0)),
  Mc 2 (.int .i64 0)]
def f325x1 : List AOper := [
  Fa 4 1 1,
  Ls 5 2 4,
  Ct 6 178 [5],
  Un 7 .not 6,
  Mv 3 7]
def f325x2 : List AOper := [
  Mc 2 (.int .i64 1)]
def f325x3 : List AOper := [
  Fa 9 3 1,
  Ld 10 9,
  Fa 11 1 1,
  Fa 12 1 11,
  Ld 13 12,
  Bi 14 .lss 10 13,
  Mv 15 14,
  Gf 15 (Fa 16 4 1),
  Gf 15 (Ld 17 16),
  Gf 15 (Fa 18 3 1),
  Gf 15 (Ld 19 18),
  Gf 15 (Bi 20 .lss 17 19),
  Po 21 15 20,
  Mv 22 21,
  Gf 22 (Fa 23 4 1),
  Gf 22 (Ld 24 23),
  Gf 22 (Bc 25 .gtr 24 32),
  Po 26 22 25,
  Mv 8 26]
def f325x4 : List AOper := [
  Mc 2 (.int .i64 5)]
def f325x5 : List AOper := [
  Mc 2 (.int .i64 0)]
def f325 : AFunc := ⟨27, 1, false, [.t 2], (.seq (.region f325x0 false) (.seq (.block 0 (.seq (.region f325x1 false) (.cond (.t 3) (.seq (.region f325x2 false) .ret) (.seq (.region f325x3 false) (.cond (.t 8) (.seq (.region f325x4 false) .ret) .skip))))) (.seq (.region f325x5 false) .ret)))⟩
def f513x0 : List AOper := [
  Mc 3 (.int .i64 0)]
def f513x1 : List AOper := [
  Fa 4 1 1,
  Ld 5 4,
  Mv 6 0,
  Ia 7 2 5 6,
  Fa 8 1 7,
  Ld 9 8,
  Ln 10 0 9,
  Mv 3 10]
def f513 : AFunc := ⟨11, 2, false, [.t 3], (.seq (.region f513x0 false) (.seq (.region f513x1 false) .ret))⟩
def f514x0 : List AOper := [
  Mc 3 (.int .i64 0)]
def f514x1 : List AOper := [
  Fa 5 1 1,
  Ld 6 5,
  Mv 7 0,
  Ia 8 2 6 7,
  Fa 9 1 8,
  Ld 10 9,
  Op 4 (.alloc (.con (.slice none 0 0))),
  St 1 4 10]
def f514x2 : List AOper := [
  Ld 11 4,
  Ln 12 0 11,
  Op 13 (.mkfn 515 [(.t 4)]),
  Ct 14 511 [12, 13],
  Mv 3 14]
def f514 : AFunc := ⟨15, 2, false, [.t 3], (.seq (.region f514x0 false) (.seq (.region f514x1 false) (.seq (.region f514x2 false) .ret)))⟩
def f515x0 : List AOper := [
  Mc 3 (.int .i64 0)]
def f515x1 : List AOper := [
  Ld 7 1,
  Mv 8 0,
  Ia 9 2 7 8,
  Fa 10 1 9,
  Ld 11 10,
  Ct 12 516 [11],
  Mv 6 12,
  Ex 13 6 0,
  Ex 14 6 1,
  Op 4 (.alloc (.agg [.int .i64 0, .int .i64 0, .int .i64 0, .con (.slice none 0 0)])),
  St 4 4 13,
  Mv 5 14]
def f515x2 : List AOper := [
  Mv 15 5,
  Mv 3 15]
def f515 : AFunc := ⟨16, 2, false, [.t 3], (.seq (.region f515x0 false) (.seq (.region f515x1 false) (.seq (.region f515x2 false) .ret)))⟩
def f517x0 : List AOper := [
  Mc 3 (.int .i64 0)]
def f517x1 : List AOper := [
  Fa 4 2 1,
  Ld 5 4,
  Mv 6 0,
  Ia 7 2 5 6,
  Fa 8 1 7,
  Ld 9 8,
  Ln 10 0 9,
  Mv 3 10]
def f517 : AFunc := ⟨11, 2, false, [.t 3], (.seq (.region f517x0 false) (.seq (.region f517x1 false) .ret))⟩
def f518x0 : List AOper := [
  Mc 3 (.int .i64 0)]
def f518x1 : List AOper := [
  Fa 5 2 1,
  Ld 6 5,
  Mv 7 0,
  Ia 8 2 6 7,
  Fa 9 1 8,
  Ld 10 9,
  Op 4 (.alloc (.con (.slice none 0 0))),
  St 1 4 10]
def f518x2 : List AOper := [
  Ld 11 4,
  Ln 12 0 11,
  Op 13 (.mkfn 519 [(.t 4)]),
  Ct 14 511 [12, 13],
  Mv 3 14]
def f518 : AFunc := ⟨15, 2, false, [.t 3], (.seq (.region f518x0 false) (.seq (.region f518x1 false) (.seq (.region f518x2 false) .ret)))⟩
def f519x0 : List AOper := [
  Mc 3 (.int .i64 0)]
def f519x1 : List AOper := [
  Ld 4 1,
  Mv 5 0,
  Ia 6 3 4 5,
  Ls 7 3 6,
  Ct 8 520 [7],
  Mv 3 8]
def f519 : AFunc := ⟨9, 2, false, [.t 3], (.seq (.region f519x0 false) (.seq (.region f519x1 false) .ret))⟩
def f520x0 : List AOper := [
  Op 1 (.box (.t 0)),
  Mc 2 (.int .i64 0)]
def f520x1 : List AOper := [
  Fa 3 1 1,
  Ld 4 3,
  Ca 5 581 [(.t 4), (.c (.int .i64 (-1))), (.c (.int .i64 65535))],
  Un 6 .not 5,
  Mv 7 6,
  Gf 7 (Fa 8 2 1),
  Gf 7 (Ld 9 8),
  Gf 7 (Ca 10 581 [(.t 9), (.c (.int .i64 (-1))), (.c (.int .i64 65535))]),
  Gf 7 (Un 11 .not 10),
  Po 12 7 11]
def f520x2 : List AOper := [
  Mc 2 (.int .i64 5)]
def f520x3 : List AOper := [
  Mc 2 (.int .i64 0)]
def f520 : AFunc := ⟨13, 1, false, [.t 2], (.seq (.region f520x0 false) (.seq (.seq (.region f520x1 false) (.cond (.t 12) (.seq (.region f520x2 false) .ret) .skip)) (.seq (.region f520x3 false) .ret)))⟩
def f521x0 : List AOper := [
  Mc 3 (.int .i64 0)]
def f521x1 : List AOper := [
  Fa 4 3 1,
  Ld 5 4,
  Mv 6 0,
  Ia 7 3 5 6,
  Fa 8 1 7,
  Ld 9 8,
  Ln 10 0 9,
  Mv 3 10]
def f521 : AFunc := ⟨11, 2, false, [.t 3], (.seq (.region f521x0 false) (.seq (.region f521x1 false) .ret))⟩
def f522x0 : List AOper := [
  Mc 4 (.int .i64 0)]
def f522x1 : List AOper := [
  Ls 5 4 1,
  Fa 6 3 2,
  Ld 7 6,
  Mv 8 0,
  Af [2] (Ia 9 3 7 8),
  Af [4, 2] (Ls 10 3 9),
  Af [0, 5, 4, 2] (Ct 11 523 [5, 10]),
  Mv 4 11]
def f522 : AFunc := ⟨12, 3, false, [.t 4], (.seq (.region f522x0 false) (.seq (.region f522x1 true) .ret))⟩
def f523x0 : List AOper := [
  Op 2 (.box (.t 0)),
  Op 3 (.box (.t 1)),
  Mc 4 (.int .i64 0)]
def f523x1 : List AOper := [
  Fa 8 1 3,
  Ld 9 8,
  Ln 10 0 9,
  Mc 11 (.int .i64 0)]
def f523x2 : List AOper := [
  Bi 12 .lss 11 10]
def f523x3 : List AOper := [
  Mv 13 11,
  Ia 14 4 9 11,
  Ls 15 4 14,
  Op 6 (.alloc (.agg [.str [], .con (.slice none 0 0), .con (.slice none 0 0), .int .i64 0])),
  Mv 5 13,
  St 4 6 15]
def f523x4 : List AOper := [
  Ls 16 4 2,
  Fa 17 1 3,
  Ld 18 17,
  Mv 19 5,
  Af [2] (Op 20 (.slc 4 (.t 18) none (some (.t 19)) none)),
  Ls 21 4 6,
  Af [0, 4, 5, 2] (Ct 22 582 [16, 20, 21]),
  Mv 7 22]
def f523x5 : List AOper := [
  Mv 23 7,
  Bc 24 .neq 23 0]
def f523x6 : List AOper := [
  Mv 25 7,
  Mv 4 25]
def f523x7 : List AOper := [
  Bc 26 .add 11 1,
  Mv 11 26]
def f523x8L : ACode := (.seq (.region f523x2 false) (.seq (.cond (.t 12) .skip (.exit 0)) (.seq (.block 1 (.seq (.region f523x3 false) (.seq (.region f523x4 true) (.seq (.region f523x5 false) (.cond (.t 24) (.seq (.region f523x6 false) .ret) .skip))))) (.region f523x7 false))))
def f523x9 : List AOper := [
  Fa 27 2 3,
  Ld 28 27,
  Bc 29 .neq 28 1,
  Mv 30 29,
  Gt 30 (Fa 31 2 3),
  Gt 30 (Ld 32 31),
  Gt 30 (Bc 33 .neq 32 2),
  Pa 34 30 33]
def f523x10 : List AOper := [
  Mc 4 (.int .i64 15)]
def f523x11 : List AOper := [
  Mc 4 (.int .i64 0)]
def f523 : AFunc := ⟨35, 2, false, [.t 4], (.seq (.region f523x0 false) (.seq (.seq (.region f523x1 false) (.block 0 (.loop f523x8L))) (.seq (.seq (.region f523x9 false) (.cond (.t 34) (.seq (.region f523x10 false) .ret) .skip)) (.seq (.region f523x11 false) .ret))))⟩
def f524x0 : List AOper := [
  Op 1 (.box (.t 0)),
  Mc 2 (.str [])]
def f524x1 : List AOper := [
  Fa 4 2 1,
  Ld 5 4,
  Ct 6 337 [5],
  Mv 3 6]
def f524x2 : List AOper := [
  Fa 7 0 1,
  Ld 8 7]
def f524x3 : List AOper := [
  Bc 10 .eql 8 1,
  Mv 9 10]
def f524x4 : List AOper := [
  Fa 11 1 1,
  Ld 12 11,
  Op 13 (.bin .add (.c (.str [112, 114, 101, 102, 105, 120, 45, 108, 105, 115, 116, 32])) (.t 12)),
  Mv 2 13]
def f524x5 : List AOper := [
  Bc 15 .eql 8 2,
  Mv 14 15]
def f524x6 : List AOper := [
  Fa 16 1 1,
  Ld 17 16,
  Op 18 (.bin .add (.c (.str [112, 97, 116, 104, 45, 108, 105, 115, 116, 32])) (.t 17)),
  Mv 2 18]
def f524x7 : List AOper := [
  Bc 20 .eql 8 3,
  Mv 19 20]
def f524x8 : List AOper := [
  Fa 21 1 1,
  Ld 22 21,
  Op 23 (.bin .add (.c (.str [99, 111, 109, 109, 117, 110, 105, 116, 121, 45, 108, 105, 115, 116, 32])) (.t 22)),
  Mv 2 23]
def f524x9 : List AOper := [
  Bc 25 .eql 8 4,
  Mv 24 25]
def f524x10 : List AOper := [
  Mv 26 3,
  Op 27 (.bin .add (.c (.str [112, 114, 111, 116, 111, 99, 111, 108, 32])) (.t 26)),
  Mv 2 27]
def f524x11 : List AOper := [
  Bc 29 .eql 8 5,
  Mv 28 29]
def f524x12 : List AOper := [
  Mv 30 3,
  Op 31 (.bin .add (.c (.str [116, 97, 103, 32])) (.t 30)),
  Mv 2 31]
def f524x13 : List AOper := [
  Bc 33 .eql 8 6,
  Mv 32 33]
def f524x14 : List AOper := [
  Mv 34 3,
  Op 35 (.bin .add (.c (.str [109, 101, 116, 114, 105, 99, 32])) (.t 34)),
  Mv 2 35]
def f524x15 : List AOper := [
  Bc 37 .eql 8 7,
  Mv 36 37]
def f524x16 : List AOper := [
  Fa 38 3 1,
  Ls 39 2 38,
  Ct 40 229 [39],
  Op 41 (.bin .add (.c (.str [110, 101, 120, 116, 45, 104, 111, 112, 32])) (.t 40)),
  Mv 2 41]
def f524x17 : List AOper := [
  Mv 42 3,
  Op 43 (.bin .add (.c (.str [112, 97, 116, 104, 45, 108, 101, 110, 103, 116, 104, 32])) (.t 42)),
  Mv 2 43]
def f524 : AFunc := ⟨44, 1, false, [.t 2], (.seq (.region f524x0 false) (.seq (.region f524x1 false) (.seq (.seq (.region f524x2 false) (.block 0 (.seq (.region f524x3 false) (.cond (.t 9) (.seq (.region f524x4 false) .ret) (.seq (.region f524x5 false) (.cond (.t 14) (.seq (.region f524x6 false) .ret) (.seq (.region f524x7 false) (.cond (.t 19) (.seq (.region f524x8 false) .ret) (.seq (.region f524x9 false) (.cond (.t 24) (.seq (.region f524x10 false) .ret) (.seq (.region f524x11 false) (.cond (.t 28) (.seq (.region f524x12 false) .ret) (.seq (.region f524x13 false) (.cond (.t 32) (.seq (.region f524x14 false) .ret) (.seq (.region f524x15 false) (.cond (.t 36) (.seq (.region f524x16 false) .ret) .skip)))))))))))))))) (.seq (.region f524x17 false) .ret))))⟩
def f525x0 : List AOper := [
  Op 1 (.box (.t 0)),
  Mc 2 (.str [])]
def f525x1 : List AOper := [
  Fa 4 1 1,
  Ld 5 4,
  Ct 6 337 [5],
  Mv 3 6]
def f525x2 : List AOper := [
  Fa 7 0 1,
  Ld 8 7]
def f525x3 : List AOper := [
  Bc 10 .eql 8 1,
  Mv 9 10]
def f525x4 : List AOper := [
  Mv 11 3,
  Op 12 (.bin .add (.c (.str [112, 114, 101, 102, 32])) (.t 11)),
  Mv 2 12]
def f525x5 : List AOper := [
  Bc 14 .eql 8 2,
  Mv 13 14]
def f525x6 : List AOper := [
  Mv 15 3,
  Op 16 (.bin .add (.c (.str [109, 101, 100, 32])) (.t 15)),
  Mv 2 16]
def f525x7 : List AOper := [
  Bc 18 .eql 8 3,
  Mv 17 18]
def f525x8 : List AOper := [
  Mv 19 3,
  Op 20 (.bin .add (.c (.str [109, 101, 116, 114, 105, 99, 32])) (.t 19)),
  Mv 2 20]
def f525x9 : List AOper := [
  Bc 22 .eql 8 4,
  Mv 21 22]
def f525x10 : List AOper := [
  Mv 23 3,
  Op 24 (.bin .add (.c (.str [116, 97, 103, 32])) (.t 23)),
  Mv 2 24]
def f525x11 : List AOper := [
  Bc 26 .eql 8 5,
  Mv 25 26]
def f525x12 : List AOper := [
  Fa 27 4 1,
  Ld 28 27,
  Ct 29 227 [28],
  Op 30 (.bin .add (.c (.str [110, 101, 120, 116, 45, 104, 111, 112, 32])) (.t 29)),
  Mv 2 30]
def f525x13 : List AOper := [
  Bc 32 .eql 8 6,
  Mv 31 32]
def f525x14 : List AOper := [
  Fa 33 3 1,
  Ld 34 33,
  Ct 35 583 [34],
  Op 36 (.bin .add (.c (.str [97, 100, 100, 32])) (.t 35)),
  Mv 2 36]
def f525x15 : List AOper := [
  Bc 38 .eql 8 7,
  Mv 37 38]
def f525x16 : List AOper := [
  Fa 39 3 1,
  Ld 40 39,
  Ct 41 583 [40],
  Op 42 (.bin .add (.c (.str [100, 101, 108, 101, 116, 101, 32])) (.t 41)),
  Mv 2 42]
def f525x17 : List AOper := [
  Fa 43 2 1,
  Ld 44 43,
  Ct 45 337 [44],
  Op 46 (.bin .add (.c (.str [112, 114, 101, 112, 101, 110, 100, 32])) (.t 45)),
  Op 47 (.bin .add (.t 46) (.c (.str [32]))),
  Mv 48 3,
  Bi 49 .add 47 48,
  Mv 2 49]
def f525 : AFunc := ⟨50, 1, false, [.t 2], (.seq (.region f525x0 false) (.seq (.region f525x1 false) (.seq (.seq (.region f525x2 false) (.block 0 (.seq (.region f525x3 false) (.cond (.t 9) (.seq (.region f525x4 false) .ret) (.seq (.region f525x5 false) (.cond (.t 13) (.seq (.region f525x6 false) .ret) (.seq (.region f525x7 false) (.cond (.t 17) (.seq (.region f525x8 false) .ret) (.seq (.region f525x9 false) (.cond (.t 21) (.seq (.region f525x10 false) .ret) (.seq (.region f525x11 false) (.cond (.t 25) (.seq (.region f525x12 false) .ret) (.seq (.region f525x13 false) (.cond (.t 31) (.seq (.region f525x14 false) .ret) (.seq (.region f525x15 false) (.cond (.t 37) (.seq (.region f525x16 false) .ret) .skip)))))))))))))))) (.seq (.region f525x17 false) .ret))))⟩
def f526x0 : List AOper := [
  Mc 2 (.str [])]
def f526x1 : List AOper := [
  Mv 3 0]
def f526x2 : List AOper := [
  Bc 5 .eql 3 1,
  Mv 4 5]
def f526x3 : List AOper := [
  Mc 2 (.str [97, 99, 99, 101, 112, 116])]
def f526x4 : List AOper := [
  Bc 7 .eql 3 2,
  Mv 6 7]
def f526x5 : List AOper := [
  Mc 2 (.str [114, 101, 106, 101, 99, 116])]
def f526x6 : List AOper := [
  Mc 2 (.str [110, 101, 120, 116])]
def f526 : AFunc := ⟨8, 1, false, [.t 2], (.seq (.region f526x0 false) (.seq (.seq (.region f526x1 false) (.block 0 (.seq (.region f526x2 false) (.cond (.t 4) (.seq (.region f526x3 false) .ret) (.seq (.region f526x4 false) (.cond (.t 6) (.seq (.region f526x5 false) .ret) .skip)))))) (.seq (.region f526x6 false) .ret)))⟩
def f490x0 : List AOper := [
  Mc 2 (.int .i64 0)]
def f490x1 : List AOper := [
  Mv 10 0,
  Ln 11 0 10,
  Mc 12 (.int .i64 0)]
def f490x2 : List AOper := [
  Bi 13 .lss 12 11]
def f490x3 : List AOper := [
  Ia 14 9 10 12,
  Ls 15 9 14,
  Op 4 (.alloc (.agg [.int .i64 0, .int .u32 0, .int .i64 0, .int .u32 0, .int .u32 0, .int .i64 0, .int .i64 0, .int .i64 0, .int .i64 0])),
  St 9 4 15]
def f490x4 : List AOper := [
  Ls 16 9 4,
  Ct 17 561 [16],
  Mv 5 17]
def f490x5 : List AOper := [
  Mv 18 5,
  Bc 19 .neq 18 0]
def f490x6 : List AOper := [
  Mv 20 5,
  Mv 2 20]
def f490x7 : List AOper := [
  Bc 21 .add 12 1,
  Mv 12 21]
def f490x8L : ACode := (.seq (.region f490x2 false) (.seq (.cond (.t 13) .skip (.exit 0)) (.seq (.block 1 (.seq (.region f490x3 false) (.seq (.region f490x4 false) (.seq (.region f490x5 false) (.cond (.t 19) (.seq (.region f490x6 false) .ret) .skip))))) (.region f490x7 false))))
def f490x9 : List AOper := [
  Mv 22 0,
  Ln 23 0 22,
  Mc 24 (.int .i64 0)]
def f490x10 : List AOper := [
  Bi 25 .lss 24 23]
def f490x11 : List AOper := [
  Mv 26 24,
  Ia 27 9 22 24,
  Ls 28 9 27,
  Op 7 (.alloc (.agg [.int .i64 0, .int .u32 0, .int .i64 0, .int .u32 0, .int .u32 0, .int .i64 0, .int .i64 0, .int .i64 0, .int .i64 0])),
  Mv 6 26,
  St 9 7 28]
def f490x12 : List AOper := [
  Mv 29 0,
  Mv 30 6,
  Op 31 (.slc 9 (.t 29) none (some (.t 30)) none),
  Ln 32 0 31,
  Mc 33 (.int .i64 0)]
def f490x13 : List AOper := [
  Bi 34 .lss 33 32]
def f490x14 : List AOper := [
  Ia 35 9 31 33,
  Ls 36 9 35,
  Op 9 (.alloc (.agg [.int .i64 0, .int .u32 0, .int .i64 0, .int .u32 0, .int .u32 0, .int .i64 0, .int .i64 0, .int .i64 0, .int .i64 0])),
  St 9 9 36]
def f490x15 : List AOper := [
  Fa 37 1 7,
  Ls 38 2 37,
  Fa 39 1 9,
  Ls 40 2 39,
  Ct 41 241 [38, 40]]
def f490x16 : List AOper := [
  Mc 2 (.int .i64 7)]
def f490x17 : List AOper := [
  Bc 42 .add 33 1,
  Mv 33 42]
def f490x18L : ACode := (.seq (.region f490x13 false) (.seq (.cond (.t 34) .skip (.exit 4)) (.seq (.block 5 (.seq (.region f490x14 false) (.seq (.region f490x15 false) (.cond (.t 41) (.seq (.region f490x16 false) .ret) .skip)))) (.region f490x17 false))))
def f490x19 : List AOper := [
  Bc 43 .add 24 1,
  Mv 24 43]
def f490x20L : ACode := (.seq (.region f490x10 false) (.seq (.cond (.t 25) .skip (.exit 2)) (.seq (.block 3 (.seq (.region f490x11 false) (.seq (.region f490x12 false) (.block 4 (.loop f490x18L))))) (.region f490x19 false))))
def f490x21 : List AOper := [
  Mc 2 (.int .i64 0)]
def f490 : AFunc := ⟨44, 1, false, [.t 2], (.seq (.region f490x0 false) (.seq (.seq (.region f490x1 false) (.block 0 (.loop f490x8L))) (.seq (.seq (.region f490x9 false) (.block 2 (.loop f490x20L))) (.seq (.region f490x21 false) .ret))))⟩
def f41x0 : List AOper := [
  Mc 2 (.int .i64 0)]
def f41x1 : List AOper := [
  Mc 3 (.int .i64 0)]
def f41x2 : List AOper := [
  Mv 6 0,
  Ln 7 0 6,
  Mc 8 (.int .i64 0)]
def f41x3 : List AOper := [
  Bi 9 .lss 8 7]
def f41x4 : List AOper := [
  Ia 10 1 6 8,
  Ld 11 10,
  Mv 5 11]
def f41x5 : List AOper := [
  Mv 12 5,
  Mv 13 3,
  Bi 14 .neq 12 13]
def f41x6 : List AOper := [
  Mv 15 5,
  Mv 2 15]
def f41x7 : List AOper := [
  Bc 16 .add 8 1,
  Mv 8 16]
def f41x8L : ACode := (.seq (.region f41x3 false) (.seq (.cond (.t 9) .skip (.exit 0)) (.seq (.block 1 (.seq (.region f41x4 false) (.seq (.region f41x5 false) (.cond (.t 14) (.seq (.region f41x6 false) .ret) .skip)))) (.region f41x7 false))))
def f41x9 : List AOper := [
  Mv 17 3,
  Mv 2 17]
def f41 : AFunc := ⟨18, 1, false, [.t 2], (.seq (.region f41x0 false) (.seq (.region f41x1 false) (.seq (.seq (.region f41x2 false) (.block 0 (.loop f41x8L))) (.seq (.region f41x9 false) .ret))))⟩
def f43x0 : List AOper := [
  Mc 4 (.int .i64 0)]
def f43x1 : List AOper := [
  Mv 7 0,
  Ct 8 56 [7],
  Mv 5 8]
def f43x2 : List AOper := [
  Mv 9 1,
  Ct 10 56 [9],
  Mv 6 10]
def f43x3 : List AOper := [
  Mv 11 5]
def f43x4 : List AOper := [
  Mv 12 6]
def f43x5 : List AOper := [
  Mc 4 (.int .i64 0)]
def f43x6 : List AOper := [
  Mc 4 (.int .i64 (-1))]
def f43x7 : List AOper := [
  Mv 13 6]
def f43x8 : List AOper := [
  Mc 4 (.int .i64 1)]
def f43x9 : List AOper := [
  Mv 14 0,
  Mv 15 1,
  Bi 16 .lss 14 15]
def f43x10 : List AOper := [
  Mc 4 (.int .i64 (-1))]
def f43x11 : List AOper := [
  Mv 17 0,
  Mv 18 1,
  Bi 19 .gtr 17 18]
def f43x12 : List AOper := [
  Mc 4 (.int .i64 1)]
def f43x13 : List AOper := [
  Mc 4 (.int .i64 0)]
def f43 : AFunc := ⟨20, 2, false, [.t 4], (.seq (.region f43x0 false) (.seq (.region f43x1 false) (.seq (.region f43x2 false) (.seq (.seq (.region f43x3 false) (.cond (.t 11) (.seq (.seq (.region f43x4 false) (.cond (.t 12) (.seq (.region f43x5 false) .ret) .skip)) (.seq (.region f43x6 false) .ret)) .skip)) (.seq (.seq (.region f43x7 false) (.cond (.t 13) (.seq (.region f43x8 false) .ret) .skip)) (.seq (.seq (.region f43x9 false) (.cond (.t 16) (.seq (.region f43x10 false) .ret) .skip)) (.seq (.seq (.region f43x11 false) (.cond (.t 19) (.seq (.region f43x12 false) .ret) .skip)) (.seq (.region f43x13 false) .ret))))))))⟩
def f172x0 : List AOper := [
  Op 2 (.box (.t 0)),
  Op 3 (.box (.t 1)),
  Mc 4 (.int .i64 0)]
def f172x1 : List AOper := [
  Fa 6 0 2,
  Ld 7 6,
  Fa 8 0 3,
  Ld 9 8,
  Bi 10 .lss 7 9,
  Mv 11 10,
  Gf 11 (Fa 12 0 2),
  Gf 11 (Ld 13 12),
  Gf 11 (Fa 14 0 3),
  Gf 11 (Ld 15 14),
  Gf 11 (Bi 16 .eql 13 15),
  Gf 11 (Mv 17 16),
  Gt 17 (Fa 18 1 2),
  Gt 17 (Ld 19 18),
  Gt 17 (Fa 20 1 3),
  Gt 17 (Ld 21 20),
  Gt 17 (Bi 22 .lss 19 21),
  Gf 11 (Pa 23 17 22),
  Po 24 11 23,
  Mv 5 24]
def f172x2 : List AOper := [
  Mc 4 (.int .i64 (-1))]
def f172x3 : List AOper := [
  Ls 26 2 2,
  Ls 27 2 3,
  Op 28 (.eqs [.int, .int] false (.t 26) (.t 27)),
  Mv 25 28]
def f172x4 : List AOper := [
  Mc 4 (.int .i64 0)]
def f172x5 : List AOper := [
  Mc 4 (.int .i64 1)]
def f172 : AFunc := ⟨29, 2, false, [.t 4], (.seq (.region f172x0 false) (.seq (.block 0 (.seq (.region f172x1 false) (.cond (.t 5) (.seq (.region f172x2 false) .ret) (.seq (.region f172x3 false) (.cond (.t 25) (.seq (.region f172x4 false) .ret) .skip))))) (.seq (.region f172x5 false) .ret)))⟩
def f491x0 : List AOper := [
  Op 1 (.box (.t 0)),
  Mc 2 (.int .i64 0)]
def f491x1 : List AOper := [
  Fa 9 0 1,
  Ld 10 9,
  Ca 11 562 [(.t 10), (.c (.int .i64 1)), (.c (.int .i64 4294967295))],
  Mv 12 11,
  Gf 12 (Fa 13 1 1),
  Gf 12 (Ld 14 13),
  Gf 12 (Ca 15 562 [(.t 14), (.c (.int .i64 0)), (.c (.int .i64 4294967295))]),
  Po 16 12 15,
  Mv 8 16]
def f491x2 : List AOper := [
  Mc 2 (.int .i64 5)]
def f491x3 : List AOper := [
  Fa 18 0 1,
  Ld 19 18,
  Fa 20 1 1,
  Ld 21 20,
  Bi 22 .eql 19 21,
  Mv 17 22]
def f491x4 : List AOper := [
  Mc 2 (.int .i64 14)]
def f491x5 : List AOper := [
  Fa 24 2 1,
  Ld 25 24,
  Op 26 (.bin .eql (.t 25) (.c (.int .u32 0))),
  Mv 23 26]
def f491x6 : List AOper := [
  Mc 2 (.int .i64 1)]
def f491x7 : List AOper := [
  Fa 28 4 1,
  Ld 29 28,
  Ln 30 0 29,
  Bc 31 .gtr 30 16,
  Mv 32 31,
  Gf 32 (Fa 33 5 1),
  Gf 32 (Ld 34 33),
  Gf 32 (Ln 35 0 34),
  Gf 32 (Bc 36 .gtr 35 2000),
  Po 37 32 36,
  Mv 27 37]
def f491x8 : List AOper := [
  Mc 2 (.int .i64 4)]
def f491x9 : List AOper := [
  Fa 38 6 1,
  Ls 39 4 38,
  Ct 40 451 [39],
  Mv 3 40]
def f491x10 : List AOper := [
  Mv 41 3,
  Bc 42 .neq 41 0]
def f491x11 : List AOper := [
  Mv 43 3,
  Mv 2 43]
def f491x12 : List AOper := [
  Fa 44 5 1,
  Ld 45 44,
  Ct 46 563 [45],
  Mv 4 46]
def f491x13 : List AOper := [
  Mv 47 4,
  Bc 48 .neq 47 0]
def f491x14 : List AOper := [
  Mv 49 4,
  Mv 2 49]
def f491x15 : List AOper := [
  Fa 50 10 1,
  Ls 51 4 50,
  Ct 52 564 [51],
  Mv 5 52]
def f491x16 : List AOper := [
  Mv 53 5,
  Bc 54 .neq 53 0,
  Mv 55 54,
  Gt 55 (Fa 56 10 1),
  Gt 55 (Ls 57 4 56),
  Gt 55 (Op 58 (.build [.int .i64 0, .int .i64 0, .int .i64 0, .int .i64 0] [] [])),
  Gt 55 (Op 59 (.eqs [.int, .int, .int, .int] true (.t 57) (.t 58))),
  Pa 60 55 59]
def f491x17 : List AOper := [
  Mv 61 5,
  Mv 2 61]
def f491x18 : List AOper := [
  Fa 62 14 1,
  Ld 63 62,
  Ca 64 562 [(.t 63), (.c (.int .i64 0)), (.c (.int .i64 16))]]
def f491x19 : List AOper := [
  Mc 2 (.int .i64 5)]
def f491x20 : List AOper := [
  Fa 65 4 1,
  Ld 66 65,
  Ln 67 0 66,
  Mc 68 (.int .i64 0)]
def f491x21 : List AOper := [
  Bi 69 .lss 68 67]
def f491x22 : List AOper := [
  Mv 70 68,
  Mv 6 70]
def f491x23 : List AOper := [
  Ls 71 15 1,
  Mv 72 6,
  Ct 73 565 [71, 72],
  Mv 7 73]
def f491x24 : List AOper := [
  Mv 74 7,
  Bc 75 .neq 74 0]
def f491x25 : List AOper := [
  Mv 76 7,
  Mv 2 76]
def f491x26 : List AOper := [
  Bc 77 .add 68 1,
  Mv 68 77]
def f491x27L : ACode := (.seq (.region f491x21 false) (.seq (.cond (.t 69) .skip (.exit 1)) (.seq (.block 2 (.seq (.region f491x22 false) (.seq (.region f491x23 false) (.seq (.region f491x24 false) (.cond (.t 75) (.seq (.region f491x25 false) .ret) .skip))))) (.region f491x26 false))))
def f491x28 : List AOper := [
  Mc 2 (.int .i64 0)]
def f491 : AFunc := ⟨78, 1, false, [.t 2], (.seq (.region f491x0 false) (.seq (.block 0 (.seq (.region f491x1 false) (.cond (.t 8) (.seq (.region f491x2 false) .ret) (.seq (.region f491x3 false) (.cond (.t 17) (.seq (.region f491x4 false) .ret) (.seq (.region f491x5 false) (.cond (.t 23) (.seq (.region f491x6 false) .ret) (.seq (.region f491x7 false) (.cond (.t 27) (.seq (.region f491x8 false) .ret) .skip))))))))) (.seq (.seq (.region f491x9 false) (.seq (.region f491x10 false) (.cond (.t 42) (.seq (.region f491x11 false) .ret) .skip))) (.seq (.seq (.region f491x12 false) (.seq (.region f491x13 false) (.cond (.t 48) (.seq (.region f491x14 false) .ret) .skip))) (.seq (.seq (.region f491x15 false) (.seq (.region f491x16 false) (.cond (.t 60) (.seq (.region f491x17 false) .ret) .skip))) (.seq (.seq (.region f491x18 false) (.cond (.t 64) (.seq (.region f491x19 false) .ret) .skip)) (.seq (.seq (.region f491x20 false) (.block 1 (.loop f491x27L))) (.seq (.region f491x28 false) .ret))))))))⟩
def f492x0 : List AOper := [
  Op 2 (.box (.t 0)),
  Op 3 (.box (.t 1)),
  Mc 4 (.int .i64 0)]
def f492x1 : List AOper := [
  Fa 7 0 3,
  Ld 8 7,
  Bc 9 .lss 8 1,
  Mv 10 9,
  Gf 10 (Fa 11 0 3),
  Gf 10 (Ld 12 11),
  Gf 10 (Bc 13 .gtr 12 7),
  Po 14 10 13]
def f492x2 : List AOper := [
  Mc 4 (.int .i64 15)]
def f492x3 : List AOper := [
  Fa 15 1 3,
  Ld 16 15]
def f492x4 : List AOper := [
  Bc 18 .eql 16 5,
  Mv 17 18]
def f492x5 : List AOper := [
  Fa 19 0 3,
  Ld 20 19,
  Bc 21 .geq 20 3,
  Mv 22 21,
  Gt 22 (Fa 23 0 3),
  Gt 22 (Ld 24 23),
  Gt 22 (Bc 25 .leq 24 5),
  Pa 26 22 25]
def f492x6 : List AOper := [
  Mc 4 (.int .i64 1)]
def f492x7 : List AOper := [
  Bc 28 .eql 16 6,
  Mv 27 28]
def f492x8 : List AOper := [
  Fa 29 0 3,
  Ld 30 29,
  Bc 31 .eql 30 6,
  Mv 32 31,
  Gf 32 (Fa 33 0 3),
  Gf 32 (Ld 34 33),
  Gf 32 (Bc 35 .eql 34 7),
  Po 36 32 35]
def f492x9 : List AOper := [
  Mc 4 (.int .i64 1)]
def f492x10 : List AOper := [
  Mc 4 (.int .i64 15)]
def f492x11 : List AOper := [
  Fa 37 3 3,
  Ld 38 37,
  Bc 39 .lss 38 0,
  Mv 40 39,
  Gf 40 (Fa 41 3 3),
  Gf 40 (Ld 42 41),
  Gf 40 (Bc 43 .gtr 42 16777216),
  Po 44 40 43]
def f492x12 : List AOper := [
  Mc 4 (.int .i64 5)]
def f492x13 : List AOper := [
  Ls 46 4 2,
  Fa 47 2 3,
  Ld 48 47,
  Ct 49 566 [46, 48],
  Mv 45 49,
  Ex 50 45 0,
  Ex 51 45 1,
  Op 5 (.alloc (.agg [.str [], .con (.slice none 0 0), .int .i64 0])),
  St 3 5 50,
  Mv 6 51]
def f492x14 : List AOper := [
  Fa 52 2 3,
  Ld 53 52,
  Op 54 (.bin .neq (.t 53) (.c (.str []))),
  Mv 55 54,
  Gt 55 (Mv 56 6),
  Gt 55 (Un 57 .not 56),
  Pa 58 55 57]
def f492x15 : List AOper := [
  Mc 4 (.int .i64 6)]
def f492x16 : List AOper := [
  Mc 4 (.int .i64 0)]
def f492 : AFunc := ⟨59, 2, false, [.t 4], (.seq (.region f492x0 false) (.seq (.seq (.region f492x1 false) (.cond (.t 14) (.seq (.region f492x2 false) .ret) .skip)) (.seq (.seq (.region f492x3 false) (.block 0 (.seq (.region f492x4 false) (.cond (.t 17) (.seq (.region f492x5 false) (.cond (.t 26) (.seq (.region f492x6 false) .ret) .skip)) (.seq (.region f492x7 false) (.cond (.t 27) (.seq (.region f492x8 false) (.cond (.t 36) (.seq (.region f492x9 false) .ret) .skip)) (.seq (.region f492x10 false) .ret))))))) (.seq (.seq (.region f492x11 false) (.cond (.t 44) (.seq (.region f492x12 false) .ret) .skip)) (.seq (.seq (.region f492x13 false) (.seq (.region f492x14 false) (.cond (.t 58) (.seq (.region f492x15 false) .ret) .skip))) (.seq (.region f492x16 false) .ret))))))⟩
def f347x0 : List AOper := [
  Mc 2 (.bool false)]
def f347x1 : List AOper := [
  Mv 4 0,
  Op 5 (.bin .eql (.t 4) (.c (.str []))),
  Mv 6 5,
  Gf 6 (Mv 7 0),
  Gf 6 (Ln 8 1 7),
  Gf 6 (Bc 9 .gtr 8 1),
  Gf 6 (Mv 10 9),
  Gt 10 (Mv 11 0),
  Gt 10 (Op 12 (.istr (.t 11) (.c (.int .i64 0)))),
  Gt 10 (Op 13 (.bin .eql (.t 12) (.c (.int .u8 48)))),
  Gf 6 (Pa 14 10 13),
  Po 15 6 14]
def f347x2 : List AOper := [
  Mc 2 (.bool false)]
def f347x3 : List AOper := [
  Mv 16 0,
  Ln 17 1 16,
  Mc 18 (.int .i64 0)]
def f347x4 : List AOper := [
  Bi 19 .lss 18 17]
def f347x5 : List AOper := [
  Mv 20 18,
  Mv 3 20]
def f347x6 : List AOper := [
  Mv 21 0,
  Mv 22 3,
  Op 23 (.istr (.t 21) (.t 22)),
  Op 24 (.bin .lss (.t 23) (.c (.int .u8 48))),
  Mv 25 24,
  Gf 25 (Mv 26 0),
  Gf 25 (Mv 27 3),
  Gf 25 (Op 28 (.istr (.t 26) (.t 27))),
  Gf 25 (Op 29 (.bin .gtr (.t 28) (.c (.int .u8 57)))),
  Po 30 25 29]
def f347x7 : List AOper := [
  Mc 2 (.bool false)]
def f347x8 : List AOper := [
  Bc 31 .add 18 1,
  Mv 18 31]
def f347x9L : ACode := (.seq (.region f347x4 false) (.seq (.cond (.t 19) .skip (.exit 0)) (.seq (.block 1 (.seq (.region f347x5 false) (.seq (.region f347x6 false) (.cond (.t 30) (.seq (.region f347x7 false) .ret) .skip)))) (.region f347x8 false))))
def f347x10 : List AOper := [
  Mc 2 (.bool true)]
def f347 : AFunc := ⟨32, 1, false, [.t 2], (.seq (.region f347x0 false) (.seq (.seq (.region f347x1 false) (.cond (.t 15) (.seq (.region f347x2 false) .ret) .skip)) (.seq (.seq (.region f347x3 false) (.block 0 (.loop f347x9L))) (.seq (.region f347x10 false) .ret))))⟩
def f250x0 : List AOper := [
  Mc 4 (.int .i64 0),
  Mc 5 (.bool false)]
def f250x1 : List AOper := [
  Mv 9 0,
  Ct 10 263 [9],
  Mv 8 10,
  Ex 11 8 0,
  Ex 12 8 1,
  Mv 6 11,
  Mv 7 12]
def f250x2 : List AOper := [
  Mv 13 6,
  Mv 14 7,
  Op 15 (.eqn .iface false (.t 14) (.c (.con (.nilIface)))),
  Mv 16 15,
  Gt 16 (Mv 17 6),
  Gt 16 (Bc 18 .geq 17 0),
  Pa 19 16 18,
  Mv 20 19,
  Gt 20 (Mv 21 6),
  Gt 20 (Mv 22 1),
  Gt 20 (Bi 23 .leq 21 22),
  Pa 24 20 23,
  Mv 25 24,
  Gt 25 (Mv 26 6),
  Gt 25 (Ct 27 246 [26]),
  Gt 25 (Mv 28 0),
  Gt 25 (Bi 29 .eql 27 28),
  Pa 30 25 29,
  Mv 4 13,
  Mv 5 30]
def f250 : AFunc := ⟨31, 2, false, [.t 4, .t 5], (.seq (.region f250x0 false) (.seq (.region f250x1 false) (.seq (.region f250x2 false) .ret)))⟩
def f585x0 : List AOper := [
  Mc 4 (.bool false)]
def f585x1 : List AOper := [
  Mv 11 1,
  Ct 12 592 [11],
  Mv 10 12,
  Ex 13 10 0,
  Ex 14 10 1,
  Mv 5 13,
  Mv 6 14]
def f585x2 : List AOper := [
  Mc 7 (.int .i64 0)]
def f585x3 : List AOper := [
  Mv 15 5]
def f585x4 : List AOper := [
  Op 17 (.bin .eql (.t 15) (.c (.str [112, 114, 101, 102, 105, 120, 45, 108, 105, 115, 116]))),
  Mv 16 17]
def f585x5 : List AOper := [
  Mc 7 (.int .i64 1)]
def f585x6 : List AOper := [
  Op 19 (.bin .eql (.t 15) (.c (.str [112, 97, 116, 104, 45, 108, 105, 115, 116]))),
  Mv 18 19]
def f585x7 : List AOper := [
  Mc 7 (.int .i64 2)]
def f585x8 : List AOper := [
  Op 21 (.bin .eql (.t 15) (.c (.str [99, 111, 109, 109, 117, 110, 105, 116, 121, 45, 108, 105, 115, 116]))),
  Mv 20 21]
def f585x9 : List AOper := [
  Mc 7 (.int .i64 3)]
def f585x10 : List AOper := [
  Op 23 (.bin .eql (.t 15) (.c (.str [112, 111, 108, 105, 99, 121]))),
  Mv 22 23]
def f585x11 : List AOper := [
  Mc 7 (.int .i64 4)]
def f585x12 : List AOper := [
  Mc 4 (.bool false)]
def f585x13 : List AOper := [
  Mv 24 7,
  Mv 25 0,
  Nc 26 25,
  Fa 27 8 26,
  Ld 28 27,
  Bi 29 .geq 24 28,
  Ct 30 586 [29]]
def f585x14 : List AOper := [
  Mv 31 6,
  Ct 32 597 [31],
  Mv 8 32]
def f585x15 : List AOper := [
  Mv 33 0,
  Mv 34 7,
  Nc 35 33,
  Fa 36 8 35,
  St 1 36 34]
def f585x16 : List AOper := [
  Mv 37 0,
  Mv 38 7,
  Bc 39 .sub 38 1,
  Nc 40 37,
  Fa 41 4 40,
  Op 42 (.iarr 4 1 (.t 41) (.t 39)),
  Ld 43 42,
  Mv 9 43]
def f585x17 : List AOper := [
  Mv 44 9,
  Ln 45 0 44,
  Bc 46 .geq 45 64]
def f585x18 : List AOper := [
  Ca 47 590 [(.c (.int .i64 4))]]
def f585x19 : List AOper := [
  Mv 48 9,
  Mv 49 8,
  Ct 50 577 [48, 49],
  Ct 51 590 [50]]
def f585x20 : List AOper := [
  Mv 52 0,
  Mv 53 7,
  Bc 54 .sub 53 1,
  Mv 55 9,
  Mv 56 8,
  Op 57 (.bsl 1 [.str []] 1 [0] [(.t 56)]),
  Af [5] (Ap 58 1 16 55 57),
  Nc 59 52,
  Fa 60 4 59,
  Op 61 (.iarr 4 1 (.t 60) (.t 54)),
  Af [6, 5] (St 1 61 58)]
def f585x21 : List AOper := [
  Mv 62 7]
def f585x22 : List AOper := [
  Bc 64 .eql 62 1,
  Mv 63 64]
def f585x23 : List AOper := [
  Mv 65 0,
  Mv 66 0,
  Nc 67 66,
  Fa 68 0 67,
  Fa 69 0 68,
  Ld 70 69,
  Mv 71 8,
  Op 72 (.build [.str [], .con (.slice none 0 0)] [(0, 1)] [(.t 71)]),
  Op 73 (.bsl 2 [.str [], .con (.slice none 0 0)] 1 [0] [(.t 72)]),
  Ap 74 2 40 70 73,
  Nc 75 65,
  Fa 76 0 75,
  Fa 77 0 76,
  St 1 77 74]
def f585x24 : List AOper := [
  Bc 79 .eql 62 2,
  Mv 78 79]
def f585x25 : List AOper := [
  Mv 80 0,
  Mv 81 0,
  Nc 82 81,
  Fa 83 0 82,
  Fa 84 1 83,
  Ld 85 84,
  Mv 86 8,
  Op 87 (.build [.str [], .con (.slice none 0 0)] [(0, 1)] [(.t 86)]),
  Op 88 (.bsl 2 [.str [], .con (.slice none 0 0)] 1 [0] [(.t 87)]),
  Ap 89 2 40 85 88,
  Nc 90 80,
  Fa 91 0 90,
  Fa 92 1 91,
  St 1 92 89]
def f585x26 : List AOper := [
  Bc 94 .eql 62 3,
  Mv 93 94]
def f585x27 : List AOper := [
  Mv 95 0,
  Mv 96 0,
  Nc 97 96,
  Fa 98 0 97,
  Fa 99 2 98,
  Ld 100 99,
  Mv 101 8,
  Op 102 (.build [.str [], .con (.slice none 0 0)] [(0, 1)] [(.t 101)]),
  Op 103 (.bsl 2 [.str [], .con (.slice none 0 0)] 1 [0] [(.t 102)]),
  Ap 104 2 40 100 103,
  Nc 105 95,
  Fa 106 0 105,
  Fa 107 2 106,
  St 1 107 104]
def f585x28 : List AOper := [
  Bc 109 .eql 62 4,
  Mv 108 109]
def f585x29 : List AOper := [
  Mv 110 0,
  Mv 111 0,
  Nc 112 111,
  Fa 113 0 112,
  Fa 114 3 113,
  Ld 115 114,
  Mv 116 8,
  Op 117 (.build [.str [], .con (.slice none 0 0), .int .i64 0] [(0, 1)] [(.t 116)]),
  Op 118 (.bsl 3 [.str [], .con (.slice none 0 0), .int .i64 0] 1 [0] [(.t 117)]),
  Ap 119 3 48 115 118,
  Nc 120 110,
  Fa 121 0 120,
  Fa 122 3 121,
  St 1 122 119]
def f585x30 : List AOper := [
  Mv 123 0,
  Nc 124 123,
  Fa 125 9 124,
  ⟨none, .store 1 (.t 125) (.c (.bool true)), none, []⟩]
def f585x31 : List AOper := [
  Mc 4 (.bool true)]
def f585 : AFunc := ⟨126, 2, false, [.t 4], (.seq (.region f585x0 false) (.seq (.region f585x1 false) (.seq (.region f585x2 false) (.seq (.seq (.region f585x3 false) (.block 0 (.seq (.region f585x4 false) (.cond (.t 16) (.region f585x5 false) (.seq (.region f585x6 false) (.cond (.t 18) (.region f585x7 false) (.seq (.region f585x8 false) (.cond (.t 20) (.region f585x9 false) (.seq (.region f585x10 false) (.cond (.t 22) (.region f585x11 false) (.seq (.region f585x12 false) .ret))))))))))) (.seq (.region f585x13 false) (.seq (.region f585x14 false) (.seq (.region f585x15 false) (.seq (.region f585x16 false) (.seq (.seq (.region f585x17 false) (.cond (.t 46) (.region f585x18 false) .skip)) (.seq (.region f585x19 false) (.seq (.region f585x20 true) (.seq (.seq (.region f585x21 false) (.block 1 (.seq (.region f585x22 false) (.cond (.t 63) (.region f585x23 false) (.seq (.region f585x24 false) (.cond (.t 78) (.region f585x25 false) (.seq (.region f585x26 false) (.cond (.t 93) (.region f585x27 false) (.seq (.region f585x28 false) (.cond (.t 108) (.seq (.region f585x29 false) (.region f585x30 false)) .skip)))))))))) (.seq (.region f585x31 false) .ret)))))))))))))⟩
def f334x0 : List AOper := [
  Op 2 (.alloc (.agg [.bool false, .int .u32 0, .int .i64 0, .int .i64 0, .int .i64 0])),
  Mc 3 (.int .i64 0)]
def f334x1 : List AOper := [
  Mv 14 0,
  Ct 15 339 [14],
  Mv 13 15,
  Ex 16 13 0,
  Ex 17 13 1,
  Mv 4 16,
  Mv 5 17]
def f334x2 : List AOper := [
  Mv 18 5,
  Bc 19 .neq 18 0,
  Mv 20 19,
  Gf 20 (Mv 21 4),
  Gf 20 (Ln 22 0 21),
  Gf 20 (Bc 23 .lss 22 2),
  Po 24 20 23,
  Mv 25 24,
  Gf 25 (Mv 26 4),
  Gf 25 (Ln 27 0 26),
  Gf 25 (Bc 28 .gtr 27 3),
  Po 29 25 28]
def f334x3 : List AOper := [
  Op 30 (.build [.bool false, .int .u32 0, .int .i64 0, .int .i64 0, .int .i64 0] [] []),
  St 5 2 30,
  Mc 3 (.int .i64 2)]
def f334x4 : List AOper := [
  Mv 32 4,
  Op 33 (.iadr 1 (.t 32) (.c (.int .i64 1))),
  Ld 34 33,
  Ct 35 233 [34],
  Mv 31 35,
  Ex 36 31 0,
  Ex 37 31 1,
  Op 6 (.alloc (.agg [.int .u32 0, .int .i64 0])),
  St 2 6 36,
  Mv 5 37]
def f334x5 : List AOper := [
  Mv 38 5,
  Bc 39 .neq 38 0]
def f334x6 : List AOper := [
  Op 40 (.build [.bool false, .int .u32 0, .int .i64 0, .int .i64 0, .int .i64 0] [] []),
  St 5 2 40,
  Mc 3 (.int .i64 2)]
def f334x7 : List AOper := [
  Mv 41 4,
  Op 42 (.iadr 1 (.t 41) (.c (.int .i64 0))),
  Af [1] (Ld 43 42),
  Op 44 (.bin .eql (.t 43) (.c (.str [112, 101, 114, 109, 105, 116]))),
  Ls 45 2 6,
  Fa 46 1 6,
  Ld 47 46,
  Fa 48 1 6,
  Ld 49 48,
  Op 50 (.build [.bool false, .int .u32 0, .int .i64 0, .int .i64 0, .int .i64 0] [(0, 1), (1, 2), (3, 1), (4, 1)] [(.t 44), (.t 45), (.t 47), (.t 49)]),
  Op 7 (.alloc (.agg [.bool false, .int .u32 0, .int .i64 0, .int .i64 0, .int .i64 0])),
  Af [10, 4, 6, 8, 2, 1] (St 5 7 50)]
def f334x8 : List AOper := [
  Mv 51 4,
  Ln 52 0 51,
  Bc 53 .eql 52 3]
def f334x9 : List AOper := [
  Mv 55 4,
  Op 56 (.iadr 1 (.t 55) (.c (.int .i64 2))),
  Ld 57 56,
  Ct 58 340 [57],
  Mv 54 58,
  Ex 59 54 0,
  Ex 60 54 1,
  Ex 61 54 2,
  Mv 8 59,
  Mv 9 60,
  Mv 10 61]
def f334x10 : List AOper := [
  Mv 62 10,
  Un 63 .not 62]
def f334x11 : List AOper := [
  Op 64 (.build [.bool false, .int .u32 0, .int .i64 0, .int .i64 0, .int .i64 0] [] []),
  St 5 2 64,
  Mc 3 (.int .i64 2)]
def f334x12 : List AOper := [
  Mv 65 8,
  Mv 66 9,
  Fa 67 3 7,
  St 1 67 65,
  Fa 68 4 7,
  St 1 68 66]
def f334x13 : List AOper := [
  Ls 70 5 7,
  Ct 71 332 [70],
  Mv 69 71,
  Ex 72 69 0,
  Ex 73 69 1,
  Mv 11 72,
  Mv 12 73]
def f334x14 : List AOper := [
  Mv 74 12,
  Bc 75 .neq 74 0,
  Mv 76 75,
  Gf 76 (Mv 77 11),
  Gf 76 (Mv 78 0),
  Gf 76 (Bi 79 .neq 77 78),
  Po 80 76 79]
def f334x15 : List AOper := [
  Op 81 (.build [.bool false, .int .u32 0, .int .i64 0, .int .i64 0, .int .i64 0] [] []),
  St 5 2 81,
  Mc 3 (.int .i64 2)]
def f334x16 : List AOper := [
  Ls 82 5 7,
  St 5 2 82,
  Mc 3 (.int .i64 0)]
def f334 : AFunc := ⟨83, 1, false, [.cell 2 (some 5), .t 3], (.seq (.region f334x0 false) (.seq (.region f334x1 false) (.seq (.seq (.region f334x2 false) (.cond (.t 29) (.seq (.region f334x3 false) .ret) .skip)) (.seq (.region f334x4 false) (.seq (.seq (.region f334x5 false) (.cond (.t 39) (.seq (.region f334x6 false) .ret) .skip)) (.seq (.region f334x7 true) (.seq (.seq (.region f334x8 false) (.cond (.t 53) (.seq (.region f334x9 false) (.seq (.seq (.region f334x10 false) (.cond (.t 63) (.seq (.region f334x11 false) .ret) .skip)) (.region f334x12 false))) .skip)) (.seq (.seq (.region f334x13 false) (.seq (.region f334x14 false) (.cond (.t 80) (.seq (.region f334x15 false) .ret) .skip))) (.seq (.region f334x16 false) .ret)))))))))⟩
def f586x0 : List AOper := [
  Mv 2 0,
  Un 3 .not 2]
def f586x1 : List AOper := [
  Op 4 (.build [.int .i64 0] [(0, 1)] [(.c (.int .i64 2))]),
  Op 5 (.mkifc 175 (.t 4)),
  ⟨none, .panic (.t 5), none, []⟩]
def f586 : AFunc := ⟨6, 1, false, [], (.seq (.region f586x0 false) (.cond (.t 3) (.region f586x1 false) .skip))⟩
def f587x0 : List AOper := [
  Mv 2 0,
  Bc 3 .geq 2 64]
def f587x1 : List AOper := [
  Ca 4 590 [(.c (.int .i64 4))]]
def f587 : AFunc := ⟨5, 1, false, [], (.seq (.region f587x0 false) (.cond (.t 3) (.region f587x1 false) .skip))⟩
def f588x0 : List AOper := [
  Mc 2 (.bool false),
  Mc 3 (.str [])]
def f588x1 : List AOper := [
  Mv 7 0,
  Ct 8 592 [7],
  Mv 6 8,
  Ex 9 6 0,
  Ex 10 6 1,
  Mv 4 9,
  Mv 5 10]
def f588x2 : List AOper := [
  Mv 11 4,
  Op 12 (.bin .eql (.t 11) (.c (.str [112, 101, 114, 109, 105, 116]))),
  Mv 13 12,
  Gf 13 (Mv 14 4),
  Gf 13 (Op 15 (.bin .eql (.t 14) (.c (.str [100, 101, 110, 121])))),
  Po 16 13 15,
  Ct 17 586 [16]]
def f588x3 : List AOper := [
  Mv 18 4,
  Op 19 (.bin .eql (.t 18) (.c (.str [112, 101, 114, 109, 105, 116]))),
  Mv 20 5,
  Mv 2 19,
  Mv 3 20]
def f588 : AFunc := ⟨21, 1, false, [.t 2, .t 3], (.seq (.region f588x0 false) (.seq (.region f588x1 false) (.seq (.region f588x2 false) (.seq (.region f588x3 false) .ret))))⟩
def f589x0 : List AOper := [
  Mc 2 (.int .i64 0)]
def f589x1 : List AOper := [
  Mv 3 0,
  Op 4 (.bin .eql (.t 3) (.c (.str [42])))]
def f589x2 : List AOper := [
  Mc 2 (.int .i64 (-1))]
def f589x3 : List AOper := [
  Mv 5 0,
  Ct 6 629 [5],
  Mv 2 6]
def f589 : AFunc := ⟨7, 1, false, [.t 2], (.seq (.region f589x0 false) (.seq (.seq (.region f589x1 false) (.cond (.t 4) (.seq (.region f589x2 false) .ret) .skip)) (.seq (.region f589x3 false) .ret)))⟩
def f590x0 : List AOper := [
  Mv 2 0,
  Bc 3 .neq 2 0]
def f590x1 : List AOper := [
  Mv 4 0,
  Op 5 (.build [.int .i64 0] [(0, 1)] [(.t 4)]),
  Op 6 (.mkifc 175 (.t 5)),
  ⟨none, .panic (.t 6), none, []⟩]
def f590 : AFunc := ⟨7, 1, false, [], (.seq (.region f590x0 false) (.cond (.t 3) (.region f590x1 false) .skip))⟩
def f591x0 : List AOper := [
  Mc 2 (.con (.pointer none))]
def f591x1 : List AOper := [
  Mv 3 0,
  Nc 4 3,
  Fa 5 0 4,
  Fa 6 3 5,
  Ld 7 6,
  Mv 8 0,
  Nc 9 8,
  Fa 10 0 9,
  Fa 11 3 10,
  Ld 12 11,
  Af [9] (Ln 13 0 12),
  Bc 14 .sub 13 1,
  Af [4, 10, 9] (Ia 15 3 7 14),
  Mv 2 15]
def f591 : AFunc := ⟨16, 1, false, [.t 2], (.seq (.region f591x0 false) (.seq (.region f591x1 true) .ret))⟩
def f592x0 : List AOper := [
  Mc 2 (.str []),
  Mc 3 (.str [])]
def f592x1 : List AOper := [
  Mv 5 0,
  Ln 6 1 5,
  Mc 7 (.int .i64 0)]
def f592x2 : List AOper := [
  Bi 8 .lss 7 6]
def f592x3 : List AOper := [
  Mv 9 7,
  Mv 4 9]
def f592x4 : List AOper := [
  Mv 10 0,
  Mv 11 4,
  Op 12 (.istr (.t 10) (.t 11)),
  Op 13 (.bin .eql (.t 12) (.c (.int .u8 32)))]
def f592x5 : List AOper := [
  Mv 14 0,
  Mv 15 4,
  Op 16 (.slstr (.t 14) none (some (.t 15))),
  Mv 17 0,
  Mv 18 4,
  Bc 19 .add 18 1,
  Op 20 (.slstr (.t 17) (some (.t 19)) none),
  Mv 2 16,
  Mv 3 20]
def f592x6 : List AOper := [
  Bc 21 .add 7 1,
  Mv 7 21]
def f592x7L : ACode := (.seq (.region f592x2 false) (.seq (.cond (.t 8) .skip (.exit 0)) (.seq (.block 1 (.seq (.region f592x3 false) (.seq (.region f592x4 false) (.cond (.t 13) (.seq (.region f592x5 true) .ret) .skip)))) (.region f592x6 false))))
def f592x8 : List AOper := [
  Mv 22 0,
  Mv 2 22,
  Mc 3 (.str [])]
def f592 : AFunc := ⟨23, 1, false, [.t 2, .t 3], (.seq (.region f592x0 false) (.seq (.seq (.region f592x1 false) (.block 0 (.loop f592x7L))) (.seq (.region f592x8 false) .ret)))⟩
def f593x0 : List AOper := [
  Op 2 (.alloc (.agg [.int .i64 0, .str [], .int .i64 0, .int .u32 0, .int .i64 0, .bool false]))]
def f593x1 : List AOper := [
  Mv 9 0,
  Ct 10 592 [9],
  Mv 8 10,
  Ex 11 8 0,
  Ex 12 8 1,
  Mv 3 11,
  Mv 4 12]
def f593x2 : List AOper := [
  Op 13 (.build [.int .i64 0, .str [], .int .i64 0, .int .u32 0, .int .i64 0, .bool false] [] []),
  Op 5 (.alloc (.agg [.int .i64 0, .str [], .int .i64 0, .int .u32 0, .int .i64 0, .bool false])),
  St 6 5 13]
def f593x3 : List AOper := [
  Mv 14 3,
  Op 15 (.bin .eql (.t 14) (.c (.str [110, 111, 116])))]
def f593x4 : List AOper := [
  Fa 16 5 5,
  ⟨none, .store 1 (.t 16) (.c (.bool true)), none, []⟩]
def f593x5 : List AOper := [
  Mv 18 4,
  Ct 19 592 [18],
  Mv 17 19,
  Ex 20 17 0,
  Ex 21 17 1,
  Mv 3 20,
  Mv 4 21]
def f593x6 : List AOper := [
  Mv 22 4,
  Ct 23 597 [22]]
def f593x7 : List AOper := [
  Mv 24 3]
def f593x8 : List AOper := [
  Op 40 (.bin .eql (.t 24) (.c (.str [112, 114, 101, 102, 105, 120, 45, 108, 105, 115, 116]))),
  Mv 39 40]
def f593x9 : List AOper := [
  Mv 41 4,
  Fa 42 0 5,
  ⟨none, .store 1 (.t 42) (.c (.int .i64 1)), none, []⟩,
  Fa 43 1 5,
  St 1 43 41]
def f593x10 : List AOper := [
  Op 45 (.bin .eql (.t 24) (.c (.str [112, 97, 116, 104, 45, 108, 105, 115, 116]))),
  Mv 44 45]
def f593x11 : List AOper := [
  Mv 46 4,
  Fa 47 0 5,
  ⟨none, .store 1 (.t 47) (.c (.int .i64 2)), none, []⟩,
  Fa 48 1 5,
  St 1 48 46]
def f593x12 : List AOper := [
  Op 50 (.bin .eql (.t 24) (.c (.str [99, 111, 109, 109, 117, 110, 105, 116, 121, 45, 108, 105, 115, 116]))),
  Mv 49 50]
def f593x13 : List AOper := [
  Mv 51 4,
  Fa 52 0 5,
  ⟨none, .store 1 (.t 52) (.c (.int .i64 3)), none, []⟩,
  Fa 53 1 5,
  St 1 53 51]
def f593x14 : List AOper := [
  Op 55 (.bin .eql (.t 24) (.c (.str [112, 114, 111, 116, 111, 99, 111, 108]))),
  Mv 54 55]
def f593x15 : List AOper := [
  Mv 56 4,
  Ct 57 629 [56],
  Fa 58 0 5,
  ⟨none, .store 1 (.t 58) (.c (.int .i64 4)), none, []⟩,
  Fa 59 2 5,
  St 1 59 57]
def f593x16 : List AOper := [
  Op 61 (.bin .eql (.t 24) (.c (.str [116, 97, 103]))),
  Mv 60 61]
def f593x17 : List AOper := [
  Mv 62 4,
  Ct 63 629 [62],
  Fa 64 0 5,
  ⟨none, .store 1 (.t 64) (.c (.int .i64 5)), none, []⟩,
  Fa 65 2 5,
  St 1 65 63]
def f593x18 : List AOper := [
  Op 67 (.bin .eql (.t 24) (.c (.str [109, 101, 116, 114, 105, 99]))),
  Mv 66 67]
def f593x19 : List AOper := [
  Mv 68 4,
  Ct 69 629 [68],
  Fa 70 0 5,
  ⟨none, .store 1 (.t 70) (.c (.int .i64 6)), none, []⟩,
  Fa 71 2 5,
  St 1 71 69]
def f593x20 : List AOper := [
  Op 73 (.bin .eql (.t 24) (.c (.str [112, 97, 116, 104, 45, 108, 101, 110, 103, 116, 104]))),
  Mv 72 73]
def f593x21 : List AOper := [
  Mv 74 4,
  Ct 75 629 [74],
  Fa 76 0 5,
  ⟨none, .store 1 (.t 76) (.c (.int .i64 8)), none, []⟩,
  Fa 77 2 5,
  St 1 77 75]
def f593x22 : List AOper := [
  Mv 25 3,
  Op 26 (.bin .eql (.t 25) (.c (.str [110, 101, 120, 116, 45, 104, 111, 112]))),
  Ct 27 586 [26]]
def f593x23 : List AOper := [
  Mv 29 4,
  Ct 30 233 [29],
  Mv 28 30,
  Ex 31 28 0,
  Ex 32 28 1,
  Op 6 (.alloc (.agg [.int .u32 0, .int .i64 0])),
  St 2 6 31,
  Mv 7 32]
def f593x24 : List AOper := [
  Mv 33 7,
  Bc 34 .eql 33 0,
  Ct 35 586 [34]]
def f593x25 : List AOper := [
  Ls 36 2 6,
  Fa 37 0 5,
  ⟨none, .store 1 (.t 37) (.c (.int .i64 7)), none, []⟩,
  Fa 38 3 5,
  Af [0, 2] (St 2 38 36)]
def f593x26 : List AOper := [
  Ls 78 6 5,
  St 6 2 78]
def f593 : AFunc := ⟨79, 1, false, [.cell 2 (some 6)], (.seq (.region f593x0 false) (.seq (.region f593x1 false) (.seq (.region f593x2 false) (.seq (.seq (.region f593x3 false) (.cond (.t 15) (.seq (.region f593x4 false) (.region f593x5 false)) .skip)) (.seq (.region f593x6 false) (.seq (.seq (.region f593x7 false) (.block 0 (.seq (.region f593x8 false) (.cond (.t 39) (.region f593x9 false) (.seq (.region f593x10 false) (.cond (.t 44) (.region f593x11 false) (.seq (.region f593x12 false) (.cond (.t 49) (.region f593x13 false) (.seq (.region f593x14 false) (.cond (.t 54) (.region f593x15 false) (.seq (.region f593x16 false) (.cond (.t 60) (.region f593x17 false) (.seq (.region f593x18 false) (.cond (.t 66) (.region f593x19 false) (.seq (.region f593x20 false) (.cond (.t 72) (.region f593x21 false) (.seq (.region f593x22 false) (.seq (.region f593x23 false) (.seq (.region f593x24 false) (.region f593x25 true)))))))))))))))))))) (.seq (.region f593x26 false) .ret)))))))⟩
def f594x0 : List AOper := [
  Op 2 (.box (.t 0)),
  Op 3 (.box (.t 1)),
  Mc 4 (.int .i64 0)]
def f594x1 : List AOper := [
  Fa 8 0 3,
  Ld 9 8,
  Fa 10 5 3,
  Ld 11 10,
  Op 12 (.build [.int .i64 0, .str [], .int .i64 0, .int .u32 0, .int .i64 0, .bool false] [(0, 1), (5, 1)] [(.t 9), (.t 11)]),
  Op 5 (.alloc (.agg [.int .i64 0, .str [], .int .i64 0, .int .u32 0, .int .i64 0, .bool false])),
  St 6 5 12]
def f594x2 : List AOper := [
  Mc 6 (.int .i64 0),
  Mc 7 (.int .i64 4294967295)]
def f594x3 : List AOper := [
  Fa 13 0 3,
  Ld 14 13]
def f594x4 : List AOper := [
  Bc 16 .eql 14 1,
  Mv 15 16]
def f594x5 : List AOper := [
  Bc 17 .eql 14 2,
  Mv 15 17]
def f594x6 : List AOper := [
  Bc 18 .eql 14 3,
  Mv 15 18]
def f594x7 : List AOper := [
  Fa 19 1 3,
  Ld 20 19,
  Fa 21 1 5,
  St 1 21 20]
def f594x8 : List AOper := [
  Ls 22 6 3,
  Ls 23 6 5,
  Op 24 (.eqs [.int, .str, .int, .int, .int, .bool] true (.t 22) (.t 23))]
def f594x9 : List AOper := [
  Mc 4 (.int .i64 1)]
def f594x10 : List AOper := [
  Fa 25 0 3,
  Ld 26 25,
  Bc 27 .sub 26 1,
  Op 28 (.iarr 4 1 (.t 2) (.t 27)),
  Af [1] (Ld 29 28),
  Fa 30 1 3,
  Ld 31 30,
  Af [4, 6, 1] (Ct 32 630 [29, 31]),
  Un 33 .not 32]
def f594x11 : List AOper := [
  Mc 4 (.int .i64 6)]
def f594x12 : List AOper := [
  Mc 4 (.int .i64 0)]
def f594x13 : List AOper := [
  Bc 35 .eql 14 7,
  Mv 34 35]
def f594x14 : List AOper := [
  Fa 36 3 3,
  Ls 37 2 36,
  Fa 38 3 5,
  St 2 38 37]
def f594x15 : List AOper := [
  Ls 39 6 3,
  Ls 40 6 5,
  Op 41 (.eqs [.int, .str, .int, .int, .int, .bool] true (.t 39) (.t 40)),
  Mv 42 41,
  Gf 42 (Fa 43 3 3),
  Gf 42 (Ls 44 2 43),
  Gf 42 (Ct 45 178 [44]),
  Gf 42 (Un 46 .not 45),
  Po 47 42 46]
def f594x16 : List AOper := [
  Mc 4 (.int .i64 1)]
def f594x17 : List AOper := [
  Mc 4 (.int .i64 0)]
def f594x18 : List AOper := [
  Bc 49 .eql 14 4,
  Mv 48 49]
def f594x19 : List AOper := [
  Mc 6 (.int .i64 1),
  Mc 7 (.int .i64 7)]
def f594x20 : List AOper := [
  Bc 51 .eql 14 6,
  Mv 50 51]
def f594x21 : List AOper := [
  Mc 7 (.int .i64 16777216)]
def f594x22 : List AOper := [
  Bc 53 .eql 14 8,
  Mv 52 53]
def f594x23 : List AOper := [
  Mc 7 (.int .i64 2000)]
def f594x24 : List AOper := [
  Bc 55 .eql 14 5,
  Mv 54 55]
def f594x25 : List AOper := [
  Mc 4 (.int .i64 15)]
def f594x26 : List AOper := [
  Fa 56 2 3,
  Ld 57 56,
  Fa 58 2 5,
  St 1 58 57]
def f594x27 : List AOper := [
  Ls 59 6 3,
  Ls 60 6 5,
  Op 61 (.eqs [.int, .str, .int, .int, .int, .bool] true (.t 59) (.t 60))]
def f594x28 : List AOper := [
  Mc 4 (.int .i64 1)]
def f594x29 : List AOper := [
  Fa 62 2 3,
  Ld 63 62,
  Mv 64 6,
  Mv 65 7,
  Ct 66 581 [63, 64, 65],
  Un 67 .not 66]
def f594x30 : List AOper := [
  Mc 4 (.int .i64 5)]
def f594x31 : List AOper := [
  Mc 4 (.int .i64 0)]
def f594 : AFunc := ⟨68, 2, false, [.t 4], (.seq (.region f594x0 false) (.seq (.region f594x1 false) (.seq (.region f594x2 false) (.seq (.seq (.region f594x3 false) (.block 0 (.seq (.seq (.region f594x4 false) (.cond (.t 15) .skip (.seq (.region f594x5 false) (.cond (.t 15) .skip (.region f594x6 false))))) (.cond (.t 15) (.seq (.region f594x7 false) (.seq (.seq (.region f594x8 false) (.cond (.t 24) (.seq (.region f594x9 false) .ret) .skip)) (.seq (.seq (.region f594x10 true) (.cond (.t 33) (.seq (.region f594x11 false) .ret) .skip)) (.seq (.region f594x12 false) .ret)))) (.seq (.region f594x13 false) (.cond (.t 34) (.seq (.region f594x14 false) (.seq (.seq (.region f594x15 false) (.cond (.t 47) (.seq (.region f594x16 false) .ret) .skip)) (.seq (.region f594x17 false) .ret))) (.seq (.region f594x18 false) (.cond (.t 48) (.region f594x19 false) (.seq (.region f594x20 false) (.cond (.t 50) (.region f594x21 false) (.seq (.region f594x22 false) (.cond (.t 52) (.region f594x23 false) (.seq (.region f594x24 false) (.cond (.t 54) .skip (.seq (.region f594x25 false) .ret))))))))))))))) (.seq (.region f594x26 false) (.seq (.seq (.region f594x27 false) (.cond (.t 61) (.seq (.region f594x28 false) .ret) .skip)) (.seq (.seq (.region f594x29 false) (.cond (.t 67) (.seq (.region f594x30 false) .ret) .skip)) (.seq (.region f594x31 false) .ret))))))))⟩
def f595x0 : List AOper := [
  Op 2 (.alloc (.agg [.int .i64 0, .int .i64 0, .int .i64 0, .int .u32 0, .int .u32 0]))]
def f595x1 : List AOper := [
  Mv 12 0,
  Ct 13 592 [12],
  Mv 11 13,
  Ex 14 11 0,
  Ex 15 11 1,
  Mv 3 14,
  Mv 4 15]
def f595x2 : List AOper := [
  Mv 16 3]
def f595x3 : List AOper := [
  Op 18 (.bin .eql (.t 16) (.c (.str [112, 114, 101, 102]))),
  Mv 17 18]
def f595x4 : List AOper := [
  Mv 19 4,
  Ct 20 629 [19],
  Op 21 (.build [.int .i64 0, .int .i64 0, .int .i64 0, .int .u32 0, .int .u32 0] [(0, 1), (1, 1)] [(.c (.int .i64 1)), (.t 20)]),
  St 5 2 21]
def f595x5 : List AOper := [
  Op 23 (.bin .eql (.t 16) (.c (.str [109, 101, 100]))),
  Mv 22 23]
def f595x6 : List AOper := [
  Mv 24 4,
  Ct 25 629 [24],
  Op 26 (.build [.int .i64 0, .int .i64 0, .int .i64 0, .int .u32 0, .int .u32 0] [(0, 1), (1, 1)] [(.c (.int .i64 2)), (.t 25)]),
  St 5 2 26]
def f595x7 : List AOper := [
  Op 28 (.bin .eql (.t 16) (.c (.str [109, 101, 116, 114, 105, 99]))),
  Mv 27 28]
def f595x8 : List AOper := [
  Mv 29 4,
  Ct 30 629 [29],
  Op 31 (.build [.int .i64 0, .int .i64 0, .int .i64 0, .int .u32 0, .int .u32 0] [(0, 1), (1, 1)] [(.c (.int .i64 3)), (.t 30)]),
  St 5 2 31]
def f595x9 : List AOper := [
  Op 33 (.bin .eql (.t 16) (.c (.str [116, 97, 103]))),
  Mv 32 33]
def f595x10 : List AOper := [
  Mv 34 4,
  Ct 35 629 [34],
  Op 36 (.build [.int .i64 0, .int .i64 0, .int .i64 0, .int .u32 0, .int .u32 0] [(0, 1), (1, 1)] [(.c (.int .i64 4)), (.t 35)]),
  St 5 2 36]
def f595x11 : List AOper := [
  Op 38 (.bin .eql (.t 16) (.c (.str [110, 101, 120, 116, 45, 104, 111, 112]))),
  Mv 37 38]
def f595x12 : List AOper := [
  Mv 40 4,
  Ct 41 231 [40],
  Mv 39 41,
  Ex 42 39 0,
  Ex 43 39 1,
  Mv 5 42,
  Mv 6 43]
def f595x13 : List AOper := [
  Mv 44 6,
  Bc 45 .eql 44 0,
  Ct 46 586 [45]]
def f595x14 : List AOper := [
  Mv 47 5,
  Op 48 (.build [.int .i64 0, .int .i64 0, .int .i64 0, .int .u32 0, .int .u32 0] [(0, 1), (4, 1)] [(.c (.int .i64 5)), (.t 47)]),
  St 5 2 48]
def f595x15 : List AOper := [
  Op 50 (.bin .eql (.t 16) (.c (.str [97, 100, 100]))),
  Mv 49 50]
def f595x16 : List AOper := [
  Op 51 (.bin .eql (.t 16) (.c (.str [100, 101, 108, 101, 116, 101]))),
  Mv 49 51]
def f595x17 : List AOper := [
  Mv 53 4,
  Ct 54 631 [53],
  Mv 52 54,
  Ex 55 52 0,
  Ex 56 52 1,
  Mv 7 55,
  Mv 8 56]
def f595x18 : List AOper := [
  Mv 57 8,
  Bc 58 .eql 57 0,
  Ct 59 586 [58]]
def f595x19 : List AOper := [
  Mv 60 3,
  Op 61 (.bin .eql (.t 60) (.c (.str [97, 100, 100])))]
def f595x20 : List AOper := [
  Mv 62 7,
  Op 63 (.build [.int .i64 0, .int .i64 0, .int .i64 0, .int .u32 0, .int .u32 0] [(0, 1), (3, 1)] [(.c (.int .i64 6)), (.t 62)]),
  St 5 2 63]
def f595x21 : List AOper := [
  Mv 64 7,
  Op 65 (.build [.int .i64 0, .int .i64 0, .int .i64 0, .int .u32 0, .int .u32 0] [(0, 1), (3, 1)] [(.c (.int .i64 7)), (.t 64)]),
  St 5 2 65]
def f595x22 : List AOper := [
  Mv 66 3,
  Op 67 (.bin .eql (.t 66) (.c (.str [112, 114, 101, 112, 101, 110, 100]))),
  Ct 68 586 [67]]
def f595x23 : List AOper := [
  Mv 70 4,
  Ct 71 592 [70],
  Mv 69 71,
  Ex 72 69 0,
  Ex 73 69 1,
  Mv 9 72,
  Mv 10 73]
def f595x24 : List AOper := [
  Mv 74 9,
  Ct 75 629 [74],
  Mv 76 10,
  Ct 77 629 [76],
  Op 78 (.build [.int .i64 0, .int .i64 0, .int .i64 0, .int .u32 0, .int .u32 0] [(0, 1), (2, 1), (1, 1)] [(.c (.int .i64 8)), (.t 75), (.t 77)]),
  St 5 2 78]
def f595 : AFunc := ⟨79, 1, false, [.cell 2 (some 5)], (.seq (.region f595x0 false) (.seq (.region f595x1 false) (.seq (.seq (.region f595x2 false) (.block 0 (.seq (.region f595x3 false) (.cond (.t 17) (.seq (.region f595x4 false) .ret) (.seq (.region f595x5 false) (.cond (.t 22) (.seq (.region f595x6 false) .ret) (.seq (.region f595x7 false) (.cond (.t 27) (.seq (.region f595x8 false) .ret) (.seq (.region f595x9 false) (.cond (.t 32) (.seq (.region f595x10 false) .ret) (.seq (.region f595x11 false) (.cond (.t 37) (.seq (.region f595x12 false) (.seq (.region f595x13 false) (.seq (.region f595x14 false) .ret))) (.seq (.seq (.region f595x15 false) (.cond (.t 49) .skip (.region f595x16 false))) (.cond (.t 49) (.seq (.region f595x17 false) (.seq (.region f595x18 false) (.seq (.seq (.region f595x19 false) (.cond (.t 61) (.seq (.region f595x20 false) .ret) .skip)) (.seq (.region f595x21 false) .ret)))) .skip)))))))))))))) (.seq (.region f595x22 false) (.seq (.region f595x23 false) (.seq (.region f595x24 false) .ret))))))⟩
def f596x0 : List AOper := [
  Op 1 (.box (.t 0)),
  Mc 2 (.int .i64 0)]
def f596x1 : List AOper := [
  Fa 5 0 1,
  Ld 6 5,
  Op 7 (.build [.int .i64 0, .int .i64 0, .int .i64 0, .int .u32 0, .int .u32 0] [(0, 1)] [(.t 6)]),
  Op 3 (.alloc (.agg [.int .i64 0, .int .i64 0, .int .i64 0, .int .u32 0, .int .u32 0])),
  St 5 3 7]
def f596x2 : List AOper := [
  Mc 4 (.bool true)]
def f596x3 : List AOper := [
  Fa 8 0 1,
  Ld 9 8]
def f596x4 : List AOper := [
  Bc 11 .eql 9 1,
  Mv 10 11]
def f596x5 : List AOper := [
  Bc 12 .eql 9 2,
  Mv 10 12]
def f596x6 : List AOper := [
  Bc 13 .eql 9 4,
  Mv 10 13]
def f596x7 : List AOper := [
  Fa 14 1 1,
  Ld 15 14,
  Fa 16 1 3,
  St 1 16 15]
def f596x8 : List AOper := [
  Fa 17 1 1,
  Ld 18 17,
  Ca 19 581 [(.t 18), (.c (.int .i64 0)), (.c (.int .i64 4294967295))],
  Mv 4 19]
def f596x9 : List AOper := [
  Bc 21 .eql 9 3,
  Mv 20 21]
def f596x10 : List AOper := [
  Fa 22 1 1,
  Ld 23 22,
  Fa 24 1 3,
  St 1 24 23]
def f596x11 : List AOper := [
  Fa 25 1 1,
  Ld 26 25,
  Ca 27 581 [(.t 26), (.c (.int .i64 0)), (.c (.int .i64 16777216))],
  Mv 4 27]
def f596x12 : List AOper := [
  Bc 29 .eql 9 5,
  Mv 28 29]
def f596x13 : List AOper := [
  Fa 30 4 1,
  Ld 31 30,
  Fa 32 4 3,
  St 1 32 31]
def f596x14 : List AOper := [
  Fa 33 4 1,
  Ld 34 33,
  Op 35 (.bin .neq (.t 34) (.c (.int .u32 0))),
  Mv 4 35]
def f596x15 : List AOper := [
  Bc 37 .eql 9 6,
  Mv 36 37]
def f596x16 : List AOper := [
  Bc 38 .eql 9 7,
  Mv 36 38]
def f596x17 : List AOper := [
  Fa 39 3 1,
  Ld 40 39,
  Fa 41 3 3,
  St 1 41 40]
def f596x18 : List AOper := [
  Bc 43 .eql 9 8,
  Mv 42 43]
def f596x19 : List AOper := [
  Fa 44 2 1,
  Ld 45 44,
  Fa 46 1 1,
  Ld 47 46,
  Fa 48 2 3,
  Af [1] (St 1 48 45),
  Fa 49 1 3,
  Af [3, 5, 1] (St 1 49 47)]
def f596x20 : List AOper := [
  Fa 50 2 1,
  Ld 51 50,
  Ca 52 581 [(.t 51), (.c (.int .i64 1)), (.c (.int .i64 4294967295))],
  Mv 53 52,
  Gt 53 (Fa 54 1 1),
  Gt 53 (Ld 55 54),
  Gt 53 (Ca 56 581 [(.t 55), (.c (.int .i64 1)), (.c (.int .i64 16))]),
  Pa 57 53 56,
  Mv 4 57]
def f596x21 : List AOper := [
  Mc 2 (.int .i64 15)]
def f596x22 : List AOper := [
  Ls 58 5 1,
  Ls 59 5 3,
  Op 60 (.eqs [.int, .int, .int, .int, .int] true (.t 58) (.t 59))]
def f596x23 : List AOper := [
  Mc 2 (.int .i64 1)]
def f596x24 : List AOper := [
  Mv 61 4,
  Un 62 .not 61]
def f596x25 : List AOper := [
  Mc 2 (.int .i64 5)]
def f596x26 : List AOper := [
  Mc 2 (.int .i64 0)]
def f596 : AFunc := ⟨63, 1, false, [.t 2], (.seq (.region f596x0 false) (.seq (.region f596x1 false) (.seq (.region f596x2 false) (.seq (.seq (.region f596x3 false) (.block 0 (.seq (.seq (.region f596x4 false) (.cond (.t 10) .skip (.seq (.region f596x5 false) (.cond (.t 10) .skip (.region f596x6 false))))) (.cond (.t 10) (.seq (.region f596x7 false) (.region f596x8 false)) (.seq (.region f596x9 false) (.cond (.t 20) (.seq (.region f596x10 false) (.region f596x11 false)) (.seq (.region f596x12 false) (.cond (.t 28) (.seq (.region f596x13 false) (.region f596x14 false)) (.seq (.seq (.region f596x15 false) (.cond (.t 36) .skip (.region f596x16 false))) (.cond (.t 36) (.region f596x17 false) (.seq (.region f596x18 false) (.cond (.t 42) (.seq (.region f596x19 true) (.region f596x20 false)) (.seq (.region f596x21 false) .ret))))))))))))) (.seq (.seq (.region f596x22 false) (.cond (.t 60) (.seq (.region f596x23 false) .ret) .skip)) (.seq (.seq (.region f596x24 false) (.cond (.t 62) (.seq (.region f596x25 false) .ret) .skip)) (.seq (.region f596x26 false) .ret)))))))⟩
def f597x0 : List AOper := [
  Mc 2 (.str [])]
def f597x1 : List AOper := [
  Mv 6 0,
  Ct 7 339 [6],
  Mv 5 7,
  Ex 8 5 0,
  Ex 9 5 1,
  Mv 3 8,
  Mv 4 9]
def f597x2 : List AOper := [
  Mv 10 4,
  Bc 11 .eql 10 0,
  Mv 12 11,
  Gt 12 (Mv 13 3),
  Gt 12 (Ln 14 0 13),
  Gt 12 (Bc 15 .eql 14 1),
  Pa 16 12 15,
  Ct 17 586 [16]]
def f597x3 : List AOper := [
  Mv 18 0,
  Mv 2 18]
def f597 : AFunc := ⟨19, 1, false, [.t 2], (.seq (.region f597x0 false) (.seq (.region f597x1 false) (.seq (.region f597x2 false) (.seq (.region f597x3 false) .ret))))⟩
def f582x0 : List AOper := [
  Op 3 (.box (.t 0)),
  Op 5 (.box (.t 2)),
  Mc 6 (.int .i64 0)]
def f582x1 : List AOper := [
  Fa 15 0 5,
  Ld 16 15,
  Ct 17 623 [16],
  Un 18 .not 17]
def f582x2 : List AOper := [
  Mc 6 (.int .i64 1)]
def f582x3 : List AOper := [
  Mv 19 1,
  Ln 20 0 19,
  Mc 21 (.int .i64 0)]
def f582x4 : List AOper := [
  Bi 22 .lss 21 20]
def f582x5 : List AOper := [
  Ia 23 4 19 21,
  Ls 24 4 23,
  Op 8 (.alloc (.agg [.str [], .con (.slice none 0 0), .con (.slice none 0 0), .int .i64 0])),
  St 4 8 24]
def f582x6 : List AOper := [
  Fa 25 0 8,
  Ld 26 25,
  Fa 27 0 5,
  Ld 28 27,
  Bi 29 .eql 26 28]
def f582x7 : List AOper := [
  Mc 6 (.int .i64 7)]
def f582x8 : List AOper := [
  Bc 30 .add 21 1,
  Mv 21 30]
def f582x9L : ACode := (.seq (.region f582x4 false) (.seq (.cond (.t 22) .skip (.exit 0)) (.seq (.block 1 (.seq (.region f582x5 false) (.seq (.region f582x6 false) (.cond (.t 29) (.seq (.region f582x7 false) .ret) .skip)))) (.region f582x8 false))))
def f582x10 : List AOper := [
  Fa 31 1 5,
  Ld 32 31,
  Ln 33 0 32,
  Bc 34 .gtr 33 64]
def f582x11 : List AOper := [
  Mc 6 (.int .i64 4)]
def f582x12 : List AOper := [
  Fa 35 1 5,
  Ld 36 35,
  Ln 37 0 36,
  Mc 38 (.int .i64 0)]
def f582x13 : List AOper := [
  Bi 39 .lss 38 37]
def f582x14 : List AOper := [
  Ia 40 6 36 38,
  Ls 41 6 40,
  Op 10 (.alloc (.agg [.int .i64 0, .str [], .int .i64 0, .int .u32 0, .int .i64 0, .bool false])),
  St 6 10 41]
def f582x15 : List AOper := [
  Ls 42 4 3,
  Ls 43 6 10,
  Ct 44 594 [42, 43],
  Mv 11 44]
def f582x16 : List AOper := [
  Mv 45 11,
  Bc 46 .neq 45 0]
def f582x17 : List AOper := [
  Mv 47 11,
  Mv 6 47]
def f582x18 : List AOper := [
  Bc 48 .add 38 1,
  Mv 38 48]
def f582x19L : ACode := (.seq (.region f582x13 false) (.seq (.cond (.t 39) .skip (.exit 2)) (.seq (.block 3 (.seq (.region f582x14 false) (.seq (.region f582x15 false) (.seq (.region f582x16 false) (.cond (.t 46) (.seq (.region f582x17 false) .ret) .skip))))) (.region f582x18 false))))
def f582x20 : List AOper := [
  Fa 49 2 5,
  Ld 50 49,
  Ln 51 0 50,
  Bc 52 .gtr 51 64]
def f582x21 : List AOper := [
  Mc 6 (.int .i64 4)]
def f582x22 : List AOper := [
  Fa 53 2 5,
  Ld 54 53,
  Ln 55 0 54,
  Mc 56 (.int .i64 0)]
def f582x23 : List AOper := [
  Bi 57 .lss 56 55]
def f582x24 : List AOper := [
  Ia 58 5 54 56,
  Ls 59 5 58,
  Op 13 (.alloc (.agg [.int .i64 0, .int .i64 0, .int .i64 0, .int .u32 0, .int .u32 0])),
  St 5 13 59]
def f582x25 : List AOper := [
  Ls 60 5 13,
  Ct 61 596 [60],
  Mv 14 61]
def f582x26 : List AOper := [
  Mv 62 14,
  Bc 63 .neq 62 0]
def f582x27 : List AOper := [
  Mv 64 14,
  Mv 6 64]
def f582x28 : List AOper := [
  Bc 65 .add 56 1,
  Mv 56 65]
def f582x29L : ACode := (.seq (.region f582x23 false) (.seq (.cond (.t 57) .skip (.exit 4)) (.seq (.block 5 (.seq (.region f582x24 false) (.seq (.region f582x25 false) (.seq (.region f582x26 false) (.cond (.t 63) (.seq (.region f582x27 false) .ret) .skip))))) (.region f582x28 false))))
def f582x30 : List AOper := [
  Fa 66 3 5,
  Ld 67 66,
  Ca 68 581 [(.t 67), (.c (.int .i64 1)), (.c (.int .i64 3))],
  Un 69 .not 68]
def f582x31 : List AOper := [
  Mc 6 (.int .i64 15)]
def f582x32 : List AOper := [
  Mc 6 (.int .i64 0)]
def f582 : AFunc := ⟨70, 3, false, [.t 6], (.seq (.region f582x0 false) (.seq (.seq (.region f582x1 false) (.cond (.t 18) (.seq (.region f582x2 false) .ret) .skip)) (.seq (.seq (.region f582x3 false) (.block 0 (.loop f582x9L))) (.seq (.seq (.region f582x10 false) (.cond (.t 34) (.seq (.region f582x11 false) .ret) .skip)) (.seq (.seq (.region f582x12 false) (.block 2 (.loop f582x19L))) (.seq (.seq (.region f582x20 false) (.cond (.t 52) (.seq (.region f582x21 false) .ret) .skip)) (.seq (.seq (.region f582x22 false) (.block 4 (.loop f582x29L))) (.seq (.seq (.region f582x30 false) (.cond (.t 69) (.seq (.region f582x31 false) .ret) .skip)) (.seq (.region f582x32 false) .ret)))))))))⟩
def f181x0 : List AOper := [
  Mc 4 (.int .u32 0)]
def f181x1 : List AOper := [
  Mv 5 0,
  Mv 6 1,
  Ct 7 183 [6],
  Bi 8 .and 5 7,
  Mv 4 8]
def f181 : AFunc := ⟨9, 2, false, [.t 4], (.seq (.region f181x0 false) (.seq (.region f181x1 false) .ret))⟩
def f260x0 : List AOper := [
  Mc 4 (.int .i64 0),
  Mc 5 (.con (.nilIface))]
def f260x1 : List AOper := [
  Mv 6 0,
  Ct 7 268 [6]]
def f260x2 : List AOper := [
  Mv 8 0,
  Mv 9 0,
  Nc 10 9,
  Fa 11 1 10,
  Ld 12 11,
  Mv 13 1,
  Ap 14 1 1 12 13,
  Nc 15 8,
  Fa 16 1 15,
  St 1 16 14]
def f260x3 : List AOper := [
  Mv 17 1,
  Ln 18 1 17,
  Mv 4 18,
  Mc 5 (.con (.nilIface))]
def f260 : AFunc := ⟨19, 2, false, [.t 4, .t 5], (.seq (.region f260x0 false) (.seq (.region f260x1 false) (.seq (.region f260x2 false) (.seq (.region f260x3 false) .ret))))⟩
def f577x0 : List AOper := [
  Mc 4 (.int .i64 0)]
def f577x1 : List AOper := [
  Mv 6 1,
  Ct 7 623 [6],
  Un 8 .not 7,
  Mv 5 8]
def f577x2 : List AOper := [
  Mc 4 (.int .i64 1)]
def f577x3 : List AOper := [
  Mv 10 0,
  Ln 11 0 10,
  Bc 12 .gtr 11 0,
  Mv 13 12,
  Gt 13 (Mv 14 1),
  Gt 13 (Mv 15 0),
  Gt 13 (Mv 16 0),
  Gt 13 (Ln 17 0 16),
  Gt 13 (Bc 18 .sub 17 1),
  Gt 13 (Ia 19 1 15 18),
  Gt 13 (Ld 20 19),
  Gt 13 (Bi 21 .leq 14 20),
  Pa 22 13 21,
  Mv 9 22]
def f577x4 : List AOper := [
  Mc 4 (.int .i64 16)]
def f577x5 : List AOper := [
  Mc 4 (.int .i64 0)]
def f577 : AFunc := ⟨23, 2, false, [.t 4], (.seq (.region f577x0 false) (.seq (.block 0 (.seq (.region f577x1 false) (.cond (.t 5) (.seq (.region f577x2 false) .ret) (.seq (.region f577x3 false) (.cond (.t 9) (.seq (.region f577x4 false) .ret) .skip))))) (.seq (.region f577x5 false) .ret)))⟩
def f579x0 : List AOper := [
  Op 4 (.alloc (.agg [.int .i64 0, .int .i64 0, .int .i64 0, .con (.slice none 0 0)]))]
def f579x1 : List AOper := [
  Mv 6 1,
  Bc 7 .gtr 6 32]
def f579x2 : List AOper := [
  Op 8 (.build [] [] []),
  Op 9 (.mkifc 243 (.t 8)),
  ⟨none, .panic (.t 9), none, []⟩]
def f579x3 : List AOper := [
  Mv 10 0,
  Mv 11 1,
  Ct 12 624 [10, 11],
  Op 13 (.bsl 4 [.int .i64 0, .int .i64 0, .int .i64 0, .con (.slice none 0 0)] 1 [0] [(.t 12)]),
  Mv 5 13]
def f579x4 : List AOper := [
  Mv 14 0,
  Ct 15 625 [14],
  Op 16 (.bin .eql (.t 15) (.c (.int .u8 124)))]
def f579x5 : List AOper := [
  Mv 17 0,
  Nc 18 17,
  Fa 19 1 18,
  Ld 20 19,
  Bc 21 .add 20 1,
  Nc 22 17,
  Fa 23 1 22,
  St 1 23 21]
def f579x6 : List AOper := [
  Mv 24 5,
  Mv 25 0,
  Mv 26 1,
  Ct 27 624 [25, 26],
  Op 28 (.bsl 4 [.int .i64 0, .int .i64 0, .int .i64 0, .con (.slice none 0 0)] 1 [0] [(.t 27)]),
  Ap 29 4 48 24 28,
  Mv 5 29]
def f579x7L : ACode := (.seq (.seq (.region f579x4 false) (.cond (.t 16) .skip (.exit 0))) (.block 1 (.seq (.region f579x5 false) (.region f579x6 false))))
def f579x8 : List AOper := [
  Mv 30 5,
  Ln 31 0 30,
  Bc 32 .eql 31 1]
def f579x9 : List AOper := [
  Mv 33 5,
  Op 34 (.iadr 4 (.t 33) (.c (.int .i64 0))),
  Ls 35 4 34,
  St 4 4 35]
def f579x10 : List AOper := [
  Mv 36 5,
  Op 37 (.build [.int .i64 0, .int .i64 0, .int .i64 0, .con (.slice none 0 0)] [(0, 1), (3, 1)] [(.c (.int .i64 4)), (.t 36)]),
  St 4 4 37]
def f579 : AFunc := ⟨38, 2, false, [.cell 4 (some 4)], (.seq (.region f579x0 false) (.seq (.seq (.region f579x1 false) (.cond (.t 7) (.region f579x2 false) .skip)) (.seq (.region f579x3 false) (.seq (.block 0 (.loop f579x7L)) (.seq (.seq (.region f579x8 false) (.cond (.t 32) (.seq (.region f579x9 false) .ret) .skip)) (.seq (.region f579x10 false) .ret))))))⟩
def f580x0 : List AOper := [
  Op 1 (.box (.t 0)),
  Mc 2 (.str []),
  Mc 3 (.int .i64 0)]
def f580x1 : List AOper := [
  Ls 5 4 1,
  Ct 6 626 [5],
  Mv 4 6]
def f580x2 : List AOper := [
  Mv 7 4,
  Bc 8 .neq 7 0]
def f580x3 : List AOper := [
  Mv 9 4,
  Mc 2 (.str []),
  Mv 3 9]
def f580x4 : List AOper := [
  Ls 10 4 1,
  Ct 11 627 [10],
  Mv 2 11,
  Mc 3 (.int .i64 0)]
def f580 : AFunc := ⟨12, 1, false, [.t 2, .t 3], (.seq (.region f580x0 false) (.seq (.seq (.region f580x1 false) (.seq (.region f580x2 false) (.cond (.t 8) (.seq (.region f580x3 false) .ret) .skip))) (.seq (.region f580x4 false) .ret)))⟩
def f581x0 : List AOper := [
  Mc 6 (.bool false)]
def f581x1 : List AOper := [
  Mv 7 1,
  Mv 8 0,
  Bi 9 .leq 7 8,
  Mv 10 9,
  Gt 10 (Mv 11 0),
  Gt 10 (Mv 12 2),
  Gt 10 (Bi 13 .leq 11 12),
  Pa 14 10 13,
  Mv 6 14]
def f581 : AFunc := ⟨15, 3, false, [.t 6], (.seq (.region f581x0 false) (.seq (.region f581x1 false) .ret))⟩
def f583x0 : List AOper := [
  Mc 2 (.str [])]
def f583x1 : List AOper := [
  Ct 8 628 [],
  Mv 7 8,
  Ex 9 7 0,
  Ex 10 7 1,
  Op 3 (.alloc (.agg [.int .u32 0, .int .u32 0, .int .u32 0, .int .u32 0])),
  Op 4 (.alloc (.agg [.str [], .str [], .str [], .str []])),
  St 4 3 9,
  St 4 4 10]
def f583x2 : List AOper := [
  Ls 11 4 3,
  Mc 12 (.int .i64 0)]
def f583x3 : List AOper := [
  Bc 13 .lss 12 4]
def f583x4 : List AOper := [
  Mv 14 12,
  Op 15 (.ival 4 1 none (.t 11) (.t 12)),
  Mv 5 14,
  Mv 6 15]
def f583x5 : List AOper := [
  Mv 16 0,
  Mv 17 6,
  Bi 18 .eql 16 17]
def f583x6 : List AOper := [
  Mv 19 5,
  Op 20 (.iarr 4 1 (.t 4) (.t 19)),
  Ld 21 20,
  Mv 2 21]
def f583x7 : List AOper := [
  Bc 22 .add 12 1,
  Mv 12 22]
def f583x8L : ACode := (.seq (.region f583x3 false) (.seq (.cond (.t 13) .skip (.exit 0)) (.seq (.block 1 (.seq (.region f583x4 false) (.seq (.region f583x5 false) (.cond (.t 18) (.seq (.region f583x6 false) .ret) .skip)))) (.region f583x7 false))))
def f583x9 : List AOper := [
  Mv 23 0,
  Op 24 (.bin .shr (.t 23) (.c (.int .u64 16))),
  Cv 25 .i64 24,
  Ct 26 337 [25],
  Op 27 (.bin .add (.t 26) (.c (.str [58]))),
  Mv 28 0,
  Op 29 (.bin .and (.t 28) (.c (.int .u32 65535))),
  Cv 30 .i64 29,
  Ct 31 337 [30],
  Bi 32 .add 27 31,
  Mv 2 32]
def f583 : AFunc := ⟨33, 1, false, [.t 2], (.seq (.region f583x0 false) (.seq (.region f583x1 false) (.seq (.seq (.region f583x2 false) (.block 0 (.loop f583x8L))) (.seq (.region f583x9 false) .ret))))⟩
def f561x0 : List AOper := [
  Op 1 (.box (.t 0)),
  Mc 2 (.int .i64 0)]
def f561x1 : List AOper := [
  Fa 4 0 1,
  Ld 5 4,
  Ca 6 612 [(.t 5), (.c (.int .i64 1)), (.c (.int .i64 3))],
  Un 7 .not 6,
  Mv 3 7]
def f561x2 : List AOper := [
  Mc 2 (.int .i64 15)]
def f561x3 : List AOper := [
  Fa 9 3 1,
  Ld 10 9,
  Op 11 (.bin .eql (.t 10) (.c (.int .u32 0))),
  Mv 12 11,
  Gf 12 (Fa 13 1 1),
  Gf 12 (Ls 14 2 13),
  Gf 12 (Fa 15 3 1),
  Gf 12 (Ld 16 15),
  Gf 12 (Ct 17 235 [14, 16]),
  Gf 12 (Un 18 .not 17),
  Po 19 12 18,
  Mv 8 19]
def f561x4 : List AOper := [
  Mc 2 (.int .i64 1)]
def f561x5 : List AOper := [
  Fa 21 5 1,
  Ld 22 21,
  Ca 23 612 [(.t 22), (.c (.int .i64 1)), (.c (.int .i64 65535))],
  Un 24 .not 23,
  Mv 25 24,
  Gf 25 (Fa 26 6 1),
  Gf 25 (Ld 27 26),
  Gf 25 (Ca 28 612 [(.t 27), (.c (.int .i64 0)), (.c (.int .i64 255))]),
  Gf 25 (Un 29 .not 28),
  Po 30 25 29,
  Mv 31 30,
  Gf 31 (Fa 32 7 1),
  Gf 31 (Ld 33 32),
  Gf 31 (Ca 34 612 [(.t 33), (.c (.int .i64 1)), (.c (.int .i64 65535))]),
  Gf 31 (Un 35 .not 34),
  Po 36 31 35,
  Mv 37 36,
  Gf 37 (Fa 38 8 1),
  Gf 37 (Ld 39 38),
  Gf 37 (Fa 40 7 1),
  Gf 37 (Ld 41 40),
  Gf 37 (Ca 42 612 [(.t 39), (.t 41), (.c (.int .i64 65535))]),
  Gf 37 (Un 43 .not 42),
  Po 44 37 43,
  Mv 20 44]
def f561x6 : List AOper := [
  Mc 2 (.int .i64 5)]
def f561x7 : List AOper := [
  Mc 2 (.int .i64 0)]
def f561 : AFunc := ⟨45, 1, false, [.t 2], (.seq (.region f561x0 false) (.seq (.block 0 (.seq (.region f561x1 false) (.cond (.t 3) (.seq (.region f561x2 false) .ret) (.seq (.region f561x3 false) (.cond (.t 8) (.seq (.region f561x4 false) .ret) (.seq (.region f561x5 false) (.cond (.t 20) (.seq (.region f561x6 false) .ret) .skip))))))) (.seq (.region f561x7 false) .ret)))⟩
def f241x0 : List AOper := [
  Op 2 (.box (.t 0)),
  Op 3 (.box (.t 1)),
  Mc 4 (.bool false)]
def f241x1 : List AOper := [
  Ls 5 2 2,
  Ls 6 2 3,
  Ct 7 237 [5, 6],
  Mv 8 7,
  Gf 8 (Ls 9 2 3),
  Gf 8 (Ls 10 2 2),
  Gf 8 (Ct 11 237 [9, 10]),
  Po 12 8 11,
  Mv 4 12]
def f241 : AFunc := ⟨13, 2, false, [.t 4], (.seq (.region f241x0 false) (.seq (.region f241x1 false) .ret))⟩
def f56x0 : List AOper := [
  Mc 2 (.bool false)]
def f56x1 : List AOper := [
  Mv 3 0,
  Mv 4 0,
  Bi 5 .neq 3 4,
  Mv 2 5]
def f56 : AFunc := ⟨6, 1, false, [.t 2], (.seq (.region f56x0 false) (.seq (.region f56x1 false) .ret))⟩
def f562x0 : List AOper := [
  Mc 6 (.bool false)]
def f562x1 : List AOper := [
  Mv 7 0,
  Mv 8 1,
  Bi 9 .lss 7 8,
  Mv 10 9,
  Gf 10 (Mv 11 0),
  Gf 10 (Mv 12 2),
  Gf 10 (Bi 13 .gtr 11 12),
  Po 14 10 13,
  Mv 6 14]
def f562 : AFunc := ⟨15, 3, false, [.t 6], (.seq (.region f562x0 false) (.seq (.region f562x1 false) .ret))⟩
def f563x0 : List AOper := [
  Mc 2 (.int .i64 0)]
def f563x1 : List AOper := [
  Mv 5 0,
  Ln 6 0 5,
  Mc 7 (.int .i64 0)]
def f563x2 : List AOper := [
  Bi 8 .lss 7 6]
def f563x3 : List AOper := [
  Mv 9 7,
  Ia 10 2 5 7,
  Ls 11 2 10,
  Op 4 (.alloc (.agg [.int .u32 0, .int .i64 0])),
  Mv 3 9,
  St 2 4 11]
def f563x4 : List AOper := [
  Ls 12 2 4,
  Ct 13 178 [12],
  Un 14 .not 13]
def f563x5 : List AOper := [
  Mc 2 (.int .i64 1)]
def f563x6 : List AOper := [
  Mv 15 3,
  Bc 16 .gtr 15 0,
  Mv 17 16,
  Gt 17 (Mv 18 0),
  Gt 17 (Mv 19 3),
  Gt 17 (Bc 20 .sub 19 1),
  Gt 17 (Ia 21 2 18 20),
  Af [6] (Gt 17 (Ls 22 2 21)),
  Gt 17 (Ls 23 2 4),
  Af [7, 8, 6] (Gt 17 (Ct 24 172 [22, 23])),
  Gt 17 (Bc 25 .geq 24 0),
  Pa 26 17 25]
def f563x7 : List AOper := [
  Mc 2 (.int .i64 16)]
def f563x8 : List AOper := [
  Bc 27 .add 7 1,
  Mv 7 27]
def f563x9L : ACode := (.seq (.region f563x2 false) (.seq (.cond (.t 8) .skip (.exit 0)) (.seq (.block 1 (.seq (.region f563x3 false) (.seq (.seq (.region f563x4 false) (.cond (.t 14) (.seq (.region f563x5 false) .ret) .skip)) (.seq (.region f563x6 true) (.cond (.t 26) (.seq (.region f563x7 false) .ret) .skip))))) (.region f563x8 false))))
def f563x10 : List AOper := [
  Mc 2 (.int .i64 0)]
def f563 : AFunc := ⟨28, 1, false, [.t 2], (.seq (.region f563x0 false) (.seq (.seq (.region f563x1 false) (.block 0 (.loop f563x9L))) (.seq (.region f563x10 false) .ret)))⟩
def f564x0 : List AOper := [
  Op 1 (.box (.t 0)),
  Mc 2 (.int .i64 0)]
def f564x1 : List AOper := [
  Fa 3 0 1,
  Ld 4 3,
  Ca 5 613 [(.t 4), (.c (.int .i64 1)), (.c (.int .i64 86400))],
  Mv 6 5,
  Gf 6 (Fa 7 1 1),
  Gf 6 (Ld 8 7),
  Gf 6 (Ca 9 613 [(.t 8), (.c (.int .i64 1)), (.c (.int .i64 20000))]),
  Po 10 6 9,
  Mv 11 10,
  Gf 11 (Fa 12 2 1),
  Gf 11 (Ld 13 12),
  Gf 11 (Fa 14 1 1),
  Gf 11 (Ld 15 14),
  Gf 11 (Bc 16 .add 15 1),
  Gf 11 (Ca 17 613 [(.t 13), (.t 16), (.c (.int .i64 20000))]),
  Po 18 11 17,
  Mv 19 18,
  Gf 19 (Fa 20 3 1),
  Gf 19 (Ld 21 20),
  Gf 19 (Fa 22 0 1),
  Gf 19 (Ld 23 22),
  Gf 19 (Fa 24 0 1),
  Gf 19 (Ld 25 24),
  Gf 19 (Op 26 (.bin .mul (.c (.int .i64 16)) (.t 25))),
  Gf 19 (Ct 27 613 [21, 23, 26]),
  Po 28 19 27]
def f564x2 : List AOper := [
  Mc 2 (.int .i64 5)]
def f564x3 : List AOper := [
  Mc 2 (.int .i64 0)]
def f564 : AFunc := ⟨29, 1, false, [.t 2], (.seq (.region f564x0 false) (.seq (.seq (.region f564x1 false) (.cond (.t 28) (.seq (.region f564x2 false) .ret) .skip)) (.seq (.region f564x3 false) .ret)))⟩
def f565x0 : List AOper := [
  Op 2 (.box (.t 0)),
  Mc 4 (.int .i64 0)]
def f565x1 : List AOper := [
  Fa 8 4 2,
  Ld 9 8,
  Mv 10 1,
  Ia 11 11 9 10,
  Ls 12 11 11,
  Op 5 (.alloc (.agg [.int .i64 0, .int .i64 0, .int .u32 0, .int .u32 0, .bool false, .int .i64 0, .int .i64 0, .str [], .str [], .bool false, .bool false])),
  St 11 5 12]
def f565x2 : List AOper := [
  Fa 14 0 5,
  Ld 15 14,
  Ca 16 562 [(.t 15), (.c (.int .i64 1)), (.c (.int .i64 3))],
  Mv 13 16]
def f565x3 : List AOper := [
  Mc 4 (.int .i64 15)]
def f565x4 : List AOper := [
  Fa 18 1 5,
  Ld 19 18,
  Ca 20 562 [(.t 19), (.c (.int .i64 1)), (.c (.int .i64 4294967295))],
  Mv 17 20]
def f565x5 : List AOper := [
  Mc 4 (.int .i64 5)]
def f565x6 : List AOper := [
  Ls 22 15 2,
  Ls 23 11 5,
  Ct 24 614 [22, 23],
  Un 25 .not 24,
  Mv 21 25]
def f565x7 : List AOper := [
  Mc 4 (.int .i64 14)]
def f565x8 : List AOper := [
  Fa 27 2 5,
  Ld 28 27,
  Op 29 (.bin .eql (.t 28) (.c (.int .u32 0))),
  Mv 30 29,
  Gf 30 (Fa 31 3 5),
  Gf 30 (Ld 32 31),
  Gf 30 (Op 33 (.bin .eql (.t 32) (.c (.int .u32 0)))),
  Po 34 30 33,
  Mv 26 34]
def f565x9 : List AOper := [
  Mc 4 (.int .i64 1)]
def f565x10 : List AOper := [
  Fa 35 4 2,
  Ld 36 35,
  Mv 37 1,
  Op 38 (.slc 11 (.t 36) none (some (.t 37)) none),
  Ln 39 0 38,
  Mc 40 (.int .i64 0)]
def f565x11 : List AOper := [
  Bi 41 .lss 40 39]
def f565x12 : List AOper := [
  Ia 42 11 38 40,
  Ls 43 11 42,
  Op 7 (.alloc (.agg [.int .i64 0, .int .i64 0, .int .u32 0, .int .u32 0, .bool false, .int .i64 0, .int .i64 0, .str [], .str [], .bool false, .bool false])),
  St 11 7 43]
def f565x13 : List AOper := [
  Fa 44 2 7,
  Ld 45 44,
  Fa 46 2 5,
  Ld 47 46,
  Bi 48 .eql 45 47]
def f565x14 : List AOper := [
  Mc 4 (.int .i64 7)]
def f565x15 : List AOper := [
  Bc 49 .add 40 1,
  Mv 40 49]
def f565x16L : ACode := (.seq (.region f565x11 false) (.seq (.cond (.t 41) .skip (.exit 1)) (.seq (.block 2 (.seq (.region f565x12 false) (.seq (.region f565x13 false) (.cond (.t 48) (.seq (.region f565x14 false) .ret) .skip)))) (.region f565x15 false))))
def f565x17 : List AOper := [
  Fa 51 4 5,
  Ld 52 51,
  Mv 53 52,
  Gt 53 (Fa 54 0 5),
  Gt 53 (Ld 55 54),
  Gt 53 (Bc 56 .neq 55 3),
  Pa 57 53 56,
  Mv 50 57]
def f565x18 : List AOper := [
  Mc 4 (.int .i64 1)]
def f565x19 : List AOper := [
  Fa 59 5 5,
  Ld 60 59,
  Bc 61 .neq 60 0,
  Mv 62 61,
  Gt 62 (Fa 63 5 5),
  Gt 62 (Ld 64 63),
  Gt 62 (Ca 65 562 [(.t 64), (.c (.int .i64 3)), (.c (.int .i64 65535))]),
  Pa 66 62 65,
  Mv 58 66]
def f565x20 : List AOper := [
  Mc 4 (.int .i64 21)]
def f565x21 : List AOper := [
  Fa 68 6 5,
  Ld 69 68,
  Ca 70 562 [(.t 69), (.c (.int .i64 0)), (.c (.int .i64 4095))],
  Mv 67 70]
def f565x22 : List AOper := [
  Mc 4 (.int .i64 5)]
def f565x23 : List AOper := [
  Ls 72 15 2,
  Fa 73 7 5,
  Ld 74 73,
  Ct 75 615 [72, 74],
  Un 76 .not 75,
  Mv 77 76,
  Gf 77 (Ls 78 15 2),
  Gf 77 (Fa 79 8 5),
  Gf 77 (Ld 80 79),
  Gf 77 (Ct 81 615 [78, 80]),
  Gf 77 (Un 82 .not 81),
  Po 83 77 82,
  Mv 71 83]
def f565x24 : List AOper := [
  Mc 4 (.int .i64 6)]
def f565x25 : List AOper := [
  Fa 85 10 5,
  Ld 86 85,
  Mv 87 86,
  Gt 87 (Fa 88 0 5),
  Gt 87 (Ld 89 88),
  Gt 87 (Bc 90 .neq 89 1),
  Gt 87 (Mv 91 90),
  Gf 91 (Fa 92 10 2),
  Gf 91 (Ls 93 4 92),
  Gf 91 (Ct 94 564 [93]),
  Gf 91 (Bc 95 .neq 94 0),
  Gt 87 (Po 96 91 95),
  Pa 97 87 96,
  Mv 84 97]
def f565x26 : List AOper := [
  Mc 4 (.int .i64 1)]
def f565x27 : List AOper := [
  Mc 4 (.int .i64 0)]
def f565 : AFunc := ⟨98, 2, false, [.t 4], (.seq (.region f565x0 false) (.seq (.region f565x1 false) (.seq (.block 0 (.seq (.region f565x2 false) (.cond (.t 13) (.seq (.region f565x3 false) .ret) (.seq (.region f565x4 false) (.cond (.t 17) (.seq (.region f565x5 false) .ret) (.seq (.region f565x6 false) (.cond (.t 21) (.seq (.region f565x7 false) .ret) (.seq (.region f565x8 false) (.cond (.t 26) (.seq (.region f565x9 false) .ret) .skip))))))))) (.seq (.seq (.region f565x10 false) (.block 1 (.loop f565x16L))) (.seq (.block 3 (.seq (.region f565x17 false) (.cond (.t 50) (.seq (.region f565x18 false) .ret) (.seq (.region f565x19 false) (.cond (.t 58) (.seq (.region f565x20 false) .ret) (.seq (.region f565x21 false) (.cond (.t 67) (.seq (.region f565x22 false) .ret) (.seq (.region f565x23 false) (.cond (.t 71) (.seq (.region f565x24 false) .ret) (.seq (.region f565x25 false) (.cond (.t 84) (.seq (.region f565x26 false) .ret) .skip))))))))))) (.seq (.region f565x27 false) .ret))))))⟩
def f566x0 : List AOper := [
  Op 2 (.box (.t 0)),
  Op 4 (.alloc (.agg [.str [], .con (.slice none 0 0), .int .i64 0])),
  Mc 5 (.bool false)]
def f566x1 : List AOper := [
  Fa 11 3 2,
  Ld 12 11,
  Ln 13 0 12,
  Mc 14 (.int .i64 0)]
def f566x2 : List AOper := [
  Bi 15 .lss 14 13]
def f566x3 : List AOper := [
  Ia 16 3 12 14,
  Ls 17 3 16,
  Op 7 (.alloc (.agg [.str [], .con (.slice none 0 0), .int .i64 0])),
  St 3 7 17]
def f566x4 : List AOper := [
  Fa 18 0 7,
  Ld 19 18,
  Mv 20 1,
  Bi 21 .neq 19 20]
def f566x5 : List AOper := [
  Fa 22 0 7,
  Ld 23 22,
  Fa 24 2 7,
  Ld 25 24,
  Op 26 (.build [.str [], .con (.slice none 0 0), .int .i64 0] [(0, 1), (2, 1)] [(.t 23), (.t 25)]),
  Op 8 (.alloc (.agg [.str [], .con (.slice none 0 0), .int .i64 0])),
  St 3 8 26]
def f566x6 : List AOper := [
  Fa 27 1 7,
  Ld 28 27,
  Ln 29 0 28,
  Mc 30 (.int .i64 0)]
def f566x7 : List AOper := [
  Bi 31 .lss 30 29]
def f566x8 : List AOper := [
  Ia 32 4 28 30,
  Ls 33 4 32,
  Op 10 (.alloc (.agg [.str [], .con (.slice none 0 0), .con (.slice none 0 0), .int .i64 0])),
  St 4 10 33]
def f566x9 : List AOper := [
  Fa 34 1 8,
  Ld 35 34,
  Fa 36 0 10,
  Ld 37 36,
  Op 38 (.bsl 6 [.int .i64 0, .str [], .int .i64 0, .int .u32 0, .int .i64 0, .bool false] 0 [] []),
  Fa 39 1 10,
  Ld 40 39,
  Af [4, 6] (Ap 41 6 56 38 40),
  Op 42 (.bsl 5 [.int .i64 0, .int .i64 0, .int .i64 0, .int .u32 0, .int .u32 0] 0 [] []),
  Fa 43 2 10,
  Ld 44 43,
  Af [8, 10, 7, 4, 6] (Ap 45 5 32 42 44),
  Fa 46 3 10,
  Ld 47 46,
  Op 48 (.build [.str [], .con (.slice none 0 0), .con (.slice none 0 0), .int .i64 0] [(0, 1), (1, 1), (2, 1), (3, 1)] [(.t 37), (.t 41), (.t 45), (.t 47)]),
  Af [3, 11, 13, 8, 10, 7, 4, 6] (Op 49 (.bsl 4 [.str [], .con (.slice none 0 0), .con (.slice none 0 0), .int .i64 0] 1 [0] [(.t 48)])),
  Af [1, 15, 3, 11, 13, 8, 10, 7, 4, 6] (Ap 50 4 72 35 49),
  Fa 51 1 8,
  Af [16, 1, 15, 3, 11, 13, 8, 10, 7, 4, 6] (St 1 51 50)]
def f566x10 : List AOper := [
  Bc 52 .add 30 1,
  Mv 30 52]
def f566x11L : ACode := (.seq (.region f566x7 false) (.seq (.cond (.t 31) .skip (.exit 2)) (.seq (.block 3 (.seq (.region f566x8 false) (.region f566x9 true))) (.region f566x10 false))))
def f566x12 : List AOper := [
  Ls 53 3 8,
  St 3 4 53,
  Mc 5 (.bool true)]
def f566x13 : List AOper := [
  Bc 54 .add 14 1,
  Mv 14 54]
def f566x14L : ACode := (.seq (.region f566x2 false) (.seq (.cond (.t 15) .skip (.exit 0)) (.seq (.block 1 (.seq (.region f566x3 false) (.seq (.seq (.region f566x4 false) (.cond (.t 21) (.exit 1) .skip)) (.seq (.region f566x5 false) (.seq (.seq (.region f566x6 false) (.block 2 (.loop f566x11L))) (.seq (.region f566x12 false) .ret)))))) (.region f566x13 false))))
def f566x15 : List AOper := [
  Op 55 (.build [.str [], .con (.slice none 0 0), .int .i64 0] [] []),
  St 3 4 55,
  Mc 5 (.bool false)]
def f566 : AFunc := ⟨56, 2, false, [.cell 4 (some 3), .t 5], (.seq (.region f566x0 false) (.seq (.seq (.region f566x1 false) (.block 0 (.loop f566x14L))) (.seq (.region f566x15 false) .ret)))⟩
def f340x0 : List AOper := [
  Mc 2 (.int .i64 0),
  Mc 3 (.int .i64 0),
  Mc 4 (.bool false)]
def f340x1 : List AOper := [
  Mv 10 0,
  Ln 11 1 10,
  Mc 12 (.int .i64 0)]
def f340x2 : List AOper := [
  Bi 13 .lss 12 11]
def f340x3 : List AOper := [
  Mv 14 12,
  Mv 5 14]
def f340x4 : List AOper := [
  Mv 15 0,
  Mv 16 5,
  Op 17 (.istr (.t 15) (.t 16)),
  Op 18 (.bin .eql (.t 17) (.c (.int .u8 45)))]
def f340x5 : List AOper := [
  Mv 20 0,
  Mv 21 5,
  Op 22 (.slstr (.t 20) none (some (.t 21))),
  Ca 23 346 [(.t 22), (.c (.int .i64 32))],
  Mv 19 23,
  Ex 24 19 0,
  Ex 25 19 1,
  Mv 6 24,
  Mv 7 25]
def f340x6 : List AOper := [
  Mv 27 0,
  Mv 28 5,
  Bc 29 .add 28 1,
  Op 30 (.slstr (.t 27) (some (.t 29)) none),
  Ca 31 346 [(.t 30), (.c (.int .i64 32))],
  Mv 26 31,
  Ex 32 26 0,
  Ex 33 26 1,
  Mv 8 32,
  Mv 9 33]
def f340x7 : List AOper := [
  Mv 34 6,
  Mv 35 8,
  Mv 36 7,
  Bc 37 .eql 36 0,
  Mv 38 37,
  Gt 38 (Mv 39 9),
  Gt 38 (Bc 40 .eql 39 0),
  Pa 41 38 40,
  Mv 2 34,
  Mv 3 35,
  Mv 4 41]
def f340x8 : List AOper := [
  Bc 42 .add 12 1,
  Mv 12 42]
def f340x9L : ACode := (.seq (.region f340x2 false) (.seq (.cond (.t 13) .skip (.exit 0)) (.seq (.block 1 (.seq (.region f340x3 false) (.seq (.region f340x4 false) (.cond (.t 18) (.seq (.region f340x5 false) (.seq (.region f340x6 false) (.seq (.region f340x7 false) .ret))) .skip)))) (.region f340x8 false))))
def f340x10 : List AOper := [
  Mc 2 (.int .i64 0),
  Mc 3 (.int .i64 0),
  Mc 4 (.bool false)]
def f340 : AFunc := ⟨43, 1, false, [.t 2, .t 3, .t 4], (.seq (.region f340x0 false) (.seq (.seq (.region f340x1 false) (.block 0 (.loop f340x9L))) (.seq (.region f340x10 false) .ret)))⟩
def f629x0 : List AOper := [
  Mc 2 (.int .i64 0)]
def f629x1 : List AOper := [
  Mv 6 0,
  Ca 7 346 [(.t 6), (.c (.int .i64 4294967295))],
  Mv 5 7,
  Ex 8 5 0,
  Ex 9 5 1,
  Mv 3 8,
  Mv 4 9]
def f629x2 : List AOper := [
  Mv 10 4,
  Bc 11 .eql 10 0,
  Ct 12 586 [11]]
def f629x3 : List AOper := [
  Mv 13 3,
  Mv 2 13]
def f629 : AFunc := ⟨14, 1, false, [.t 2], (.seq (.region f629x0 false) (.seq (.region f629x1 false) (.seq (.region f629x2 false) (.seq (.region f629x3 false) .ret))))⟩
def f630x0 : List AOper := [
  Mc 4 (.bool false)]
def f630x1 : List AOper := [
  Mv 7 0,
  Ln 8 0 7,
  Mc 9 (.int .i64 0)]
def f630x2 : List AOper := [
  Bi 10 .lss 9 8]
def f630x3 : List AOper := [
  Ia 11 1 7 9,
  Ld 12 11,
  Mv 6 12]
def f630x4 : List AOper := [
  Mv 13 6,
  Mv 14 1,
  Bi 15 .eql 13 14]
def f630x5 : List AOper := [
  Mc 4 (.bool true)]
def f630x6 : List AOper := [
  Bc 16 .add 9 1,
  Mv 9 16]
def f630x7L : ACode := (.seq (.region f630x2 false) (.seq (.cond (.t 10) .skip (.exit 0)) (.seq (.block 1 (.seq (.region f630x3 false) (.seq (.region f630x4 false) (.cond (.t 15) (.seq (.region f630x5 false) .ret) .skip)))) (.region f630x6 false))))
def f630x8 : List AOper := [
  Mc 4 (.bool false)]
def f630 : AFunc := ⟨17, 2, false, [.t 4], (.seq (.region f630x0 false) (.seq (.seq (.region f630x1 false) (.block 0 (.loop f630x7L))) (.seq (.region f630x8 false) .ret)))⟩
def f631x0 : List AOper := [
  Mc 2 (.int .u32 0),
  Mc 3 (.int .i64 0)]
def f631x1 : List AOper := [
  Ct 15 628 [],
  Mv 14 15,
  Ex 16 14 0,
  Ex 17 14 1,
  Op 4 (.alloc (.agg [.int .u32 0, .int .u32 0, .int .u32 0, .int .u32 0])),
  Op 5 (.alloc (.agg [.str [], .str [], .str [], .str []])),
  St 4 4 16,
  St 4 5 17]
def f631x2 : List AOper := [
  Ls 18 4 5,
  Mc 19 (.int .i64 0)]
def f631x3 : List AOper := [
  Bc 20 .lss 19 4]
def f631x4 : List AOper := [
  Mv 21 19,
  Op 22 (.ival 4 1 none (.t 18) (.t 19)),
  Mv 6 21,
  Mv 7 22]
def f631x5 : List AOper := [
  Mv 23 0,
  Mv 24 7,
  Bi 25 .eql 23 24]
def f631x6 : List AOper := [
  Mv 26 6,
  Op 27 (.iarr 4 1 (.t 4) (.t 26)),
  Ld 28 27,
  Mv 2 28,
  Mc 3 (.int .i64 0)]
def f631x7 : List AOper := [
  Bc 29 .add 19 1,
  Mv 19 29]
def f631x8L : ACode := (.seq (.region f631x3 false) (.seq (.cond (.t 20) .skip (.exit 0)) (.seq (.block 1 (.seq (.region f631x4 false) (.seq (.region f631x5 false) (.cond (.t 25) (.seq (.region f631x6 false) .ret) .skip)))) (.region f631x7 false))))
def f631x9 : List AOper := [
  Mv 30 0,
  Ln 31 1 30,
  Mc 32 (.int .i64 0)]
def f631x10 : List AOper := [
  Bi 33 .lss 32 31]
def f631x11 : List AOper := [
  Mv 34 32,
  Mv 8 34]
def f631x12 : List AOper := [
  Mv 35 0,
  Mv 36 8,
  Op 37 (.istr (.t 35) (.t 36)),
  Op 38 (.bin .neq (.t 37) (.c (.int .u8 58)))]
def f631x13 : List AOper := [
  Mv 40 0,
  Mv 41 8,
  Op 42 (.slstr (.t 40) none (some (.t 41))),
  Ca 43 346 [(.t 42), (.c (.int .i64 65535))],
  Mv 39 43,
  Ex 44 39 0,
  Ex 45 39 1,
  Mv 9 44,
  Mv 10 45]
def f631x14 : List AOper := [
  Mv 47 0,
  Mv 48 8,
  Bc 49 .add 48 1,
  Op 50 (.slstr (.t 47) (some (.t 49)) none),
  Ca 51 346 [(.t 50), (.c (.int .i64 65535))],
  Mv 46 51,
  Ex 52 46 0,
  Ex 53 46 1,
  Mv 11 52,
  Mv 12 53]
def f631x15 : List AOper := [
  Mv 54 9,
  Cv 55 .u32 54,
  Op 56 (.bin .shl (.t 55) (.c (.int .u64 16))),
  Mv 57 11,
  Cv 58 .u32 57,
  Bi 59 .or 56 58,
  Mv 13 59]
def f631x16 : List AOper := [
  Mv 60 10,
  Bc 61 .neq 60 0,
  Mv 62 61,
  Gf 62 (Mv 63 12),
  Gf 62 (Bc 64 .neq 63 0),
  Po 65 62 64,
  Mv 66 65,
  Gf 66 (Mv 67 13),
  Gf 66 (Ct 68 583 [67]),
  Gf 66 (Mv 69 0),
  Gf 66 (Bi 70 .neq 68 69),
  Po 71 66 70]
def f631x17 : List AOper := [
  Mc 2 (.int .u32 0),
  Mc 3 (.int .i64 2)]
def f631x18 : List AOper := [
  Mv 72 13,
  Mv 2 72,
  Mc 3 (.int .i64 0)]
def f631x19 : List AOper := [
  Bc 73 .add 32 1,
  Mv 32 73]
def f631x20L : ACode := (.seq (.region f631x10 false) (.seq (.cond (.t 33) .skip (.exit 2)) (.seq (.block 3 (.seq (.region f631x11 false) (.seq (.seq (.region f631x12 false) (.cond (.t 38) (.exit 3) .skip)) (.seq (.region f631x13 false) (.seq (.region f631x14 false) (.seq (.region f631x15 false) (.seq (.seq (.region f631x16 false) (.cond (.t 71) (.seq (.region f631x17 false) .ret) .skip)) (.seq (.region f631x18 false) .ret)))))))) (.region f631x19 false))))
def f631x21 : List AOper := [
  Mc 2 (.int .u32 0),
  Mc 3 (.int .i64 2)]
def f631 : AFunc := ⟨74, 1, false, [.t 2, .t 3], (.seq (.region f631x0 false) (.seq (.region f631x1 false) (.seq (.seq (.region f631x2 false) (.block 0 (.loop f631x8L))) (.seq (.seq (.region f631x9 false) (.block 2 (.loop f631x20L))) (.seq (.region f631x21 false) .ret)))))⟩
def f623x0 : List AOper := [
  Mc 2 (.bool false)]
def f623x1 : List AOper := [
  Mv 5 0,
  Ln 6 1 5,
  Mc 7 (.int .i64 0)]
def f623x2 : List AOper := [
  Bi 8 .lss 7 6]
def f623x3 : List AOper := [
  Mv 9 7,
  Mv 3 9]
def f623x4 : List AOper := [
  Mv 10 0,
  Mv 11 3,
  Op 12 (.istr (.t 10) (.t 11)),
  Mv 4 12]
def f623x5 : List AOper := [
  Mv 13 4,
  Op 14 (.bin .geq (.t 13) (.c (.int .u8 97))),
  Mv 15 14,
  Gt 15 (Mv 16 4),
  Gt 15 (Op 17 (.bin .leq (.t 16) (.c (.int .u8 122)))),
  Pa 18 15 17,
  Mv 19 18,
  Gf 19 (Mv 20 4),
  Gf 19 (Op 21 (.bin .geq (.t 20) (.c (.int .u8 65)))),
  Gf 19 (Mv 22 21),
  Gt 22 (Mv 23 4),
  Gt 22 (Op 24 (.bin .leq (.t 23) (.c (.int .u8 90)))),
  Gf 19 (Pa 25 22 24),
  Po 26 19 25,
  Mv 27 26,
  Gf 27 (Mv 28 4),
  Gf 27 (Op 29 (.bin .geq (.t 28) (.c (.int .u8 48)))),
  Gf 27 (Mv 30 29),
  Gt 30 (Mv 31 4),
  Gt 30 (Op 32 (.bin .leq (.t 31) (.c (.int .u8 57)))),
  Gf 27 (Pa 33 30 32),
  Po 34 27 33,
  Mv 35 34,
  Gf 35 (Mv 36 4),
  Gf 35 (Op 37 (.bin .eql (.t 36) (.c (.int .u8 45)))),
  Po 38 35 37,
  Un 39 .not 38]
def f623x6 : List AOper := [
  Mc 2 (.bool false)]
def f623x7 : List AOper := [
  Bc 40 .add 7 1,
  Mv 7 40]
def f623x8L : ACode := (.seq (.region f623x2 false) (.seq (.cond (.t 8) .skip (.exit 0)) (.seq (.block 1 (.seq (.region f623x3 false) (.seq (.region f623x4 false) (.seq (.region f623x5 false) (.cond (.t 39) (.seq (.region f623x6 false) .ret) .skip))))) (.region f623x7 false))))
def f623x9 : List AOper := [
  Mv 41 0,
  Ln 42 1 41,
  Bc 43 .geq 42 1,
  Mv 44 43,
  Gt 44 (Mv 45 0),
  Gt 44 (Ln 46 1 45),
  Gt 44 (Bc 47 .leq 46 32),
  Pa 48 44 47,
  Mv 2 48]
def f623 : AFunc := ⟨49, 1, false, [.t 2], (.seq (.region f623x0 false) (.seq (.seq (.region f623x1 false) (.block 0 (.loop f623x8L))) (.seq (.region f623x9 false) .ret)))⟩
def f183x0 : List AOper := [
  Mc 2 (.int .u32 0)]
def f183x1 : List AOper := [
  Mv 3 0,
  Ca 4 186 [(.t 3), (.c (.int .i64 32))],
  Op 5 (.bin .sub (.c (.int .i64 32)) (.t 4)),
  Op 6 (.bin .shl (.c (.int .u32 4294967295)) (.t 5)),
  Mv 2 6]
def f183 : AFunc := ⟨7, 1, false, [.t 2], (.seq (.region f183x0 false) (.seq (.region f183x1 false) .ret))⟩
def f624x0 : List AOper := [
  Op 4 (.alloc (.agg [.int .i64 0, .int .i64 0, .int .i64 0, .con (.slice none 0 0)]))]
def f624x1 : List AOper := [
  Mv 6 0,
  Mv 7 1,
  Ct 8 646 [6, 7],
  Op 9 (.bsl 4 [.int .i64 0, .int .i64 0, .int .i64 0, .con (.slice none 0 0)] 1 [0] [(.t 8)]),
  Mv 5 9]
def f624x2 : List AOper := [
  Mv 10 0,
  Ct 11 625 [10],
  Op 12 (.bin .eql (.t 11) (.c (.int .u8 32)))]
def f624x3 : List AOper := [
  Mv 13 0,
  Nc 14 13,
  Fa 15 1 14,
  Ld 16 15,
  Bc 17 .add 16 1,
  Nc 18 13,
  Fa 19 1 18,
  St 1 19 17]
def f624x4 : List AOper := [
  Mv 20 5,
  Mv 21 0,
  Mv 22 1,
  Ct 23 646 [21, 22],
  Op 24 (.bsl 4 [.int .i64 0, .int .i64 0, .int .i64 0, .con (.slice none 0 0)] 1 [0] [(.t 23)]),
  Ap 25 4 48 20 24,
  Mv 5 25]
def f624x5L : ACode := (.seq (.seq (.region f624x2 false) (.cond (.t 12) .skip (.exit 0))) (.block 1 (.seq (.region f624x3 false) (.region f624x4 false))))
def f624x6 : List AOper := [
  Mv 26 5,
  Ln 27 0 26,
  Bc 28 .eql 27 1]
def f624x7 : List AOper := [
  Mv 29 5,
  Op 30 (.iadr 4 (.t 29) (.c (.int .i64 0))),
  Ls 31 4 30,
  St 4 4 31]
def f624x8 : List AOper := [
  Mv 32 5,
  Op 33 (.build [.int .i64 0, .int .i64 0, .int .i64 0, .con (.slice none 0 0)] [(0, 1), (3, 1)] [(.c (.int .i64 3)), (.t 32)]),
  St 4 4 33]
def f624 : AFunc := ⟨34, 2, false, [.cell 4 (some 4)], (.seq (.region f624x0 false) (.seq (.region f624x1 false) (.seq (.block 0 (.loop f624x5L)) (.seq (.seq (.region f624x6 false) (.cond (.t 28) (.seq (.region f624x7 false) .ret) .skip)) (.seq (.region f624x8 false) .ret)))))⟩
def f625x0 : List AOper := [
  Mc 2 (.int .u8 0)]
def f625x1 : List AOper := [
  Mv 3 0,
  Nc 4 3,
  Fa 5 1 4,
  Ld 6 5,
  Mv 7 0,
  Nc 8 7,
  Fa 9 0 8,
  Ld 10 9,
  Af [7] (Ln 11 1 10),
  Bi 12 .lss 6 11]
def f625x2 : List AOper := [
  Mv 13 0,
  Nc 14 13,
  Fa 15 0 14,
  Ld 16 15,
  Mv 17 0,
  Nc 18 17,
  Fa 19 1 18,
  Ld 20 19,
  Op 21 (.istr (.t 16) (.t 20)),
  Mv 2 21]
def f625x3 : List AOper := [
  Mc 2 (.int .u8 0)]
def f625 : AFunc := ⟨22, 1, false, [.t 2], (.seq (.region f625x0 false) (.seq (.seq (.region f625x1 true) (.cond (.t 12) (.seq (.region f625x2 true) .ret) .skip)) (.seq (.region f625x3 false) .ret)))⟩
def f626x0 : List AOper := [
  Op 1 (.box (.t 0)),
  Mc 2 (.int .i64 0)]
def f626x1 : List AOper := [
  Op 3 (.alloc (.int .i64 0)),
  ⟨none, .store 1 (.t 3) (.c (.int .i64 0)), none, []⟩]
def f626x2 : List AOper := [
  Ls 4 4 1,
  Ca 5 647 [(.t 4), (.c (.int .i64 1)), (.t 3)],
  Mv 2 5]
def f626 : AFunc := ⟨6, 1, false, [.t 2], (.seq (.region f626x0 false) (.seq (.region f626x1 false) (.seq (.region f626x2 false) .ret)))⟩
def f627x0 : List AOper := [
  Op 1 (.box (.t 0)),
  Mc 2 (.str [])]
def f627x1 : List AOper := [
  Mc 3 (.str [32])]
def f627x2 : List AOper := [
  Fa 7 0 1,
  Ld 8 7]
def f627x3 : List AOper := [
  Bc 10 .eql 8 0,
  Mv 9 10]
def f627x4 : List AOper := [
  Mc 2 (.str [40, 41])]
def f627x5 : List AOper := [
  Bc 12 .eql 8 2,
  Mv 11 12]
def f627x6 : List AOper := [
  Mc 2 (.str [46])]
def f627x7 : List AOper := [
  Bc 14 .eql 8 1,
  Mv 13 14]
def f627x8 : List AOper := [
  Fa 15 1 1,
  Ld 16 15,
  Fa 17 2 1,
  Ld 18 17,
  Bi 19 .eql 16 18]
def f627x9 : List AOper := [
  Fa 20 1 1,
  Ld 21 20,
  Ct 22 337 [21],
  Mv 2 22]
def f627x10 : List AOper := [
  Fa 23 1 1,
  Ld 24 23,
  Af [1] (Ct 25 337 [24]),
  Op 26 (.bin .add (.c (.str [91])) (.t 25)),
  Op 27 (.bin .add (.t 26) (.c (.str [45]))),
  Fa 28 2 1,
  Ld 29 28,
  Af [6, 2, 1] (Ct 30 337 [29]),
  Bi 31 .add 27 30,
  Op 32 (.bin .add (.t 31) (.c (.str [93]))),
  Mv 2 32]
def f627x11 : List AOper := [
  Bc 34 .eql 8 5,
  Mv 33 34]
def f627x12 : List AOper := [
  Fa 35 0 1,
  Ld 36 35,
  Fa 37 3 1,
  Ld 38 37,
  Af [3] (Op 39 (.iadr 4 (.t 38) (.c (.int .i64 0)))),
  Af [4, 3] (Ls 40 4 39),
  Af [1, 5, 4, 3] (Ct 41 648 [36, 40]),
  Op 42 (.bin .add (.t 41) (.c (.str [42]))),
  Mv 2 42]
def f627x13 : List AOper := [
  Bc 44 .eql 8 6,
  Mv 43 44]
def f627x14 : List AOper := [
  Fa 45 0 1,
  Ld 46 45,
  Fa 47 3 1,
  Ld 48 47,
  Af [3] (Op 49 (.iadr 4 (.t 48) (.c (.int .i64 0)))),
  Af [4, 3] (Ls 50 4 49),
  Af [1, 5, 4, 3] (Ct 51 648 [46, 50]),
  Op 52 (.bin .add (.t 51) (.c (.str [43]))),
  Mv 2 52]
def f627x15 : List AOper := [
  Bc 54 .eql 8 7,
  Mv 53 54]
def f627x16 : List AOper := [
  Fa 55 0 1,
  Ld 56 55,
  Fa 57 3 1,
  Ld 58 57,
  Af [3] (Op 59 (.iadr 4 (.t 58) (.c (.int .i64 0)))),
  Af [4, 3] (Ls 60 4 59),
  Af [1, 5, 4, 3] (Ct 61 648 [56, 60]),
  Op 62 (.bin .add (.t 61) (.c (.str [63]))),
  Mv 2 62]
def f627x17 : List AOper := [
  Bc 64 .eql 8 4,
  Mv 63 64]
def f627x18 : List AOper := [
  Fa 65 3 1,
  Ld 66 65,
  Ln 67 0 66,
  Bc 68 .eql 67 0]
def f627x19 : List AOper := [
  Mc 2 (.str [33])]
def f627x20 : List AOper := [
  Mc 3 (.str [124])]
def f627x21 : List AOper := [
  Mc 4 (.str [])]
def f627x22 : List AOper := [
  Fa 69 3 1,
  Ld 70 69,
  Ln 71 0 70,
  Mc 72 (.int .i64 0)]
def f627x23 : List AOper := [
  Bi 73 .lss 72 71]
def f627x24 : List AOper := [
  Mv 74 72,
  Ia 75 4 70 72,
  Ls 76 4 75,
  Op 6 (.alloc (.agg [.int .i64 0, .int .i64 0, .int .i64 0, .con (.slice none 0 0)])),
  Mv 5 74,
  St 4 6 76]
def f627x25 : List AOper := [
  Mv 77 5,
  Bc 78 .gtr 77 0]
def f627x26 : List AOper := [
  Mv 79 4,
  Mv 80 3,
  Bi 81 .add 79 80,
  Mv 4 81]
def f627x27 : List AOper := [
  Mv 82 4,
  Fa 83 0 1,
  Ld 84 83,
  Ls 85 4 6,
  Ct 86 648 [84, 85],
  Bi 87 .add 82 86,
  Mv 4 87]
def f627x28 : List AOper := [
  Bc 88 .add 72 1,
  Mv 72 88]
def f627x29L : ACode := (.seq (.region f627x23 false) (.seq (.cond (.t 73) .skip (.exit 1)) (.seq (.block 2 (.seq (.region f627x24 false) (.seq (.seq (.region f627x25 false) (.cond (.t 78) (.region f627x26 false) .skip)) (.region f627x27 false)))) (.region f627x28 false))))
def f627x30 : List AOper := [
  Mv 89 4,
  Mv 2 89]
def f627 : AFunc := ⟨90, 1, false, [.t 2], (.seq (.region f627x0 false) (.seq (.region f627x1 false) (.seq (.seq (.region f627x2 false) (.block 0 (.seq (.region f627x3 false) (.cond (.t 9) (.seq (.region f627x4 false) .ret) (.seq (.region f627x5 false) (.cond (.t 11) (.seq (.region f627x6 false) .ret) (.seq (.region f627x7 false) (.cond (.t 13) (.seq (.seq (.region f627x8 false) (.cond (.t 19) (.seq (.region f627x9 false) .ret) .skip)) (.seq (.region f627x10 true) .ret)) (.seq (.region f627x11 false) (.cond (.t 33) (.seq (.region f627x12 true) .ret) (.seq (.region f627x13 false) (.cond (.t 43) (.seq (.region f627x14 true) .ret) (.seq (.region f627x15 false) (.cond (.t 53) (.seq (.region f627x16 true) .ret) (.seq (.region f627x17 false) (.cond (.t 63) (.seq (.seq (.region f627x18 false) (.cond (.t 68) (.seq (.region f627x19 false) .ret) .skip)) (.region f627x20 false)) .skip)))))))))))))))) (.seq (.region f627x21 false) (.seq (.seq (.region f627x22 false) (.block 1 (.loop f627x29L))) (.seq (.region f627x30 false) .ret))))))⟩
def f628x0 : List AOper := [
  Op 0 (.alloc (.agg [.int .u32 0, .int .u32 0, .int .u32 0, .int .u32 0])),
  Op 1 (.alloc (.agg [.str [], .str [], .str [], .str []]))]
def f628x1 : List AOper := [
  Op 2 (.build [.int .u32 0, .int .u32 0, .int .u32 0, .int .u32 0] [(0, 1), (1, 1), (2, 1), (3, 1)] [(.c (.int .u32 4294901760)), (.c (.int .u32 4294967041)), (.c (.int .u32 4294967042)), (.c (.int .u32 4294967043))]),
  Op 3 (.build [.str [], .str [], .str [], .str []] [(0, 1), (1, 1), (2, 1), (3, 1)] [(.c (.str [103, 114, 97, 99, 101, 102, 117, 108, 45, 115, 104, 117, 116, 100, 111, 119, 110])), (.c (.str [110, 111, 45, 101, 120, 112, 111, 114, 116])), (.c (.str [110, 111, 45, 97, 100, 118, 101, 114, 116, 105, 115, 101])), (.c (.str [110, 111, 45, 101, 120, 112, 111, 114, 116, 45, 99, 111, 110, 102, 101, 100]))]),
  St 4 0 2,
  St 4 1 3]
def f628 : AFunc := ⟨4, 0, false, [.cell 0 (some 4), .cell 1 (some 4)], (.seq (.region f628x0 false) (.seq (.region f628x1 false) .ret))⟩
def f286x0 : List AOper := [
  Mc 2 (.str [])]
def f286x1 : List AOper := [
  Mv 3 0,
  Bc 4 .lss 3 10]
def f286x2 : List AOper := [
  Mv 5 0,
  Mv 6 0,
  Bc 7 .add 6 1,
  Op 8 (.slstr (.c (.str [48, 49, 50, 51, 52, 53, 54, 55, 56, 57, 97, 98, 99, 100, 101, 102, 103, 104, 105, 106, 107, 108, 109, 110, 111, 112, 113, 114, 115, 116, 117, 118, 119, 120, 121, 122])) (some (.t 5)) (some (.t 7))),
  Mv 2 8]
def f286x3 : List AOper := [
  Mv 9 0,
  Bc 10 .mul 9 2,
  Mv 11 0,
  Bc 12 .mul 11 2,
  Bc 13 .add 12 2,
  Op 14 (.slstr (.c (.str [48, 48, 48, 49, 48, 50, 48, 51, 48, 52, 48, 53, 48, 54, 48, 55, 48, 56, 48, 57, 49, 48, 49, 49, 49, 50, 49, 51, 49, 52, 49, 53, 49, 54, 49, 55, 49, 56, 49, 57, 50, 48, 50, 49, 50, 50, 50, 51, 50, 52, 50, 53, 50, 54, 50, 55, 50, 56, 50, 57, 51, 48, 51, 49, 51, 50, 51, 51, 51, 52, 51, 53, 51, 54, 51, 55, 51, 56, 51, 57, 52, 48, 52, 49, 52, 50, 52, 51, 52, 52, 52, 53, 52, 54, 52, 55, 52, 56, 52, 57, 53, 48, 53, 49, 53, 50, 53, 51, 53, 52, 53, 53, 53, 54, 53, 55, 53, 56, 53, 57, 54, 48, 54, 49, 54, 50, 54, 51, 54, 52, 54, 53, 54, 54, 54, 55, 54, 56, 54, 57, 55, 48, 55, 49, 55, 50, 55, 51, 55, 52, 55, 53, 55, 54, 55, 55, 55, 56, 55, 57, 56, 48, 56, 49, 56, 50, 56, 51, 56, 52, 56, 53, 56, 54, 56, 55, 56, 56, 56, 57, 57, 48, 57, 49, 57, 50, 57, 51, 57, 52, 57, 53, 57, 54, 57, 55, 57, 56, 57, 57])) (some (.t 10)) (some (.t 13))),
  Mv 2 14]
def f286 : AFunc := ⟨15, 1, false, [.t 2], (.seq (.region f286x0 false) (.seq (.seq (.region f286x1 false) (.cond (.t 4) (.seq (.region f286x2 false) .ret) .skip)) (.seq (.region f286x3 false) .ret)))⟩
def f612x0 : List AOper := [
  Mc 6 (.bool false)]
def f612x1 : List AOper := [
  Mv 7 0,
  Mv 8 1,
  Bi 9 .geq 7 8,
  Mv 10 9,
  Gt 10 (Mv 11 0),
  Gt 10 (Mv 12 2),
  Gt 10 (Bi 13 .leq 11 12),
  Pa 14 10 13,
  Mv 6 14]
def f612 : AFunc := ⟨15, 3, false, [.t 6], (.seq (.region f612x0 false) (.seq (.region f612x1 false) .ret))⟩
def f235x0 : List AOper := [
  Op 2 (.box (.t 0)),
  Mc 4 (.bool false)]
def f235x1 : List AOper := [
  Ls 5 2 2,
  Af [0] (Ct 6 178 [5]),
  Mv 7 6,
  Gt 7 (Mv 8 1),
  Gt 7 (Fa 9 1 2),
  Af [1, 0] (Gt 7 (Ld 10 9)),
  Af [5, 1, 0] (Gt 7 (Ct 11 245 [8, 10])),
  Af [1, 0] (Gt 7 (Ls 12 2 2)),
  Gt 7 (Op 13 (.eqs [.int, .int] false (.t 11) (.t 12))),
  Pa 14 7 13,
  Mv 4 14]
def f235 : AFunc := ⟨15, 2, false, [.t 4], (.seq (.region f235x0 false) (.seq (.region f235x1 true) .ret))⟩
def f237x0 : List AOper := [
  Op 2 (.box (.t 0)),
  Op 3 (.box (.t 1)),
  Mc 4 (.bool false)]
def f237x1 : List AOper := [
  Ls 5 2 3,
  Ct 6 178 [5],
  Mv 7 6,
  Gt 7 (Fa 8 1 2),
  Gt 7 (Ld 9 8),
  Gt 7 (Fa 10 1 3),
  Gt 7 (Ld 11 10),
  Gt 7 (Bi 12 .leq 9 11),
  Pa 13 7 12,
  Mv 14 13,
  Gt 14 (Ls 15 2 2),
  Gt 14 (Fa 16 0 3),
  Gt 14 (Ld 17 16),
  Gt 14 (Ct 18 235 [15, 17]),
  Pa 19 14 18,
  Mv 4 19]
def f237 : AFunc := ⟨20, 2, false, [.t 4], (.seq (.region f237x0 false) (.seq (.region f237x1 false) .ret))⟩
def f613x0 : List AOper := [
  Mc 6 (.bool false)]
def f613x1 : List AOper := [
  Mv 7 0,
  Mv 8 1,
  Bi 9 .lss 7 8,
  Mv 10 9,
  Gf 10 (Mv 11 0),
  Gf 10 (Mv 12 2),
  Gf 10 (Bi 13 .gtr 11 12),
  Po 14 10 13,
  Mv 6 14]
def f613 : AFunc := ⟨15, 3, false, [.t 6], (.seq (.region f613x0 false) (.seq (.region f613x1 false) .ret))⟩
def f614x0 : List AOper := [
  Op 2 (.box (.t 0)),
  Op 3 (.box (.t 1)),
  Mc 4 (.bool false)]
def f614x1 : List AOper := [
  Fa 5 0 3,
  Ld 6 5,
  Bc 7 .eql 6 2,
  Mv 8 7,
  Gt 8 (Fa 9 1 2),
  Gt 8 (Ld 10 9),
  Gt 8 (Bc 11 .eql 10 0),
  Pa 12 8 11]
def f614x2 : List AOper := [
  Mc 4 (.bool false)]
def f614x3 : List AOper := [
  Fa 13 1 3,
  Ld 14 13,
  Fa 15 0 2,
  Ld 16 15,
  Bi 17 .eql 14 16,
  Fa 18 0 3,
  Ld 19 18,
  Bc 20 .eql 19 3,
  Op 21 (.eqb false (.t 17) (.t 20)),
  Mv 22 21,
  Gt 22 (Fa 23 1 3),
  Gt 22 (Ld 24 23),
  Gt 22 (Fa 25 1 2),
  Gt 22 (Ld 26 25),
  Gt 22 (Bi 27 .neq 24 26),
  Pa 28 22 27,
  Mv 4 28]
def f614 : AFunc := ⟨29, 2, false, [.t 4], (.seq (.region f614x0 false) (.seq (.seq (.region f614x1 false) (.cond (.t 12) (.seq (.region f614x2 false) .ret) .skip)) (.seq (.region f614x3 false) .ret)))⟩
def f615x0 : List AOper := [
  Op 2 (.box (.t 0)),
  Mc 4 (.bool false)]
def f615x1 : List AOper := [
  Fa 8 6 2,
  Ls 9 4 8,
  Mv 10 1,
  Ct 11 566 [9, 10],
  Mv 7 11,
  Ex 12 7 0,
  Ex 13 7 1,
  Op 5 (.alloc (.agg [.str [], .con (.slice none 0 0), .int .i64 0])),
  St 3 5 12,
  Mv 6 13]
def f615x2 : List AOper := [
  Mv 14 6,
  Mv 15 14,
  Gf 15 (Mv 16 1),
  Gf 15 (Op 17 (.bin .eql (.t 16) (.c (.str [])))),
  Po 18 15 17,
  Mv 4 18]
def f615 : AFunc := ⟨19, 2, false, [.t 4], (.seq (.region f615x0 false) (.seq (.region f615x1 false) (.seq (.region f615x2 false) .ret)))⟩
def f186x0 : List AOper := [
  Mc 4 (.int .i64 0)]
def f186x1 : List AOper := [
  Mv 5 0,
  Op 6 (.minmax true [(.t 5), (.c (.int .i64 0))]),
  Mv 7 1,
  Op 8 (.minmax false [(.t 6), (.t 7)]),
  Mv 4 8]
def f186 : AFunc := ⟨9, 2, false, [.t 4], (.seq (.region f186x0 false) (.seq (.region f186x1 false) .ret))⟩
def f646x0 : List AOper := [
  Op 4 (.alloc (.agg [.int .i64 0, .int .i64 0, .int .i64 0, .con (.slice none 0 0)]))]
def f646x1 : List AOper := [
  Mv 7 0,
  Mv 8 1,
  Ct 9 653 [7, 8],
  Op 5 (.alloc (.agg [.int .i64 0, .int .i64 0, .int .i64 0, .con (.slice none 0 0)])),
  St 4 5 9]
def f646x2 : List AOper := [
  Mc 6 (.int .i64 0)]
def f646x3 : List AOper := [
  Mv 10 0,
  Ct 11 625 [10]]
def f646x4 : List AOper := [
  Op 14 (.bin .eql (.t 11) (.c (.int .u8 42))),
  Mv 13 14]
def f646x5 : List AOper := [
  Mc 6 (.int .i64 5)]
def f646x6 : List AOper := [
  Op 16 (.bin .eql (.t 11) (.c (.int .u8 43))),
  Mv 15 16]
def f646x7 : List AOper := [
  Mc 6 (.int .i64 6)]
def f646x8 : List AOper := [
  Op 18 (.bin .eql (.t 11) (.c (.int .u8 63))),
  Mv 17 18]
def f646x9 : List AOper := [
  Mc 6 (.int .i64 7)]
def f646x10 : List AOper := [
  Ls 12 4 5,
  St 4 4 12]
def f646x11 : List AOper := [
  Mv 19 0,
  Nc 20 19,
  Fa 21 1 20,
  Ld 22 21,
  Bc 23 .add 22 1,
  Nc 24 19,
  Fa 25 1 24,
  St 1 25 23]
def f646x12 : List AOper := [
  Mv 26 6,
  Ls 27 4 5,
  Op 28 (.bsl 4 [.int .i64 0, .int .i64 0, .int .i64 0, .con (.slice none 0 0)] 1 [0] [(.t 27)]),
  Op 29 (.build [.int .i64 0, .int .i64 0, .int .i64 0, .con (.slice none 0 0)] [(0, 1), (3, 1)] [(.t 26), (.t 28)]),
  St 4 4 29]
def f646 : AFunc := ⟨30, 2, false, [.cell 4 (some 4)], (.seq (.region f646x0 false) (.seq (.region f646x1 false) (.seq (.region f646x2 false) (.seq (.seq (.region f646x3 false) (.block 0 (.seq (.region f646x4 false) (.cond (.t 13) (.region f646x5 false) (.seq (.region f646x6 false) (.cond (.t 15) (.region f646x7 false) (.seq (.region f646x8 false) (.cond (.t 17) (.region f646x9 false) (.seq (.region f646x10 false) .ret))))))))) (.seq (.region f646x11 false) (.seq (.region f646x12 false) .ret))))))⟩
def f647x0 : List AOper := [
  Op 3 (.box (.t 0)),
  Mc 6 (.int .i64 0)]
def f647x1 : List AOper := [
  Mv 11 1,
  Bc 12 .gtr 11 16]
def f647x2 : List AOper := [
  Mc 6 (.int .i64 24)]
def f647x3 : List AOper := [
  Mv 13 2,
  Nc 14 13,
  Ld 15 14,
  Bc 16 .geq 15 64]
def f647x4 : List AOper := [
  Mc 6 (.int .i64 4)]
def f647x5 : List AOper := [
  Mv 17 2,
  Nc 18 17,
  Ld 19 18,
  Bc 20 .add 19 1,
  Nc 21 17,
  St 1 21 20]
def f647x6 : List AOper := [
  Ls 22 4 3,
  Ct 23 654 [22],
  Mv 7 23]
def f647x7 : List AOper := [
  Mv 24 7,
  Bc 25 .neq 24 0]
def f647x8 : List AOper := [
  Mv 26 7,
  Mv 6 26]
def f647x9 : List AOper := [
  Fa 27 3 3,
  Ld 28 27,
  Ln 29 0 28,
  Mc 30 (.int .i64 0)]
def f647x10 : List AOper := [
  Bi 31 .lss 30 29]
def f647x11 : List AOper := [
  Ia 32 4 28 30,
  Ls 33 4 32,
  Op 9 (.alloc (.agg [.int .i64 0, .int .i64 0, .int .i64 0, .con (.slice none 0 0)])),
  St 4 9 33]
def f647x12 : List AOper := [
  Ls 34 4 9,
  Mv 35 1,
  Bc 36 .add 35 1,
  Mv 37 2,
  Ct 38 647 [34, 36, 37],
  Mv 10 38]
def f647x13 : List AOper := [
  Mv 39 10,
  Bc 40 .neq 39 0]
def f647x14 : List AOper := [
  Mv 41 10,
  Mv 6 41]
def f647x15 : List AOper := [
  Bc 42 .add 30 1,
  Mv 30 42]
def f647x16L : ACode := (.seq (.region f647x10 false) (.seq (.cond (.t 31) .skip (.exit 0)) (.seq (.block 1 (.seq (.region f647x11 false) (.seq (.region f647x12 false) (.seq (.region f647x13 false) (.cond (.t 40) (.seq (.region f647x14 false) .ret) .skip))))) (.region f647x15 false))))
def f647x17 : List AOper := [
  Mc 6 (.int .i64 0)]
def f647 : AFunc := ⟨43, 3, false, [.t 6], (.seq (.region f647x0 false) (.seq (.seq (.region f647x1 false) (.cond (.t 12) (.seq (.region f647x2 false) .ret) .skip)) (.seq (.seq (.region f647x3 false) (.cond (.t 16) (.seq (.region f647x4 false) .ret) .skip)) (.seq (.region f647x5 false) (.seq (.seq (.region f647x6 false) (.seq (.region f647x7 false) (.cond (.t 25) (.seq (.region f647x8 false) .ret) .skip))) (.seq (.seq (.region f647x9 false) (.block 0 (.loop f647x16L))) (.seq (.region f647x17 false) .ret)))))))⟩
def f648x0 : List AOper := [
  Op 3 (.box (.t 1)),
  Mc 4 (.str [])]
def f648x1 : List AOper := [
  Ls 6 4 3,
  Ct 7 627 [6],
  Mv 5 7]
def f648x2 : List AOper := [
  Mv 8 0,
  Ls 9 4 3,
  Ct 10 655 [8, 9]]
def f648x3 : List AOper := [
  Mv 11 5,
  Op 12 (.bin .add (.c (.str [40])) (.t 11)),
  Op 13 (.bin .add (.t 12) (.c (.str [41]))),
  Mv 4 13]
def f648x4 : List AOper := [
  Mv 14 5,
  Mv 4 14]
def f648 : AFunc := ⟨15, 2, false, [.t 4], (.seq (.region f648x0 false) (.seq (.region f648x1 false) (.seq (.seq (.region f648x2 false) (.cond (.t 10) (.seq (.region f648x3 false) .ret) .skip)) (.seq (.region f648x4 false) .ret))))⟩
def f285x0 : List AOper := [
  Mc 2 (.int .i64 0)]
def f285x1 : List AOper := [
  Mv 3 0,
  Op 4 (.bin .geq (.t 3) (.c (.int .u64 4294967296)))]
def f285x2 : List AOper := [
  Mv 5 0,
  Op 6 (.bin .shr (.t 5) (.c (.int .u64 32))),
  Mv 0 6]
def f285x3 : List AOper := [
  Mc 2 (.int .i64 32)]
def f285x4 : List AOper := [
  Mv 7 0,
  Op 8 (.bin .geq (.t 7) (.c (.int .u64 65536)))]
def f285x5 : List AOper := [
  Mv 9 0,
  Op 10 (.bin .shr (.t 9) (.c (.int .u64 16))),
  Mv 0 10]
def f285x6 : List AOper := [
  Mv 11 2,
  Bc 12 .add 11 16,
  Mv 2 12]
def f285x7 : List AOper := [
  Mv 13 0,
  Op 14 (.bin .geq (.t 13) (.c (.int .u64 256)))]
def f285x8 : List AOper := [
  Mv 15 0,
  Op 16 (.bin .shr (.t 15) (.c (.int .u64 8))),
  Mv 0 16]
def f285x9 : List AOper := [
  Mv 17 2,
  Bc 18 .add 17 8,
  Mv 2 18]
def f285x10 : List AOper := [
  Mv 19 2,
  Mv 20 0,
  Cv 21 .u8 20,
  Op 22 (.istr (.c (.str [0, 1, 2, 2, 3, 3, 3, 3, 4, 4, 4, 4, 4, 4, 4, 4, 5, 5, 5, 5, 5, 5, 5, 5, 5, 5, 5, 5, 5, 5, 5, 5, 6, 6, 6, 6, 6, 6, 6, 6, 6, 6, 6, 6, 6, 6, 6, 6, 6, 6, 6, 6, 6, 6, 6, 6, 6, 6, 6, 6, 6, 6, 6, 6, 7, 7, 7, 7, 7, 7, 7, 7, 7, 7, 7, 7, 7, 7, 7, 7, 7, 7, 7, 7, 7, 7, 7, 7, 7, 7, 7, 7, 7, 7, 7, 7, 7, 7, 7, 7, 7, 7, 7, 7, 7, 7, 7, 7, 7, 7, 7, 7, 7, 7, 7, 7, 7, 7, 7, 7, 7, 7, 7, 7, 7, 7, 7, 7, 8, 8, 8, 8, 8, 8, 8, 8, 8, 8, 8, 8, 8, 8, 8, 8, 8, 8, 8, 8, 8, 8, 8, 8, 8, 8, 8, 8, 8, 8, 8, 8, 8, 8, 8, 8, 8, 8, 8, 8, 8, 8, 8, 8, 8, 8, 8, 8, 8, 8, 8, 8, 8, 8, 8, 8, 8, 8, 8, 8, 8, 8, 8, 8, 8, 8, 8, 8, 8, 8, 8, 8, 8, 8, 8, 8, 8, 8, 8, 8, 8, 8, 8, 8, 8, 8, 8, 8, 8, 8, 8, 8, 8, 8, 8, 8, 8, 8, 8, 8, 8, 8, 8, 8, 8, 8, 8, 8, 8, 8, 8, 8, 8, 8, 8, 8, 8, 8, 8, 8, 8, 8, 8, 8, 8, 8, 8, 8])) (.t 21)),
  Cv 23 .i64 22,
  Bi 24 .add 19 23,
  Mv 2 24]
def f285 : AFunc := ⟨25, 1, false, [.t 2], (.seq (.region f285x0 false) (.seq (.seq (.region f285x1 false) (.cond (.t 4) (.seq (.region f285x2 false) (.region f285x3 false)) .skip)) (.seq (.seq (.region f285x4 false) (.cond (.t 8) (.seq (.region f285x5 false) (.region f285x6 false)) .skip)) (.seq (.seq (.region f285x7 false) (.cond (.t 14) (.seq (.region f285x8 false) (.region f285x9 false)) .skip)) (.seq (.region f285x10 false) .ret)))))⟩
def f245x0 : List AOper := [
  Op 4 (.alloc (.agg [.int .u32 0, .int .i64 0]))]
def f245x1 : List AOper := [
  Mv 5 0,
  Mv 6 1,
  Ct 7 181 [5, 6],
  Mv 8 1,
  Op 9 (.build [.int .u32 0, .int .i64 0] [(0, 1), (1, 1)] [(.t 7), (.t 8)]),
  St 2 4 9]
def f245 : AFunc := ⟨10, 2, false, [.cell 4 (some 2)], (.seq (.region f245x0 false) (.seq (.region f245x1 false) .ret))⟩
def f653x0 : List AOper := [
  Op 4 (.alloc (.agg [.int .i64 0, .int .i64 0, .int .i64 0, .con (.slice none 0 0)]))]
def f653x1 : List AOper := [
  Mv 9 0,
  Ct 10 625 [9]]
def f653x2 : List AOper := [
  Op 12 (.bin .eql (.t 10) (.c (.int .u8 46))),
  Mv 11 12]
def f653x3 : List AOper := [
  Mv 13 0,
  Nc 14 13,
  Fa 15 1 14,
  Ld 16 15,
  Bc 17 .add 16 1,
  Nc 18 13,
  Fa 19 1 18,
  St 1 19 17]
def f653x4 : List AOper := [
  Op 20 (.build [.int .i64 0, .int .i64 0, .int .i64 0, .con (.slice none 0 0)] [(0, 1)] [(.c (.int .i64 2))]),
  St 4 4 20]
def f653x5 : List AOper := [
  Op 22 (.bin .eql (.t 10) (.c (.int .u8 33))),
  Mv 21 22]
def f653x6 : List AOper := [
  Mv 23 0,
  Nc 24 23,
  Fa 25 1 24,
  Ld 26 25,
  Bc 27 .add 26 1,
  Nc 28 23,
  Fa 29 1 28,
  St 1 29 27]
def f653x7 : List AOper := [
  Op 30 (.build [.int .i64 0, .int .i64 0, .int .i64 0, .con (.slice none 0 0)] [(0, 1)] [(.c (.int .i64 4))]),
  St 4 4 30]
def f653x8 : List AOper := [
  Op 32 (.bin .eql (.t 10) (.c (.int .u8 91))),
  Mv 31 32]
def f653x9 : List AOper := [
  Mv 33 0,
  Nc 34 33,
  Fa 35 1 34,
  Ld 36 35,
  Bc 37 .add 36 1,
  Nc 38 33,
  Fa 39 1 38,
  St 1 39 37]
def f653x10 : List AOper := [
  Mv 40 0,
  Ct 41 657 [40],
  Mv 5 41]
def f653x11 : List AOper := [
  Mv 42 0,
  Ca 43 658 [(.t 42), (.c (.int .u8 45))]]
def f653x12 : List AOper := [
  Mv 44 0,
  Ct 45 657 [44],
  Mv 6 45]
def f653x13 : List AOper := [
  Mv 46 0,
  Ca 47 658 [(.t 46), (.c (.int .u8 93))]]
def f653x14 : List AOper := [
  Mv 48 5,
  Mv 49 6,
  Op 50 (.build [.int .i64 0, .int .i64 0, .int .i64 0, .con (.slice none 0 0)] [(0, 1), (1, 1), (2, 1)] [(.c (.int .i64 1)), (.t 48), (.t 49)]),
  St 4 4 50]
def f653x15 : List AOper := [
  Op 52 (.bin .eql (.t 10) (.c (.int .u8 40))),
  Mv 51 52]
def f653x16 : List AOper := [
  Mv 53 0,
  Nc 54 53,
  Fa 55 1 54,
  Ld 56 55,
  Bc 57 .add 56 1,
  Nc 58 53,
  Fa 59 1 58,
  St 1 59 57]
def f653x17 : List AOper := [
  Mv 60 0,
  Ct 61 625 [60],
  Op 62 (.bin .eql (.t 61) (.c (.int .u8 41)))]
def f653x18 : List AOper := [
  Mv 63 0,
  Nc 64 63,
  Fa 65 1 64,
  Ld 66 65,
  Bc 67 .add 66 1,
  Nc 68 63,
  Fa 69 1 68,
  St 1 69 67]
def f653x19 : List AOper := [
  Op 70 (.build [.int .i64 0, .int .i64 0, .int .i64 0, .con (.slice none 0 0)] [] []),
  St 4 4 70]
def f653x20 : List AOper := [
  Mv 71 0,
  Mv 72 1,
  Bc 73 .add 72 1,
  Ct 74 579 [71, 73],
  Op 7 (.alloc (.agg [.int .i64 0, .int .i64 0, .int .i64 0, .con (.slice none 0 0)])),
  St 4 7 74]
def f653x21 : List AOper := [
  Mv 75 0,
  Ca 76 658 [(.t 75), (.c (.int .u8 41))]]
def f653x22 : List AOper := [
  Ls 77 4 7,
  St 4 4 77]
def f653x23 : List AOper := [
  Mv 78 0,
  Ct 79 657 [78],
  Mv 8 79]
def f653x24 : List AOper := [
  Mv 80 8,
  Mv 81 8,
  Op 82 (.build [.int .i64 0, .int .i64 0, .int .i64 0, .con (.slice none 0 0)] [(0, 1), (1, 1), (2, 1)] [(.c (.int .i64 1)), (.t 80), (.t 81)]),
  St 4 4 82]
def f653 : AFunc := ⟨83, 2, false, [.cell 4 (some 4)], (.seq (.region f653x0 false) (.seq (.seq (.region f653x1 false) (.block 0 (.seq (.region f653x2 false) (.cond (.t 11) (.seq (.region f653x3 false) (.seq (.region f653x4 false) .ret)) (.seq (.region f653x5 false) (.cond (.t 21) (.seq (.region f653x6 false) (.seq (.region f653x7 false) .ret)) (.seq (.region f653x8 false) (.cond (.t 31) (.seq (.region f653x9 false) (.seq (.region f653x10 false) (.seq (.region f653x11 false) (.seq (.region f653x12 false) (.seq (.region f653x13 false) (.seq (.region f653x14 false) .ret)))))) (.seq (.region f653x15 false) (.cond (.t 51) (.seq (.region f653x16 false) (.seq (.seq (.region f653x17 false) (.cond (.t 62) (.seq (.region f653x18 false) (.seq (.region f653x19 false) .ret)) .skip)) (.seq (.region f653x20 false) (.seq (.region f653x21 false) (.seq (.region f653x22 false) .ret))))) .skip)))))))))) (.seq (.region f653x23 false) (.seq (.region f653x24 false) .ret))))⟩
def f654x0 : List AOper := [
  Op 1 (.box (.t 0)),
  Mc 2 (.int .i64 0)]
def f654x1 : List AOper := [
  Fa 6 0 1,
  Ld 7 6,
  Fa 8 3 1,
  Ld 9 8,
  Ln 10 0 9,
  Ct 11 659 [7, 10],
  Mv 5 11,
  Ex 12 5 0,
  Ex 13 5 1,
  Mv 3 12,
  Mv 4 13]
def f654x2 : List AOper := [
  Mv 15 3,
  Un 16 .not 15,
  Mv 14 16]
def f654x3 : List AOper := [
  Mc 2 (.int .i64 15)]
def f654x4 : List AOper := [
  Fa 18 0 1,
  Ld 19 18,
  Bc 20 .eql 19 1,
  Mv 21 20,
  Gt 21 (Fa 22 1 1),
  Gt 21 (Ld 23 22),
  Gt 21 (Bc 24 .lss 23 0),
  Gt 21 (Mv 25 24),
  Gf 25 (Fa 26 1 1),
  Gf 25 (Ld 27 26),
  Gf 25 (Fa 28 2 1),
  Gf 25 (Ld 29 28),
  Gf 25 (Bi 30 .gtr 27 29),
  Gt 21 (Po 31 25 30),
  Gt 21 (Mv 32 31),
  Gf 32 (Fa 33 2 1),
  Gf 32 (Ld 34 33),
  Gf 32 (Bc 35 .gtr 34 4294967295),
  Gt 21 (Po 36 32 35),
  Pa 37 21 36,
  Mv 17 37]
def f654x5 : List AOper := [
  Mc 2 (.int .i64 5)]
def f654x6 : List AOper := [
  Fa 39 0 1,
  Ld 40 39,
  Bc 41 .neq 40 1,
  Mv 42 41,
  Gt 42 (Fa 43 1 1),
  Gt 42 (Ld 44 43),
  Gt 42 (Bc 45 .neq 44 0),
  Gt 42 (Mv 46 45),
  Gf 46 (Fa 47 2 1),
  Gf 46 (Ld 48 47),
  Gf 46 (Bc 49 .neq 48 0),
  Gt 42 (Po 50 46 49),
  Pa 51 42 50,
  Mv 38 51]
def f654x7 : List AOper := [
  Mv 52 4,
  Un 53 .not 52,
  Mv 38 53]
def f654x8 : List AOper := [
  Mc 2 (.int .i64 1)]
def f654x9 : List AOper := [
  Mc 2 (.int .i64 0)]
def f654 : AFunc := ⟨54, 1, false, [.t 2], (.seq (.region f654x0 false) (.seq (.region f654x1 false) (.seq (.block 0 (.seq (.region f654x2 false) (.cond (.t 14) (.seq (.region f654x3 false) .ret) (.seq (.region f654x4 false) (.cond (.t 17) (.seq (.region f654x5 false) .ret) (.seq (.seq (.region f654x6 false) (.cond (.t 38) .skip (.region f654x7 false))) (.cond (.t 38) (.seq (.region f654x8 false) .ret) .skip))))))) (.seq (.region f654x9 false) .ret))))⟩
def f655x0 : List AOper := [
  Op 3 (.box (.t 1)),
  Mc 4 (.bool false)]
def f655x1 : List AOper := [
  Fa 6 0 3,
  Ld 7 6,
  Bc 8 .eql 7 4,
  Mv 5 8]
def f655x2 : List AOper := [
  Fa 9 3 3,
  Ld 10 9,
  Ln 11 0 10,
  Bc 12 .gtr 11 0,
  Mv 4 12]
def f655x3 : List AOper := [
  Fa 14 0 3,
  Ld 15 14,
  Bc 16 .eql 15 3,
  Mv 13 16]
def f655x4 : List AOper := [
  Mv 17 0,
  Bc 18 .neq 17 4,
  Mv 4 18]
def f655x5 : List AOper := [
  Fa 19 0 3,
  Ld 20 19,
  Ct 21 660 [20],
  Mv 22 21,
  Gt 22 (Mv 23 0),
  Gt 22 (Ct 24 660 [23]),
  Pa 25 22 24,
  Mv 4 25]
def f655 : AFunc := ⟨26, 2, false, [.t 4], (.seq (.region f655x0 false) (.seq (.block 0 (.seq (.region f655x1 false) (.cond (.t 5) (.seq (.region f655x2 false) .ret) (.seq (.region f655x3 false) (.cond (.t 13) (.seq (.region f655x4 false) .ret) .skip))))) (.seq (.region f655x5 false) .ret)))⟩
def f657x0 : List AOper := [
  Mc 2 (.int .i64 0)]
def f657x1 : List AOper := [
  Mv 6 0,
  Nc 7 6,
  Fa 8 1 7,
  Ld 9 8,
  Mv 3 9]
def f657x2 : List AOper := [
  Mv 10 0,
  Ct 11 625 [10],
  Op 12 (.bin .geq (.t 11) (.c (.int .u8 48))),
  Mv 13 12,
  Gt 13 (Mv 14 0),
  Gt 13 (Ct 15 625 [14]),
  Gt 13 (Op 16 (.bin .leq (.t 15) (.c (.int .u8 57)))),
  Pa 17 13 16]
def f657x3 : List AOper := [
  Mv 18 0,
  Nc 19 18,
  Fa 20 1 19,
  Ld 21 20,
  Bc 22 .add 21 1,
  Nc 23 18,
  Fa 24 1 23,
  St 1 24 22]
def f657x4L : ACode := (.seq (.seq (.region f657x2 false) (.cond (.t 17) .skip (.exit 0))) (.block 1 (.region f657x3 false)))
def f657x5 : List AOper := [
  Mv 26 0,
  Nc 27 26,
  Fa 28 0 27,
  Ld 29 28,
  Mv 30 3,
  Mv 31 0,
  Nc 32 31,
  Fa 33 1 32,
  Ld 34 33,
  Op 35 (.slstr (.t 29) (some (.t 30)) (some (.t 34))),
  Af [3, 8] (Ca 36 346 [(.t 35), (.c (.int .i64 4294967295))]),
  Mv 25 36,
  Ex 37 25 0,
  Ex 38 25 1,
  Mv 4 37,
  Mv 5 38]
def f657x6 : List AOper := [
  Mv 39 5,
  Bc 40 .neq 39 0]
def f657x7 : List AOper := [
  Op 41 (.build [] [] []),
  Op 42 (.mkifc 243 (.t 41)),
  ⟨none, .panic (.t 42), none, []⟩]
def f657x8 : List AOper := [
  Mv 43 4,
  Mv 2 43]
def f657 : AFunc := ⟨44, 1, false, [.t 2], (.seq (.region f657x0 false) (.seq (.region f657x1 false) (.seq (.block 0 (.loop f657x4L)) (.seq (.region f657x5 true) (.seq (.seq (.region f657x6 false) (.cond (.t 40) (.region f657x7 false) .skip)) (.seq (.region f657x8 false) .ret))))))⟩
def f658x0 : List AOper := [
  Mv 4 0,
  Ct 5 625 [4],
  Mv 6 1,
  Bi 7 .neq 5 6]
def f658x1 : List AOper := [
  Op 8 (.build [] [] []),
  Op 9 (.mkifc 243 (.t 8)),
  ⟨none, .panic (.t 9), none, []⟩]
def f658x2 : List AOper := [
  Mv 10 0,
  Nc 11 10,
  Fa 12 1 11,
  Ld 13 12,
  Bc 14 .add 13 1,
  Nc 15 10,
  Fa 16 1 15,
  St 1 16 14]
def f658 : AFunc := ⟨17, 2, false, [], (.seq (.seq (.region f658x0 false) (.cond (.t 7) (.region f658x1 false) .skip)) (.region f658x2 false))⟩
def f659x0 : List AOper := [
  Mc 4 (.bool false),
  Mc 5 (.bool false)]
def f659x1 : List AOper := [
  Mv 6 0]
def f659x2 : List AOper := [
  Bc 8 .eql 6 0,
  Mv 7 8]
def f659x3 : List AOper := [
  Bc 9 .eql 6 1,
  Mv 7 9]
def f659x4 : List AOper := [
  Bc 10 .eql 6 2,
  Mv 7 10]
def f659x5 : List AOper := [
  Mv 11 1,
  Bc 12 .eql 11 0,
  Mc 4 (.bool true),
  Mv 5 12]
def f659x6 : List AOper := [
  Bc 14 .eql 6 3,
  Mv 13 14]
def f659x7 : List AOper := [
  Mv 15 1,
  Bc 16 .geq 15 2,
  Mc 4 (.bool true),
  Mv 5 16]
def f659x8 : List AOper := [
  Bc 18 .eql 6 4,
  Mv 17 18]
def f659x9 : List AOper := [
  Mv 19 1,
  Bc 20 .neq 19 1,
  Mc 4 (.bool true),
  Mv 5 20]
def f659x10 : List AOper := [
  Bc 22 .eql 6 5,
  Mv 21 22]
def f659x11 : List AOper := [
  Bc 23 .eql 6 6,
  Mv 21 23]
def f659x12 : List AOper := [
  Bc 24 .eql 6 7,
  Mv 21 24]
def f659x13 : List AOper := [
  Mv 25 1,
  Bc 26 .eql 25 1,
  Mc 4 (.bool true),
  Mv 5 26]
def f659x14 : List AOper := [
  Mc 4 (.bool false),
  Mc 5 (.bool false)]
def f659 : AFunc := ⟨27, 2, false, [.t 4, .t 5], (.seq (.region f659x0 false) (.seq (.seq (.region f659x1 false) (.block 0 (.seq (.seq (.region f659x2 false) (.cond (.t 7) .skip (.seq (.region f659x3 false) (.cond (.t 7) .skip (.region f659x4 false))))) (.cond (.t 7) (.seq (.region f659x5 false) .ret) (.seq (.region f659x6 false) (.cond (.t 13) (.seq (.region f659x7 false) .ret) (.seq (.region f659x8 false) (.cond (.t 17) (.seq (.region f659x9 false) .ret) (.seq (.seq (.region f659x10 false) (.cond (.t 21) .skip (.seq (.region f659x11 false) (.cond (.t 21) .skip (.region f659x12 false))))) (.cond (.t 21) (.seq (.region f659x13 false) .ret) .skip)))))))))) (.seq (.region f659x14 false) .ret)))⟩
def f660x0 : List AOper := [
  Mc 2 (.bool false)]
def f660x1 : List AOper := [
  Mv 3 0,
  Bc 4 .eql 3 5,
  Mv 5 4,
  Gf 5 (Mv 6 0),
  Gf 5 (Bc 7 .eql 6 6),
  Po 8 5 7,
  Mv 9 8,
  Gf 9 (Mv 10 0),
  Gf 9 (Bc 11 .eql 10 7),
  Po 12 9 11,
  Mv 2 12]
def f660 : AFunc := ⟨13, 1, false, [.t 2], (.seq (.region f660x0 false) (.seq (.region f660x1 false) .ret))⟩
def f317x0 : List AOper := [
  Mc 2 (.int .u8 0)]
def f317x1 : List AOper := [
  Mv 3 0,
  Op 4 (.bin .or (.t 3) (.c (.int .u8 32))),
  Mv 2 4]
def f317 : AFunc := ⟨5, 1, false, [.t 2], (.seq (.region f317x0 false) (.seq (.region f317x1 false) .ret))⟩
def f318x0 : List AOper := [
  Mc 2 (.bool false)]
def f318x1 : List AOper := [
  Mc 3 (.int .i32 94)]
def f318x2 : List AOper := [
  Mc 4 (.int .i64 0)]
def f318x3 : List AOper := [
  Mv 6 0,
  Ln 7 1 6,
  Bc 8 .geq 7 1,
  Mv 9 8,
  Gt 9 (Mv 10 0),
  Gt 9 (Op 11 (.istr (.t 10) (.c (.int .i64 0)))),
  Gt 9 (Op 12 (.bin .eql (.t 11) (.c (.int .u8 45)))),
  Gt 9 (Mv 13 12),
  Gf 13 (Mv 14 0),
  Gf 13 (Op 15 (.istr (.t 14) (.c (.int .i64 0)))),
  Gf 13 (Op 16 (.bin .eql (.t 15) (.c (.int .u8 43)))),
  Gt 9 (Po 17 13 16),
  Pa 18 9 17]
def f318x4 : List AOper := [
  Mv 19 0,
  Op 20 (.slstr (.t 19) (some (.c (.int .i64 1))) none),
  Mv 0 20]
def f318x5 : List AOper := [
  Mc 5 (.bool false)]
def f318x6 : List AOper := [
  Mv 21 0,
  Ln 22 1 21,
  Bc 23 .geq 22 2,
  Mv 24 23,
  Gt 24 (Mv 25 0),
  Gt 24 (Op 26 (.istr (.t 25) (.c (.int .i64 0)))),
  Gt 24 (Op 27 (.bin .eql (.t 26) (.c (.int .u8 48)))),
  Pa 28 24 27,
  Mv 29 28,
  Gt 29 (Mv 30 0),
  Gt 29 (Op 31 (.istr (.t 30) (.c (.int .i64 1)))),
  Gt 29 (Ct 32 317 [31]),
  Gt 29 (Op 33 (.bin .eql (.t 32) (.c (.int .u8 98)))),
  Gt 29 (Mv 34 33),
  Gf 34 (Mv 35 0),
  Gf 34 (Op 36 (.istr (.t 35) (.c (.int .i64 1)))),
  Gf 34 (Ct 37 317 [36]),
  Gf 34 (Op 38 (.bin .eql (.t 37) (.c (.int .u8 111)))),
  Gt 29 (Po 39 34 38),
  Gt 29 (Mv 40 39),
  Gf 40 (Mv 41 0),
  Gf 40 (Op 42 (.istr (.t 41) (.c (.int .i64 1)))),
  Gf 40 (Ct 43 317 [42]),
  Gf 40 (Op 44 (.bin .eql (.t 43) (.c (.int .u8 120)))),
  Gt 29 (Po 45 40 44),
  Pa 46 29 45]
def f318x7 : List AOper := [
  Mc 4 (.int .i64 2)]
def f318x8 : List AOper := [
  Mc 3 (.int .i32 48)]
def f318x9 : List AOper := [
  Mv 47 0,
  Op 48 (.istr (.t 47) (.c (.int .i64 1))),
  Ct 49 317 [48],
  Op 50 (.bin .eql (.t 49) (.c (.int .u8 120))),
  Mv 5 50]
def f318x10 : List AOper := [
  Mv 51 4,
  Mv 52 0,
  Ln 53 1 52,
  Bi 54 .lss 51 53]
def f318x11 : List AOper := [
  Mv 57 0,
  Mv 58 4,
  Op 59 (.istr (.t 57) (.t 58)),
  Op 60 (.bin .leq (.c (.int .u8 48)) (.t 59)),
  Mv 61 60,
  Gt 61 (Mv 62 0),
  Gt 61 (Mv 63 4),
  Gt 61 (Op 64 (.istr (.t 62) (.t 63))),
  Gt 61 (Op 65 (.bin .leq (.t 64) (.c (.int .u8 57)))),
  Pa 66 61 65,
  Mv 67 66,
  Gf 67 (Mv 68 5),
  Gf 67 (Mv 69 68),
  Gt 69 (Mv 70 0),
  Gt 69 (Mv 71 4),
  Gt 69 (Op 72 (.istr (.t 70) (.t 71))),
  Gt 69 (Ct 73 317 [72]),
  Gt 69 (Op 74 (.bin .leq (.c (.int .u8 97)) (.t 73))),
  Gf 67 (Pa 75 69 74),
  Gf 67 (Mv 76 75),
  Gt 76 (Mv 77 0),
  Gt 76 (Mv 78 4),
  Gt 76 (Op 79 (.istr (.t 77) (.t 78))),
  Gt 76 (Ct 80 317 [79]),
  Gt 76 (Op 81 (.bin .leq (.t 80) (.c (.int .u8 102)))),
  Gf 67 (Pa 82 76 81),
  Po 83 67 82]
def f318x12 : List AOper := [
  Mc 3 (.int .i32 48)]
def f318x13 : List AOper := [
  Mv 84 0,
  Mv 85 4,
  Op 86 (.istr (.t 84) (.t 85)),
  Op 87 (.bin .eql (.t 86) (.c (.int .u8 95)))]
def f318x14 : List AOper := [
  Mv 88 3,
  Op 89 (.bin .neq (.t 88) (.c (.int .i32 48)))]
def f318x15 : List AOper := [
  Mc 2 (.bool false)]
def f318x16 : List AOper := [
  Mc 3 (.int .i32 95)]
def f318x17 : List AOper := [
  Mv 90 3,
  Op 91 (.bin .eql (.t 90) (.c (.int .i32 95)))]
def f318x18 : List AOper := [
  Mc 2 (.bool false)]
def f318x19 : List AOper := [
  Mc 3 (.int .i32 33)]
def f318x20 : List AOper := [
  Mv 55 4,
  Bc 56 .add 55 1,
  Mv 4 56]
def f318x21L : ACode := (.seq (.seq (.region f318x10 false) (.cond (.t 54) .skip (.exit 0))) (.seq (.block 1 (.seq (.seq (.region f318x11 false) (.cond (.t 83) (.seq (.region f318x12 false) (.exit 1)) .skip)) (.seq (.seq (.region f318x13 false) (.cond (.t 87) (.seq (.seq (.region f318x14 false) (.cond (.t 89) (.seq (.region f318x15 false) .ret) .skip)) (.seq (.region f318x16 false) (.exit 1))) .skip)) (.seq (.seq (.region f318x17 false) (.cond (.t 91) (.seq (.region f318x18 false) .ret) .skip)) (.region f318x19 false))))) (.region f318x20 false)))
def f318x22 : List AOper := [
  Mv 92 3,
  Op 93 (.bin .neq (.t 92) (.c (.int .i32 95))),
  Mv 2 93]
def f318 : AFunc := ⟨94, 1, false, [.t 2], (.seq (.region f318x0 false) (.seq (.region f318x1 false) (.seq (.region f318x2 false) (.seq (.seq (.region f318x3 false) (.cond (.t 18) (.region f318x4 false) .skip)) (.seq (.region f318x5 false) (.seq (.seq (.region f318x6 false) (.cond (.t 46) (.seq (.region f318x7 false) (.seq (.region f318x8 false) (.region f318x9 false))) .skip)) (.seq (.block 0 (.loop f318x21L)) (.seq (.region f318x22 false) .ret))))))))⟩
end Go.AM.IR
