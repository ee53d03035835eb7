/- What the functions of this program give, on the abstract machine. -/
import Derived.Test.YtnjmnofdpmginaaMachineC
import Derived.Test.YtnjmnofdpmginaaMachineB
set_option linter.unusedVariables false
set_option linter.unusedSimpArgs false
set_option maxRecDepth 100000
namespace Go.AM.IR
open Go Go.AM
def f121x0 : List AOper := [
  Op 2 (.box (.t 0)),
  Mc 4 (.bool false)]
def f121x1 : List AOper := [
  Ls 5 15 2,
  Mv 6 1,
  Af [0] (Ct 7 127 [5, 6]),
  Ls 8 15 2,
  Mv 9 1,
  Af [3, 2, 0] (Ct 10 128 [8, 9]),
  Af [5, 3, 2, 0] (Ct 11 126 [7, 10]),
  Mv 12 11,
  Af [6, 5, 3, 2, 0] (Gt 12 (Ct 13 129 [])),
  Pa 14 12 13,
  Mv 4 14]
def f121 : AFunc := ⟨15, 2, false, [.t 4], (.seq (.region f121x0 false) (.seq (.region f121x1 true) .ret))⟩
def f122x0 : List AOper := [
  Op 3 (.box (.t 0)),
  Op 5 (.box (.t 2)),
  Mc 6 (.bool false)]
def f122x1 : List AOper := [
  Ls 13 27 5,
  Ct 14 130 [13]]
def f122x2 : List AOper := [
  Ct 15 129 [],
  Mv 6 15]
def f122x3 : List AOper := [
  Ls 17 15 3,
  Mv 18 1,
  Ls 19 27 5,
  Ct 20 131 [17, 18, 19],
  Mv 16 20,
  Ex 21 16 0,
  Ex 22 16 1,
  Ex 23 16 2,
  Op 7 (.alloc (.agg [.int .i64 0, .int .i64 0, .int .i64 0, .int .i64 0, .int .i64 0, .int .u32 0, .int .i64 0, .bool false, .int .i64 0])),
  Op 8 (.alloc (.agg [.int .i64 0, .int .i64 0, .int .i64 0, .int .i64 0, .int .u32 0, .con (.slice none 0 0), .con (.slice none 0 0), .int .i64 0, .con (.slice none 0 0), .int .u32 0, .bool false, .int .i64 0, .bool false, .int .i64 0, .bool false, .bool false, .int .i64 0, .int .u32 0, .con (.slice none 0 0), .bool false, .int .u32 0, .con (.slice none 0 0), .con (.slice none 0 0), .con (.slice none 0 0), .int .i64 0, .int .i64 0, .con (.slice none 0 0)])),
  St 9 7 21,
  St 27 8 22,
  Mv 9 23]
def f122x4 : List AOper := [
  Ls 25 15 3,
  Mv 26 1,
  Ls 27 27 5,
  Ct 28 132 [25, 26, 27],
  Mv 24 28,
  Ex 29 24 0,
  Ex 30 24 1,
  Ex 31 24 2,
  Op 10 (.alloc (.agg [.int .i64 0, .int .i64 0, .int .i64 0, .int .i64 0, .int .i64 0, .int .u32 0, .int .i64 0, .bool false, .int .i64 0])),
  Op 11 (.alloc (.agg [.int .i64 0, .int .i64 0, .int .i64 0, .int .i64 0, .int .u32 0, .con (.slice none 0 0), .con (.slice none 0 0), .int .i64 0, .con (.slice none 0 0), .int .u32 0, .bool false, .int .i64 0, .bool false, .int .i64 0, .bool false, .bool false, .int .i64 0, .int .u32 0, .con (.slice none 0 0), .bool false, .int .u32 0, .con (.slice none 0 0), .con (.slice none 0 0), .con (.slice none 0 0), .int .i64 0, .int .i64 0, .con (.slice none 0 0)])),
  St 9 10 29,
  St 27 11 30,
  Mv 12 31]
def f122x5 : List AOper := [
  Ls 32 9 7,
  Ls 33 9 10,
  Op 34 (.eqs [.int, .int, .int, .int, .int, .int, .int, .bool, .int] false (.t 32) (.t 33)),
  Mv 35 34,
  Gt 35 (Mv 36 9),
  Gt 35 (Mv 37 12),
  Gt 35 (Bi 38 .eql 36 37),
  Pa 39 35 38,
  Mv 40 39,
  Gt 40 (Ls 41 27 8),
  Gt 40 (Ls 42 27 11),
  Gt 40 (Ct 43 126 [41, 42]),
  Pa 44 40 43,
  Mv 45 44,
  Gt 45 (Ct 46 129 []),
  Pa 47 45 46,
  Mv 6 47]
def f122 : AFunc := ⟨48, 3, false, [.t 6], (.seq (.region f122x0 false) (.seq (.seq (.region f122x1 false) (.cond (.t 14) (.seq (.region f122x2 false) .ret) .skip)) (.seq (.region f122x3 false) (.seq (.region f122x4 false) (.seq (.region f122x5 false) .ret)))))⟩
def f123x0 : List AOper := [
  Op 3 (.box (.t 0)),
  Op 4 (.box (.t 1)),
  Mc 6 (.bool false)]
def f123x1 : List AOper := [
  Ls 10 9 3,
  Af [0] (Ct 11 133 [10]),
  Ls 12 9 3,
  Af [2, 1, 0] (Ct 13 134 [12]),
  Bi 14 .neq 11 13]
def f123x2 : List AOper := [
  Mc 6 (.bool false)]
def f123x3 : List AOper := [
  Mv 15 2,
  Bc 16 .lss 15 1,
  Mv 17 16,
  Gf 17 (Mv 18 2),
  Gf 17 (Bc 19 .gtr 18 1099511627776),
  Po 20 17 19,
  Mv 21 20,
  Gf 21 (Fa 22 4 4),
  Gf 21 (Ld 23 22),
  Gf 21 (Ln 24 0 23),
  Gf 21 (Bc 25 .eql 24 0),
  Po 26 21 25,
  Mv 27 26,
  Gf 27 (Fa 28 3 3),
  Gf 27 (Ld 29 28),
  Gf 27 (Bc 30 .neq 29 0),
  Gf 27 (Mv 31 30),
  Gt 31 (Fa 32 4 3),
  Gt 31 (Ld 33 32),
  Gt 31 (Bc 34 .lss 33 3),
  Gf 27 (Pa 35 31 34),
  Po 36 27 35,
  Mv 37 36,
  Gf 37 (Fa 38 4 3),
  Gf 37 (Ld 39 38),
  Gf 37 (Bc 40 .gtr 39 65535),
  Po 41 37 40]
def f123x4 : List AOper := [
  Ct 42 129 [],
  Mv 6 42]
def f123x5 : List AOper := [
  Ls 44 9 3,
  Ls 45 15 4,
  Mv 46 2,
  Op 47 (.build [.int .i64 0, .int .i64 0, .int .i64 0, .int .i64 0, .int .u32 0, .con (.slice none 0 0), .con (.slice none 0 0), .int .i64 0, .con (.slice none 0 0), .int .u32 0, .bool false, .int .i64 0, .bool false, .int .i64 0, .bool false, .bool false, .int .i64 0, .int .u32 0, .con (.slice none 0 0), .bool false, .int .u32 0, .con (.slice none 0 0), .con (.slice none 0 0), .con (.slice none 0 0), .int .i64 0, .int .i64 0, .con (.slice none 0 0)] [] []),
  Ca 48 135 [(.t 44), (.t 45), (.c (.int .i64 0)), (.t 46), (.c (.int .i64 5)), (.t 47), (.c (.int .i64 0))],
  Mv 43 48,
  Ex 49 43 0,
  Ex 50 43 1,
  Op 7 (.alloc (.agg [.int .i64 0, .int .i64 0, .int .i64 0, .int .i64 0, .int .i64 0, .int .u32 0, .int .i64 0, .bool false, .int .i64 0])),
  St 9 7 49,
  Mv 8 50]
def f123x6 : List AOper := [
  Ls 51 9 7,
  Ct 52 133 [51],
  Mv 9 52]
def f123x7 : List AOper := [
  Mv 53 9,
  Bc 54 .eql 53 0,
  Mv 55 54,
  Gf 55 (Mv 56 9),
  Gf 55 (Mv 57 2),
  Gf 55 (Bi 58 .gtr 56 57),
  Po 59 55 58,
  Mv 60 59,
  Gf 60 (Mv 61 9),
  Gf 60 (Bc 62 .lss 61 0),
  Po 63 60 62,
  Mv 64 63,
  Gt 64 (Ct 65 129 []),
  Pa 66 64 65,
  Mv 6 66]
def f123 : AFunc := ⟨67, 3, false, [.t 6], (.seq (.region f123x0 false) (.seq (.seq (.region f123x1 true) (.cond (.t 14) (.seq (.region f123x2 false) .ret) .skip)) (.seq (.seq (.region f123x3 false) (.cond (.t 41) (.seq (.region f123x4 false) .ret) .skip)) (.seq (.region f123x5 false) (.seq (.region f123x6 false) (.seq (.region f123x7 false) .ret))))))⟩
def f124x0 : List AOper := [
  Mc 6 (.bool false)]
def f124x1 : List AOper := [
  Mv 20 0,
  Bc 21 .lss 20 0,
  Mv 22 21,
  Gf 22 (Mv 23 1),
  Gf 22 (Bc 24 .lss 23 0),
  Po 25 22 24,
  Mv 26 25,
  Gf 26 (Mv 27 0),
  Gf 26 (Bc 28 .gtr 27 65535),
  Po 29 26 28,
  Mv 30 29,
  Gf 30 (Mv 31 1),
  Gf 30 (Bc 32 .gtr 31 65535),
  Po 33 30 32,
  Mv 34 33,
  Gf 34 (Mv 35 0),
  Gf 34 (Bc 36 .gtr 35 0),
  Gf 34 (Mv 37 36),
  Gt 37 (Mv 38 0),
  Gt 37 (Bc 39 .lss 38 3),
  Gf 34 (Pa 40 37 39),
  Po 41 34 40,
  Mv 42 41,
  Gf 42 (Mv 43 1),
  Gf 42 (Bc 44 .gtr 43 0),
  Gf 42 (Mv 45 44),
  Gt 45 (Mv 46 1),
  Gt 45 (Bc 47 .lss 46 3),
  Gf 42 (Pa 48 45 47),
  Po 49 42 48,
  Mv 50 49,
  Gf 50 (Mv 51 2),
  Gf 50 (Bc 52 .lss 51 0),
  Po 53 50 52,
  Mv 54 53,
  Gf 54 (Mv 55 2),
  Gf 54 (Bc 56 .gtr 55 1099511626776),
  Po 57 54 56]
def f124x2 : List AOper := [
  Ct 58 129 [],
  Mv 6 58]
def f124x3 : List AOper := [
  Mv 60 0,
  Mv 61 1,
  Ct 62 136 [60, 61],
  Mv 59 62,
  Ex 63 59 0,
  Ex 64 59 1,
  Op 7 (.alloc (.agg [.int .i64 0, .int .i64 0, .int .u32 0, .int .u32 0, .con (.slice none 0 0), .con (.slice none 0 0), .con (.slice none 0 0), .con (.slice none 0 0), .con (.slice none 0 0), .con (.slice none 0 0), .int .i64 0, .int .i64 0, .int .i64 0, .int .i64 0, .int .i64 0])),
  Op 8 (.alloc (.agg [.int .i64 0, .int .i64 0, .int .u32 0, .int .u32 0, .con (.slice none 0 0), .con (.slice none 0 0), .con (.slice none 0 0), .con (.slice none 0 0), .con (.slice none 0 0), .con (.slice none 0 0), .int .i64 0, .int .i64 0, .int .i64 0, .int .i64 0, .int .i64 0])),
  St 15 7 63,
  St 15 8 64]
def f124x4 : List AOper := [
  Op 66 (.build [.int .i64 0, .int .i64 0, .int .i64 0, .int .i64 0, .int .i64 0, .int .u32 0, .int .i64 0, .bool false, .int .i64 0] [] []),
  Ls 67 15 7,
  Mv 68 2,
  Op 69 (.build [.int .i64 0, .int .i64 0, .int .i64 0, .int .i64 0, .int .u32 0, .con (.slice none 0 0), .con (.slice none 0 0), .int .i64 0, .con (.slice none 0 0), .int .u32 0, .bool false, .int .i64 0, .bool false, .int .i64 0, .bool false, .bool false, .int .i64 0, .int .u32 0, .con (.slice none 0 0), .bool false, .int .u32 0, .con (.slice none 0 0), .con (.slice none 0 0), .con (.slice none 0 0), .int .i64 0, .int .i64 0, .con (.slice none 0 0)] [] []),
  Ca 70 135 [(.t 66), (.t 67), (.c (.int .i64 0)), (.t 68), (.c (.int .i64 1)), (.t 69), (.c (.int .i64 0))],
  Mv 65 70,
  Ex 71 65 0,
  Ex 72 65 1,
  Op 9 (.alloc (.agg [.int .i64 0, .int .i64 0, .int .i64 0, .int .i64 0, .int .i64 0, .int .u32 0, .int .i64 0, .bool false, .int .i64 0])),
  St 9 9 71,
  Mv 10 72]
def f124x5 : List AOper := [
  Op 74 (.build [.int .i64 0, .int .i64 0, .int .i64 0, .int .i64 0, .int .i64 0, .int .u32 0, .int .i64 0, .bool false, .int .i64 0] [] []),
  Ls 75 15 8,
  Mv 76 2,
  Op 77 (.build [.int .i64 0, .int .i64 0, .int .i64 0, .int .i64 0, .int .u32 0, .con (.slice none 0 0), .con (.slice none 0 0), .int .i64 0, .con (.slice none 0 0), .int .u32 0, .bool false, .int .i64 0, .bool false, .int .i64 0, .bool false, .bool false, .int .i64 0, .int .u32 0, .con (.slice none 0 0), .bool false, .int .u32 0, .con (.slice none 0 0), .con (.slice none 0 0), .con (.slice none 0 0), .int .i64 0, .int .i64 0, .con (.slice none 0 0)] [] []),
  Ca 78 135 [(.t 74), (.t 75), (.c (.int .i64 0)), (.t 76), (.c (.int .i64 1)), (.t 77), (.c (.int .i64 0))],
  Mv 73 78,
  Ex 79 73 0,
  Ex 80 73 1,
  Op 11 (.alloc (.agg [.int .i64 0, .int .i64 0, .int .i64 0, .int .i64 0, .int .i64 0, .int .u32 0, .int .i64 0, .bool false, .int .i64 0])),
  St 9 11 79,
  Mv 12 80]
def f124x6 : List AOper := [
  Ls 82 9 9,
  Ls 83 15 7,
  Mv 84 2,
  Op 85 (.build [.int .i64 0, .int .i64 0, .int .i64 0, .int .i64 0, .int .u32 0, .con (.slice none 0 0), .con (.slice none 0 0), .int .i64 0, .con (.slice none 0 0), .int .u32 0, .bool false, .int .i64 0, .bool false, .int .i64 0, .bool false, .bool false, .int .i64 0, .int .u32 0, .con (.slice none 0 0), .bool false, .int .u32 0, .con (.slice none 0 0), .con (.slice none 0 0), .con (.slice none 0 0), .int .i64 0, .int .i64 0, .con (.slice none 0 0)] [] []),
  Ca 86 135 [(.t 82), (.t 83), (.c (.int .i64 0)), (.t 84), (.c (.int .i64 2)), (.t 85), (.c (.int .i64 0))],
  Mv 81 86,
  Ex 87 81 0,
  Ex 88 81 1,
  St 9 9 87,
  Mv 13 88]
def f124x7 : List AOper := [
  Ls 90 9 11,
  Ls 91 15 8,
  Mv 92 2,
  Op 93 (.build [.int .i64 0, .int .i64 0, .int .i64 0, .int .i64 0, .int .u32 0, .con (.slice none 0 0), .con (.slice none 0 0), .int .i64 0, .con (.slice none 0 0), .int .u32 0, .bool false, .int .i64 0, .bool false, .int .i64 0, .bool false, .bool false, .int .i64 0, .int .u32 0, .con (.slice none 0 0), .bool false, .int .u32 0, .con (.slice none 0 0), .con (.slice none 0 0), .con (.slice none 0 0), .int .i64 0, .int .i64 0, .con (.slice none 0 0)] [] []),
  Ca 94 135 [(.t 90), (.t 91), (.c (.int .i64 0)), (.t 92), (.c (.int .i64 2)), (.t 93), (.c (.int .i64 0))],
  Mv 89 94,
  Ex 95 89 0,
  Ex 96 89 1,
  St 9 11 95,
  Mv 14 96]
def f124x8 : List AOper := [
  Mc 97 (.int .i64 0)]
def f124x9 : List AOper := [
  Bc 98 .lss 97 4]
def f124x10 : List AOper := [
  Mv 100 14,
  Ls 101 9 9,
  Ls 102 15 7,
  Mv 103 2,
  Ct 104 137 [100, 101, 102, 103],
  Mv 99 104,
  Ex 105 99 0,
  Ex 106 99 1,
  Op 15 (.alloc (.agg [.int .i64 0, .int .i64 0, .int .i64 0, .int .i64 0, .int .i64 0, .int .u32 0, .int .i64 0, .bool false, .int .i64 0])),
  St 9 15 105,
  Mv 16 106]
def f124x11 : List AOper := [
  Mv 108 13,
  Ls 109 9 11,
  Ls 110 15 8,
  Mv 111 2,
  Ct 112 137 [108, 109, 110, 111],
  Mv 107 112,
  Ex 113 107 0,
  Ex 114 107 1,
  Op 17 (.alloc (.agg [.int .i64 0, .int .i64 0, .int .i64 0, .int .i64 0, .int .i64 0, .int .u32 0, .int .i64 0, .bool false, .int .i64 0])),
  St 9 17 113,
  Mv 18 114]
def f124x12 : List AOper := [
  Ls 115 9 15,
  St 9 9 115]
def f124x13 : List AOper := [
  Ls 116 9 17,
  St 9 11 116]
def f124x14 : List AOper := [
  Mv 117 16,
  Mv 13 117]
def f124x15 : List AOper := [
  Mv 118 18,
  Mv 14 118]
def f124x16 : List AOper := [
  Bc 119 .add 97 1,
  Mv 97 119]
def f124x17L : ACode := (.seq (.region f124x9 false) (.seq (.cond (.t 98) .skip (.exit 0)) (.seq (.block 1 (.seq (.region f124x10 false) (.seq (.region f124x11 false) (.seq (.region f124x12 false) (.seq (.region f124x13 false) (.seq (.region f124x14 false) (.region f124x15 false))))))) (.region f124x16 false))))
def f124x18 : List AOper := [
  Mv 120 0,
  Mv 121 1,
  Op 122 (.minmax false [(.t 120), (.t 121)]),
  Mv 19 122]
def f124x19 : List AOper := [
  Fa 123 0 9,
  Ld 124 123,
  Bc 125 .eql 124 4,
  Mv 126 125,
  Gt 126 (Fa 127 0 11),
  Gt 126 (Ld 128 127),
  Gt 126 (Bc 129 .eql 128 4),
  Pa 130 126 129,
  Mv 131 130,
  Gt 131 (Fa 132 4 9),
  Gt 131 (Ld 133 132),
  Gt 131 (Mv 134 19),
  Gt 131 (Bi 135 .eql 133 134),
  Pa 136 131 135,
  Mv 137 136,
  Gt 137 (Fa 138 4 11),
  Gt 137 (Ld 139 138),
  Gt 137 (Mv 140 19),
  Gt 137 (Bi 141 .eql 139 140),
  Pa 142 137 141,
  Mv 143 142,
  Gt 143 (Fa 144 5 9),
  Gt 143 (Ld 145 144),
  Gt 143 (Op 146 (.bin .eql (.t 145) (.c (.int .u32 2)))),
  Pa 147 143 146,
  Mv 148 147,
  Gt 148 (Fa 149 5 11),
  Gt 148 (Ld 150 149),
  Gt 148 (Op 151 (.bin .eql (.t 150) (.c (.int .u32 1)))),
  Pa 152 148 151,
  Mv 153 152,
  Gt 153 (Ct 154 129 []),
  Pa 155 153 154,
  Mv 6 155]
def f124 : AFunc := ⟨156, 3, false, [.t 6], (.seq (.region f124x0 false) (.seq (.seq (.region f124x1 false) (.cond (.t 57) (.seq (.region f124x2 false) .ret) .skip)) (.seq (.region f124x3 false) (.seq (.region f124x4 false) (.seq (.region f124x5 false) (.seq (.region f124x6 false) (.seq (.region f124x7 false) (.seq (.seq (.region f124x8 false) (.block 0 (.loop f124x17L))) (.seq (.region f124x18 false) (.seq (.region f124x19 false) .ret))))))))))⟩
def f125x0 : List AOper := [
  Op 3 (.box (.t 0)),
  Op 4 (.box (.t 1)),
  Op 5 (.box (.t 2)),
  Mc 6 (.bool false)]
def f125x1 : List AOper := [
  Fa 13 3 5,
  Ls 14 27 13,
  Ct 15 130 [14]]
def f125x2 : List AOper := [
  Ct 16 129 [],
  Mv 6 16]
def f125x3 : List AOper := [
  Ls 18 9 3,
  Ls 19 15 4,
  Fa 20 0 5,
  Ld 21 20,
  Fa 22 1 5,
  Ld 23 22,
  Fa 24 2 5,
  Ld 25 24,
  Fa 26 3 5,
  Ls 27 27 26,
  Fa 28 30 5,
  Ld 29 28,
  Ct 30 135 [18, 19, 21, 23, 25, 27, 29],
  Mv 17 30,
  Ex 31 17 0,
  Ex 32 17 1,
  Op 7 (.alloc (.agg [.int .i64 0, .int .i64 0, .int .i64 0, .int .i64 0, .int .i64 0, .int .u32 0, .int .i64 0, .bool false, .int .i64 0])),
  St 9 7 31,
  Mv 8 32]
def f125x4 : List AOper := [
  Mv 33 8,
  Ln 34 0 33,
  Mc 35 (.int .i64 0)]
def f125x5 : List AOper := [
  Bi 36 .lss 35 34]
def f125x6 : List AOper := [
  Ia 37 28 33 35,
  Ls 38 28 37,
  Op 10 (.alloc (.agg [.int .i64 0, .int .i64 0, .int .i64 0, .int .i64 0, .int .i64 0, .int .u32 0, .con (.slice none 0 0), .con (.slice none 0 0), .int .i64 0, .con (.slice none 0 0), .int .u32 0, .bool false, .int .i64 0, .bool false, .int .i64 0, .bool false, .bool false, .int .i64 0, .int .u32 0, .con (.slice none 0 0), .bool false, .int .u32 0, .con (.slice none 0 0), .con (.slice none 0 0), .con (.slice none 0 0), .int .i64 0, .int .i64 0, .con (.slice none 0 0)])),
  St 28 10 38]
def f125x7 : List AOper := [
  Fa 39 0 3,
  Ld 40 39,
  Bc 41 .eql 40 4,
  Fa 42 0 7,
  Ld 43 42,
  Bc 44 .eql 43 4,
  Mv 11 41,
  Mv 12 44]
def f125x8 : List AOper := [
  Fa 45 0 10,
  Ld 46 45]
def f125x9 : List AOper := [
  Bc 48 .eql 46 4,
  Mv 47 48]
def f125x10 : List AOper := [
  Mv 49 11,
  Mv 50 49,
  Gf 50 (Mv 51 12),
  Gf 50 (Un 52 .not 51),
  Po 53 50 52]
def f125x11 : List AOper := [
  Mc 6 (.bool false)]
def f125x12 : List AOper := [
  Bc 55 .eql 46 5,
  Mv 54 55]
def f125x13 : List AOper := [
  Bc 56 .eql 46 6,
  Mv 54 56]
def f125x14 : List AOper := [
  Mv 57 11,
  Un 58 .not 57,
  Mv 59 58,
  Gf 59 (Mv 60 12),
  Po 61 59 60]
def f125x15 : List AOper := [
  Mc 6 (.bool false)]
def f125x16 : List AOper := [
  Bc 63 .eql 46 8,
  Mv 62 63]
def f125x17 : List AOper := [
  Mv 64 11,
  Un 65 .not 64,
  Mv 66 65,
  Gf 66 (Mv 67 12),
  Gf 66 (Un 68 .not 67),
  Po 69 66 68]
def f125x18 : List AOper := [
  Mc 6 (.bool false)]
def f125x19 : List AOper := [
  Bc 70 .add 35 1,
  Mv 35 70]
def f125x20L : ACode := (.seq (.region f125x5 false) (.seq (.cond (.t 36) .skip (.exit 0)) (.seq (.block 1 (.seq (.region f125x6 false) (.seq (.region f125x7 true) (.seq (.region f125x8 false) (.block 2 (.seq (.region f125x9 false) (.cond (.t 47) (.seq (.region f125x10 false) (.cond (.t 53) (.seq (.region f125x11 false) .ret) .skip)) (.seq (.seq (.region f125x12 false) (.cond (.t 54) .skip (.region f125x13 false))) (.cond (.t 54) (.seq (.region f125x14 false) (.cond (.t 61) (.seq (.region f125x15 false) .ret) .skip)) (.seq (.region f125x16 false) (.cond (.t 62) (.seq (.region f125x17 false) (.cond (.t 69) (.seq (.region f125x18 false) .ret) .skip)) .skip))))))))))) (.region f125x19 false))))
def f125x21 : List AOper := [
  Ct 71 129 [],
  Mv 6 71]
def f125 : AFunc := ⟨72, 3, false, [.t 6], (.seq (.region f125x0 false) (.seq (.seq (.region f125x1 false) (.cond (.t 15) (.seq (.region f125x2 false) .ret) .skip)) (.seq (.region f125x3 false) (.seq (.seq (.region f125x4 false) (.block 0 (.loop f125x20L))) (.seq (.region f125x21 false) .ret)))))⟩
def f125x20LH : List AItem := [.inLoop f125x20L, .inBlock 0, .code (.seq (.region f125x21 false) .ret)]
def f126x0 : List AOper := [
  Op 2 (.box (.t 0)),
  Op 3 (.box (.t 1)),
  Mc 4 (.bool false)]
def f126x1 : List AOper := [
  Fa 5 0 2,
  Ld 6 5,
  Fa 7 0 3,
  Ld 8 7,
  Bi 9 .neq 6 8,
  Mv 10 9,
  Gf 10 (Fa 11 1 2),
  Gf 10 (Ld 12 11),
  Gf 10 (Fa 13 1 3),
  Gf 10 (Ld 14 13),
  Gf 10 (Bi 15 .neq 12 14),
  Po 16 10 15,
  Mv 17 16,
  Gf 17 (Fa 18 2 2),
  Gf 17 (Ld 19 18),
  Gf 17 (Fa 20 2 3),
  Gf 17 (Ld 21 20),
  Gf 17 (Bi 22 .neq 19 21),
  Po 23 17 22,
  Mv 24 23,
  Gf 24 (Fa 25 3 2),
  Gf 24 (Ld 26 25),
  Gf 24 (Fa 27 3 3),
  Gf 24 (Ld 28 27),
  Gf 24 (Bi 29 .neq 26 28),
  Po 30 24 29,
  Mv 31 30,
  Gf 31 (Fa 32 4 2),
  Gf 31 (Ld 33 32),
  Gf 31 (Fa 34 4 3),
  Gf 31 (Ld 35 34),
  Gf 31 (Bi 36 .neq 33 35),
  Po 37 31 36,
  Mv 38 37,
  Gf 38 (Fa 39 24 2),
  Gf 38 (Ld 40 39),
  Gf 38 (Fa 41 24 3),
  Gf 38 (Ld 42 41),
  Gf 38 (Bi 43 .neq 40 42),
  Po 44 38 43,
  Mv 45 44,
  Gf 45 (Fa 46 25 2),
  Gf 45 (Ld 47 46),
  Gf 45 (Fa 48 25 3),
  Gf 45 (Ld 49 48),
  Gf 45 (Bi 50 .neq 47 49),
  Po 51 45 50,
  Mv 52 51,
  Gf 52 (Fa 53 26 2),
  Gf 52 (Ld 54 53),
  Gf 52 (Op 55 (.b2s (.t 54))),
  Gf 52 (Fa 56 26 3),
  Gf 52 (Ld 57 56),
  Gf 52 (Op 58 (.b2s (.t 57))),
  Gf 52 (Bi 59 .neq 55 58),
  Po 60 52 59]
def f126x2 : List AOper := [
  Mc 4 (.bool false)]
def f126x3 : List AOper := [
  Fa 61 5 2,
  Ld 62 61,
  Fa 63 5 3,
  Ld 64 63,
  Ct 65 138 [62, 64],
  Mv 66 65,
  Gt 66 (Fa 67 6 2),
  Gt 66 (Ld 68 67),
  Gt 66 (Fa 69 6 3),
  Gt 66 (Ld 70 69),
  Gt 66 (Ct 71 139 [68, 70]),
  Pa 72 66 71,
  Mv 73 72,
  Gt 73 (Fa 74 23 2),
  Gt 73 (Ld 75 74),
  Gt 73 (Fa 76 23 3),
  Gt 73 (Ld 77 76),
  Gt 73 (Ct 78 139 [75, 77]),
  Pa 79 73 78,
  Mv 80 79,
  Gt 80 (Fa 81 7 2),
  Gt 80 (Ls 82 16 81),
  Gt 80 (Fa 83 7 3),
  Gt 80 (Ls 84 16 83),
  Gt 80 (Ct 85 70 [82, 84]),
  Pa 86 80 85,
  Mv 4 86]
def f126 : AFunc := ⟨87, 2, false, [.t 4], (.seq (.region f126x0 false) (.seq (.seq (.region f126x1 false) (.cond (.t 60) (.seq (.region f126x2 false) .ret) .skip)) (.seq (.region f126x3 false) .ret)))⟩
def f127x0 : List AOper := [
  Op 2 (.box (.t 0)),
  Op 4 (.alloc (.agg [.int .i64 0, .int .i64 0, .int .i64 0, .int .i64 0, .int .u32 0, .con (.slice none 0 0), .con (.slice none 0 0), .int .i64 0, .con (.slice none 0 0), .int .u32 0, .bool false, .int .i64 0, .bool false, .int .i64 0, .bool false, .bool false, .int .i64 0, .int .u32 0, .con (.slice none 0 0), .bool false, .int .u32 0, .con (.slice none 0 0), .con (.slice none 0 0), .con (.slice none 0 0), .int .i64 0, .int .i64 0, .con (.slice none 0 0)]))]
def f127x1 : List AOper := [
  Ls 8 15 2,
  Mv 9 1,
  Ct 10 140 [8, 9],
  Un 11 .not 10]
def f127x2 : List AOper := [
  Op 12 (.build [.int .i64 0, .int .i64 0, .int .i64 0, .int .i64 0, .int .u32 0, .con (.slice none 0 0), .con (.slice none 0 0), .int .i64 0, .con (.slice none 0 0), .int .u32 0, .bool false, .int .i64 0, .bool false, .int .i64 0, .bool false, .bool false, .int .i64 0, .int .u32 0, .con (.slice none 0 0), .bool false, .int .u32 0, .con (.slice none 0 0), .con (.slice none 0 0), .con (.slice none 0 0), .int .i64 0, .int .i64 0, .con (.slice none 0 0)] [] []),
  St 27 4 12]
def f127x3 : List AOper := [
  Fa 13 4 2,
  Ld 14 13,
  Mv 15 1,
  Ia 16 11 14 15,
  Ls 17 11 16,
  Op 5 (.alloc (.agg [.int .i64 0, .int .i64 0, .int .u32 0, .int .u32 0, .bool false, .int .i64 0, .int .i64 0, .str [], .str [], .bool false, .bool false])),
  St 11 5 17]
def f127x4 : List AOper := [
  Ls 18 15 2,
  Ls 19 11 5,
  Ct 20 141 [18, 19],
  Mv 6 20]
def f127x5 : List AOper := [
  Mv 21 6,
  Fa 22 5 5,
  Ld 23 22,
  Fa 24 2 2,
  Ld 25 24,
  Op 26 (.build [.int .i64 0, .int .i64 0, .int .i64 0, .int .i64 0, .int .u32 0, .con (.slice none 0 0), .con (.slice none 0 0), .int .i64 0, .con (.slice none 0 0), .int .u32 0, .bool false, .int .i64 0, .bool false, .int .i64 0, .bool false, .bool false, .int .i64 0, .int .u32 0, .con (.slice none 0 0), .bool false, .int .u32 0, .con (.slice none 0 0), .con (.slice none 0 0), .con (.slice none 0 0), .int .i64 0, .int .i64 0, .con (.slice none 0 0)] [(0, 1), (1, 1), (2, 1), (3, 1), (4, 1)] [(.c (.int .i64 1)), (.c (.int .i64 4)), (.t 21), (.t 23), (.t 25)]),
  Op 7 (.alloc (.agg [.int .i64 0, .int .i64 0, .int .i64 0, .int .i64 0, .int .u32 0, .con (.slice none 0 0), .con (.slice none 0 0), .int .i64 0, .con (.slice none 0 0), .int .u32 0, .bool false, .int .i64 0, .bool false, .int .i64 0, .bool false, .bool false, .int .i64 0, .int .u32 0, .con (.slice none 0 0), .bool false, .int .u32 0, .con (.slice none 0 0), .con (.slice none 0 0), .con (.slice none 0 0), .int .i64 0, .int .i64 0, .con (.slice none 0 0)])),
  St 27 7 26]
def f127x6 : List AOper := [
  Fa 27 5 7,
  Ld 28 27,
  Op 29 (.build [.int .i64 0, .con (.slice none 0 0)] [(0, 1)] [(.c (.int .i64 2))]),
  Op 30 (.bsl 2 [.int .i64 0, .con (.slice none 0 0)] 1 [0] [(.t 29)]),
  Ap 31 2 32 28 30,
  Fa 32 5 7,
  St 1 32 31]
def f127x7 : List AOper := [
  Fa 33 6 5,
  Ld 34 33,
  Bc 35 .gtr 34 0]
def f127x8 : List AOper := [
  Fa 36 5 7,
  Ld 37 36,
  Fa 38 6 5,
  Ld 39 38,
  Cv 40 .u64 39,
  Af [3] (Ca 41 109 [(.c (.con (.slice none 0 0))), (.c (.int .i64 2)), (.t 40)]),
  Op 42 (.build [.int .i64 0, .con (.slice none 0 0)] [(0, 1), (1, 1)] [(.c (.int .i64 64)), (.t 41)]),
  Af [5, 3] (Op 43 (.bsl 2 [.int .i64 0, .con (.slice none 0 0)] 1 [0] [(.t 42)])),
  Af [1, 7, 5, 3] (Ap 44 2 32 37 43),
  Fa 45 5 7,
  Af [8, 1, 7, 5, 3] (St 1 45 44)]
def f127x9 : List AOper := [
  Fa 46 5 7,
  Ld 47 46,
  Mv 48 6,
  Cv 49 .u64 48,
  Ca 50 109 [(.c (.con (.slice none 0 0))), (.c (.int .i64 4)), (.t 49)],
  Op 51 (.build [.int .i64 0, .con (.slice none 0 0)] [(0, 1), (1, 1)] [(.c (.int .i64 65)), (.t 50)]),
  Af [4] (Op 52 (.bsl 2 [.int .i64 0, .con (.slice none 0 0)] 1 [0] [(.t 51)])),
  Af [1, 6, 4] (Ap 53 2 32 47 52),
  Fa 54 5 7,
  Af [7, 1, 6, 4] (St 1 54 53)]
def f127x10 : List AOper := [
  Ls 55 27 7,
  St 27 4 55]
def f127 : AFunc := ⟨56, 2, false, [.cell 4 (some 27)], (.seq (.region f127x0 false) (.seq (.seq (.region f127x1 false) (.cond (.t 11) (.seq (.region f127x2 false) .ret) .skip)) (.seq (.region f127x3 false) (.seq (.region f127x4 false) (.seq (.region f127x5 false) (.seq (.region f127x6 false) (.seq (.seq (.region f127x7 false) (.cond (.t 35) (.region f127x8 true) .skip)) (.seq (.region f127x9 true) (.seq (.region f127x10 false) .ret)))))))))⟩
def f128x0 : List AOper := [
  Op 2 (.box (.t 0)),
  Op 4 (.alloc (.agg [.int .i64 0, .int .i64 0, .int .i64 0, .int .i64 0, .int .u32 0, .con (.slice none 0 0), .con (.slice none 0 0), .int .i64 0, .con (.slice none 0 0), .int .u32 0, .bool false, .int .i64 0, .bool false, .int .i64 0, .bool false, .bool false, .int .i64 0, .int .u32 0, .con (.slice none 0 0), .bool false, .int .u32 0, .con (.slice none 0 0), .con (.slice none 0 0), .con (.slice none 0 0), .int .i64 0, .int .i64 0, .con (.slice none 0 0)]))]
def f128x1 : List AOper := [
  Ls 7 15 2,
  Mv 8 1,
  Ct 9 142 [7, 8],
  Un 10 .not 9]
def f128x2 : List AOper := [
  Op 11 (.build [.int .i64 0, .int .i64 0, .int .i64 0, .int .i64 0, .int .u32 0, .con (.slice none 0 0), .con (.slice none 0 0), .int .i64 0, .con (.slice none 0 0), .int .u32 0, .bool false, .int .i64 0, .bool false, .int .i64 0, .bool false, .bool false, .int .i64 0, .int .u32 0, .con (.slice none 0 0), .bool false, .int .u32 0, .con (.slice none 0 0), .con (.slice none 0 0), .con (.slice none 0 0), .int .i64 0, .int .i64 0, .con (.slice none 0 0)] [] []),
  St 27 4 11]
def f128x3 : List AOper := [
  Fa 12 4 2,
  Ld 13 12,
  Mv 14 1,
  Ia 15 11 13 14,
  Ls 16 11 15,
  Op 5 (.alloc (.agg [.int .i64 0, .int .i64 0, .int .u32 0, .int .u32 0, .bool false, .int .i64 0, .int .i64 0, .str [], .str [], .bool false, .bool false])),
  St 11 5 16]
def f128x4 : List AOper := [
  Ls 17 15 2,
  Mv 18 1,
  Af [0] (Ct 19 143 [17, 18]),
  Fa 20 5 5,
  Ld 21 20,
  Fa 22 2 2,
  Ld 23 22,
  Op 24 (.build [.int .i64 0, .int .i64 0, .int .i64 0, .int .i64 0, .int .u32 0, .con (.slice none 0 0), .con (.slice none 0 0), .int .i64 0, .con (.slice none 0 0), .int .u32 0, .bool false, .int .i64 0, .bool false, .int .i64 0, .bool false, .bool false, .int .i64 0, .int .u32 0, .con (.slice none 0 0), .bool false, .int .u32 0, .con (.slice none 0 0), .con (.slice none 0 0), .con (.slice none 0 0), .int .i64 0, .int .i64 0, .con (.slice none 0 0)] [(0, 1), (1, 1), (2, 1), (3, 1), (4, 1)] [(.c (.int .i64 1)), (.c (.int .i64 4)), (.t 19), (.t 21), (.t 23)]),
  Op 6 (.alloc (.agg [.int .i64 0, .int .i64 0, .int .i64 0, .int .i64 0, .int .u32 0, .con (.slice none 0 0), .con (.slice none 0 0), .int .i64 0, .con (.slice none 0 0), .int .u32 0, .bool false, .int .i64 0, .bool false, .int .i64 0, .bool false, .bool false, .int .i64 0, .int .u32 0, .con (.slice none 0 0), .bool false, .int .u32 0, .con (.slice none 0 0), .con (.slice none 0 0), .con (.slice none 0 0), .int .i64 0, .int .i64 0, .con (.slice none 0 0)])),
  Af [8, 2, 4, 6, 0] (St 27 6 24)]
def f128x5 : List AOper := [
  Fa 25 5 6,
  Ld 26 25,
  Op 27 (.build [.int .i64 0, .con (.slice none 0 0)] [(0, 1)] [(.c (.int .i64 2))]),
  Op 28 (.bsl 2 [.int .i64 0, .con (.slice none 0 0)] 1 [0] [(.t 27)]),
  Ap 29 2 32 26 28,
  Fa 30 5 6,
  St 1 30 29]
def f128x6 : List AOper := [
  Fa 31 6 5,
  Ld 32 31,
  Bc 33 .gtr 32 0]
def f128x7 : List AOper := [
  Fa 34 5 6,
  Ld 35 34,
  Fa 36 6 5,
  Ld 37 36,
  Cv 38 .u64 37,
  Af [3] (Ca 39 91 [(.c (.con (.slice none 0 0))), (.c (.int .i64 2)), (.t 38)]),
  Op 40 (.build [.int .i64 0, .con (.slice none 0 0)] [(0, 1), (1, 1)] [(.c (.int .i64 64)), (.t 39)]),
  Af [5, 3] (Op 41 (.bsl 2 [.int .i64 0, .con (.slice none 0 0)] 1 [0] [(.t 40)])),
  Af [1, 7, 5, 3] (Ap 42 2 32 35 41),
  Fa 43 5 6,
  Af [8, 1, 7, 5, 3] (St 1 43 42)]
def f128x8 : List AOper := [
  Fa 44 5 6,
  Ld 45 44,
  Fa 46 2 6,
  Ld 47 46,
  Cv 48 .u64 47,
  Af [3] (Ca 49 91 [(.c (.con (.slice none 0 0))), (.c (.int .i64 4)), (.t 48)]),
  Op 50 (.build [.int .i64 0, .con (.slice none 0 0)] [(0, 1), (1, 1)] [(.c (.int .i64 65)), (.t 49)]),
  Af [5, 3] (Op 51 (.bsl 2 [.int .i64 0, .con (.slice none 0 0)] 1 [0] [(.t 50)])),
  Af [1, 7, 5, 3] (Ap 52 2 32 45 51),
  Fa 53 5 6,
  Af [8, 1, 7, 5, 3] (St 1 53 52)]
def f128x9 : List AOper := [
  Ls 54 27 6,
  St 27 4 54]
def f128 : AFunc := ⟨55, 2, false, [.cell 4 (some 27)], (.seq (.region f128x0 false) (.seq (.seq (.region f128x1 false) (.cond (.t 10) (.seq (.region f128x2 false) .ret) .skip)) (.seq (.region f128x3 false) (.seq (.region f128x4 true) (.seq (.region f128x5 false) (.seq (.seq (.region f128x6 false) (.cond (.t 33) (.region f128x7 true) .skip)) (.seq (.region f128x8 true) (.seq (.region f128x9 false) .ret))))))))⟩
def f129x0 : List AOper := [
  Mc 0 (.bool false)]
def f129x1 : List AOper := [
  Ca 20 136 [(.c (.int .i64 90)), (.c (.int .i64 30))],
  Mv 19 20,
  Ex 21 19 0,
  Ex 22 19 1,
  Op 1 (.alloc (.agg [.int .i64 0, .int .i64 0, .int .u32 0, .int .u32 0, .con (.slice none 0 0), .con (.slice none 0 0), .con (.slice none 0 0), .con (.slice none 0 0), .con (.slice none 0 0), .con (.slice none 0 0), .int .i64 0, .int .i64 0, .int .i64 0, .int .i64 0, .int .i64 0])),
  Op 2 (.alloc (.agg [.int .i64 0, .int .i64 0, .int .u32 0, .int .u32 0, .con (.slice none 0 0), .con (.slice none 0 0), .con (.slice none 0 0), .con (.slice none 0 0), .con (.slice none 0 0), .con (.slice none 0 0), .int .i64 0, .int .i64 0, .int .i64 0, .int .i64 0, .int .i64 0])),
  St 15 1 21,
  St 15 2 22]
def f129x2 : List AOper := [
  Op 24 (.build [.int .i64 0, .int .i64 0, .int .i64 0, .int .i64 0, .int .i64 0, .int .u32 0, .int .i64 0, .bool false, .int .i64 0] [] []),
  Ls 25 15 1,
  Op 26 (.build [.int .i64 0, .int .i64 0, .int .i64 0, .int .i64 0, .int .u32 0, .con (.slice none 0 0), .con (.slice none 0 0), .int .i64 0, .con (.slice none 0 0), .int .u32 0, .bool false, .int .i64 0, .bool false, .int .i64 0, .bool false, .bool false, .int .i64 0, .int .u32 0, .con (.slice none 0 0), .bool false, .int .u32 0, .con (.slice none 0 0), .con (.slice none 0 0), .con (.slice none 0 0), .int .i64 0, .int .i64 0, .con (.slice none 0 0)] [] []),
  Ca 27 135 [(.t 24), (.t 25), (.c (.int .i64 0)), (.c (.int .i64 100)), (.c (.int .i64 1)), (.t 26), (.c (.int .i64 0))],
  Mv 23 27,
  Ex 28 23 0,
  Ex 29 23 1,
  Op 3 (.alloc (.agg [.int .i64 0, .int .i64 0, .int .i64 0, .int .i64 0, .int .i64 0, .int .u32 0, .int .i64 0, .bool false, .int .i64 0])),
  St 9 3 28,
  Mv 4 29]
def f129x3 : List AOper := [
  Ls 31 9 3,
  Ls 32 15 1,
  Op 33 (.build [.int .i64 0, .int .i64 0, .int .i64 0, .int .i64 0, .int .u32 0, .con (.slice none 0 0), .con (.slice none 0 0), .int .i64 0, .con (.slice none 0 0), .int .u32 0, .bool false, .int .i64 0, .bool false, .int .i64 0, .bool false, .bool false, .int .i64 0, .int .u32 0, .con (.slice none 0 0), .bool false, .int .u32 0, .con (.slice none 0 0), .con (.slice none 0 0), .con (.slice none 0 0), .int .i64 0, .int .i64 0, .con (.slice none 0 0)] [] []),
  Ca 34 135 [(.t 31), (.t 32), (.c (.int .i64 0)), (.c (.int .i64 100)), (.c (.int .i64 2)), (.t 33), (.c (.int .i64 0))],
  Mv 30 34,
  Ex 35 30 0,
  Ex 36 30 1,
  Op 5 (.alloc (.agg [.int .i64 0, .int .i64 0, .int .i64 0, .int .i64 0, .int .i64 0, .int .u32 0, .int .i64 0, .bool false, .int .i64 0])),
  St 9 5 35,
  Mv 6 36]
def f129x4 : List AOper := [
  Ls 38 9 5,
  Ls 39 15 1,
  Ls 40 15 2,
  Af [2] (Ca 41 127 [(.t 40), (.c (.int .i64 0))]),
  Af [0, 1, 3, 2] (Ca 42 135 [(.t 38), (.t 39), (.c (.int .i64 0)), (.c (.int .i64 101)), (.c (.int .i64 4)), (.t 41), (.c (.int .i64 0))]),
  Mv 37 42,
  Ex 43 37 0,
  Ex 44 37 1,
  Op 7 (.alloc (.agg [.int .i64 0, .int .i64 0, .int .i64 0, .int .i64 0, .int .i64 0, .int .u32 0, .int .i64 0, .bool false, .int .i64 0])),
  Af [8, 4, 0, 1, 3, 2] (St 9 7 43),
  Mv 8 44]
def f129x5 : List AOper := [
  Ls 46 9 7,
  Ls 47 15 1,
  Op 48 (.build [.int .i64 0, .int .i64 0, .int .i64 0, .int .i64 0, .int .u32 0, .con (.slice none 0 0), .con (.slice none 0 0), .int .i64 0, .con (.slice none 0 0), .int .u32 0, .bool false, .int .i64 0, .bool false, .int .i64 0, .bool false, .bool false, .int .i64 0, .int .u32 0, .con (.slice none 0 0), .bool false, .int .u32 0, .con (.slice none 0 0), .con (.slice none 0 0), .con (.slice none 0 0), .int .i64 0, .int .i64 0, .con (.slice none 0 0)] [(0, 1)] [(.c (.int .i64 4))]),
  Ca 49 135 [(.t 46), (.t 47), (.c (.int .i64 0)), (.c (.int .i64 102)), (.c (.int .i64 4)), (.t 48), (.c (.int .i64 0))],
  Mv 45 49,
  Ex 50 45 0,
  Ex 51 45 1,
  Op 9 (.alloc (.agg [.int .i64 0, .int .i64 0, .int .i64 0, .int .i64 0, .int .i64 0, .int .u32 0, .int .i64 0, .bool false, .int .i64 0])),
  St 9 9 50,
  Mv 10 51]
def f129x6 : List AOper := [
  Ls 53 9 5,
  Ls 54 15 1,
  Op 55 (.build [.int .i64 0, .int .i64 0, .int .i64 0, .int .i64 0, .int .u32 0, .con (.slice none 0 0), .con (.slice none 0 0), .int .i64 0, .con (.slice none 0 0), .int .u32 0, .bool false, .int .i64 0, .bool false, .int .i64 0, .bool false, .bool false, .int .i64 0, .int .u32 0, .con (.slice none 0 0), .bool false, .int .u32 0, .con (.slice none 0 0), .con (.slice none 0 0), .con (.slice none 0 0), .int .i64 0, .int .i64 0, .con (.slice none 0 0)] [] []),
  Ca 56 135 [(.t 53), (.t 54), (.c (.int .i64 0)), (.c (.int .i64 340)), (.c (.int .i64 5)), (.t 55), (.c (.int .i64 0))],
  Mv 52 56,
  Ex 57 52 0,
  Ex 58 52 1,
  Op 11 (.alloc (.agg [.int .i64 0, .int .i64 0, .int .i64 0, .int .i64 0, .int .i64 0, .int .u32 0, .int .i64 0, .bool false, .int .i64 0])),
  St 9 11 57,
  Mv 12 58]
def f129x7 : List AOper := [
  Mv 59 4,
  Ln 60 0 59,
  Bc 61 .neq 60 1,
  Mv 62 61,
  Gf 62 (Mv 63 4),
  Gf 62 (Op 64 (.iadr 28 (.t 63) (.c (.int .i64 0)))),
  Gf 62 (Fa 65 0 64),
  Gf 62 (Ld 66 65),
  Gf 62 (Bc 67 .neq 66 1),
  Po 68 62 67,
  Mv 69 68,
  Gf 69 (Mv 70 6),
  Gf 69 (Ln 71 0 70),
  Gf 69 (Bc 72 .neq 71 1),
  Po 73 69 72,
  Mv 74 73,
  Gf 74 (Mv 75 6),
  Gf 74 (Op 76 (.iadr 28 (.t 75) (.c (.int .i64 0)))),
  Gf 74 (Fa 77 0 76),
  Gf 74 (Ld 78 77),
  Gf 74 (Bc 79 .neq 78 3),
  Po 80 74 79,
  Mv 81 80,
  Gf 81 (Mv 82 8),
  Gf 81 (Ln 83 0 82),
  Gf 81 (Bc 84 .neq 83 1),
  Po 85 81 84,
  Mv 86 85,
  Gf 86 (Mv 87 10),
  Gf 86 (Ln 88 0 87),
  Gf 86 (Bc 89 .neq 88 1),
  Po 90 86 89,
  Mv 91 90,
  Gf 91 (Mv 92 10),
  Gf 91 (Op 93 (.iadr 28 (.t 92) (.c (.int .i64 0)))),
  Gf 91 (Fa 94 0 93),
  Gf 91 (Ld 95 94),
  Gf 91 (Bc 96 .neq 95 4),
  Po 97 91 96,
  Mv 98 97,
  Gf 98 (Mv 99 12),
  Gf 98 (Ln 100 0 99),
  Gf 98 (Bc 101 .neq 100 2),
  Po 102 98 101,
  Mv 103 102,
  Gf 103 (Mv 104 12),
  Gf 103 (Op 105 (.iadr 28 (.t 104) (.c (.int .i64 0)))),
  Gf 103 (Fa 106 1 105),
  Gf 103 (Fa 107 24 106),
  Gf 103 (Ld 108 107),
  Gf 103 (Bc 109 .neq 108 4),
  Po 110 103 109]
def f129x8 : List AOper := [
  Mc 0 (.bool false)]
def f129x9 : List AOper := [
  Ls 112 15 1,
  Ls 113 15 2,
  Af [1] (Ca 114 127 [(.t 113), (.c (.int .i64 0))]),
  Af [0, 2, 1] (Ca 115 131 [(.t 112), (.c (.int .i64 0)), (.t 114)]),
  Mv 111 115,
  Ex 116 111 0,
  Ex 117 111 1,
  Ex 118 111 2,
  Op 13 (.alloc (.agg [.int .i64 0, .int .i64 0, .int .i64 0, .int .i64 0, .int .i64 0, .int .u32 0, .int .i64 0, .bool false, .int .i64 0])),
  Op 14 (.alloc (.agg [.int .i64 0, .int .i64 0, .int .i64 0, .int .i64 0, .int .u32 0, .con (.slice none 0 0), .con (.slice none 0 0), .int .i64 0, .con (.slice none 0 0), .int .u32 0, .bool false, .int .i64 0, .bool false, .int .i64 0, .bool false, .bool false, .int .i64 0, .int .u32 0, .con (.slice none 0 0), .bool false, .int .u32 0, .con (.slice none 0 0), .con (.slice none 0 0), .con (.slice none 0 0), .int .i64 0, .int .i64 0, .con (.slice none 0 0)])),
  Af [8, 9, 3, 0, 2, 1] (St 9 13 116),
  Af [10, 8, 9, 3, 0, 2, 1] (St 27 14 117),
  Mv 15 118]
def f129x10 : List AOper := [
  Ls 120 15 1,
  Ls 121 15 1,
  Af [1] (Ca 122 127 [(.t 121), (.c (.int .i64 0))]),
  Af [0, 2, 1] (Ca 123 131 [(.t 120), (.c (.int .i64 0)), (.t 122)]),
  Mv 119 123,
  Ex 124 119 0,
  Ex 125 119 1,
  Ex 126 119 2,
  Op 16 (.alloc (.agg [.int .i64 0, .int .i64 0, .int .i64 0, .int .i64 0, .int .i64 0, .int .u32 0, .int .i64 0, .bool false, .int .i64 0])),
  Op 17 (.alloc (.agg [.int .i64 0, .int .i64 0, .int .i64 0, .int .i64 0, .int .u32 0, .con (.slice none 0 0), .con (.slice none 0 0), .int .i64 0, .con (.slice none 0 0), .int .u32 0, .bool false, .int .i64 0, .bool false, .int .i64 0, .bool false, .bool false, .int .i64 0, .int .u32 0, .con (.slice none 0 0), .bool false, .int .u32 0, .con (.slice none 0 0), .con (.slice none 0 0), .con (.slice none 0 0), .int .i64 0, .int .i64 0, .con (.slice none 0 0)])),
  Af [8, 9, 3, 0, 2, 1] (St 9 16 124),
  Af [10, 8, 9, 3, 0, 2, 1] (St 27 17 125),
  Mv 18 126]
def f129x11 : List AOper := [
  Fa 127 2 5,
  Ld 128 127,
  Bc 129 .eql 128 340,
  Mv 130 129,
  Gt 130 (Fa 131 4 7),
  Gt 130 (Ld 132 131),
  Gt 130 (Bc 133 .eql 132 30),
  Pa 134 130 133,
  Mv 135 134,
  Gt 135 (Fa 136 3 7),
  Gt 135 (Ld 137 136),
  Gt 135 (Bc 138 .eql 137 111),
  Pa 139 135 138,
  Mv 140 139,
  Gt 140 (Fa 141 0 9),
  Gt 140 (Ld 142 141),
  Gt 140 (Bc 143 .eql 142 4),
  Pa 144 140 143,
  Mv 145 144,
  Gt 145 (Fa 146 2 9),
  Gt 145 (Ld 147 146),
  Gt 145 (Bc 148 .eql 147 132),
  Pa 149 145 148,
  Mv 150 149,
  Gt 150 (Fa 151 0 11),
  Gt 150 (Ld 152 151),
  Gt 150 (Bc 153 .eql 152 1),
  Pa 154 150 153,
  Mv 155 154,
  Gt 155 (Mv 156 15),
  Gt 155 (Bc 157 .eql 156 0),
  Pa 158 155 157,
  Mv 159 158,
  Gt 159 (Fa 160 4 13),
  Gt 159 (Ld 161 160),
  Gt 159 (Bc 162 .eql 161 30),
  Pa 163 159 162,
  Mv 164 163,
  Gt 164 (Mv 165 18),
  Gt 164 (Bc 166 .eql 165 14),
  Pa 167 164 166,
  Mv 168 167,
  Gt 168 (Fa 169 25 17),
  Gt 168 (Ld 170 169),
  Gt 168 (Bc 171 .eql 170 2),
  Pa 172 168 171,
  Mv 173 172,
  Gt 173 (Ls 174 9 9),
  Gt 173 (Ct 175 133 [174]),
  Gt 173 (Bc 176 .eql 175 111),
  Pa 177 173 176,
  Mv 0 177]
def f129 : AFunc := ⟨178, 0, false, [.t 0], (.seq (.region f129x0 false) (.seq (.region f129x1 false) (.seq (.region f129x2 false) (.seq (.region f129x3 false) (.seq (.region f129x4 true) (.seq (.region f129x5 false) (.seq (.region f129x6 false) (.seq (.seq (.region f129x7 false) (.cond (.t 110) (.seq (.region f129x8 false) .ret) .skip)) (.seq (.region f129x9 true) (.seq (.region f129x10 true) (.seq (.region f129x11 false) .ret)))))))))))⟩
def f130x0 : List AOper := [
  Op 1 (.box (.t 0)),
  Mc 2 (.bool false)]
def f130x1 : List AOper := [
  Fa 3 7 1,
  Ls 4 16 3,
  Ct 5 21 [4],
  Mv 6 5,
  Gf 6 (Fa 7 6 1),
  Gf 6 (Ld 8 7),
  Gf 6 (Ln 9 0 8),
  Gf 6 (Bc 10 .gtr 9 30000),
  Po 11 6 10,
  Mv 12 11,
  Gf 12 (Fa 13 23 1),
  Gf 12 (Ld 14 13),
  Gf 12 (Ln 15 0 14),
  Gf 12 (Bc 16 .gtr 15 30000),
  Po 17 12 16,
  Mv 18 17,
  Gf 18 (Fa 19 5 1),
  Gf 18 (Ld 20 19),
  Gf 18 (Ln 21 0 20),
  Gf 18 (Bc 22 .gtr 21 400),
  Po 23 18 22,
  Mv 24 23,
  Gf 24 (Fa 25 26 1),
  Gf 24 (Ld 26 25),
  Gf 24 (Ln 27 0 26),
  Gf 24 (Bc 28 .gtr 27 70000),
  Po 29 24 28,
  Mv 2 29]
def f130 : AFunc := ⟨30, 1, false, [.t 2], (.seq (.region f130x0 false) (.seq (.region f130x1 false) .ret))⟩
def f131x0 : List AOper := [
  Op 3 (.box (.t 0)),
  Op 5 (.box (.t 2)),
  Op 6 (.alloc (.agg [.int .i64 0, .int .i64 0, .int .i64 0, .int .i64 0, .int .i64 0, .int .u32 0, .int .i64 0, .bool false, .int .i64 0])),
  Op 7 (.alloc (.agg [.int .i64 0, .int .i64 0, .int .i64 0, .int .i64 0, .int .u32 0, .con (.slice none 0 0), .con (.slice none 0 0), .int .i64 0, .con (.slice none 0 0), .int .u32 0, .bool false, .int .i64 0, .bool false, .int .i64 0, .bool false, .bool false, .int .i64 0, .int .u32 0, .con (.slice none 0 0), .bool false, .int .u32 0, .con (.slice none 0 0), .con (.slice none 0 0), .con (.slice none 0 0), .int .i64 0, .int .i64 0, .con (.slice none 0 0)])),
  Mc 8 (.int .i64 0)]
def f131x1 : List AOper := [
  Ls 17 15 3,
  Mv 18 1,
  Ct 19 140 [17, 18],
  Un 20 .not 19]
def f131x2 : List AOper := [
  Op 21 (.build [.int .i64 0, .int .i64 0, .int .i64 0, .int .i64 0, .int .i64 0, .int .u32 0, .int .i64 0, .bool false, .int .i64 0] [] []),
  Op 22 (.build [.int .i64 0, .int .i64 0, .int .i64 0, .int .i64 0, .int .u32 0, .con (.slice none 0 0), .con (.slice none 0 0), .int .i64 0, .con (.slice none 0 0), .int .u32 0, .bool false, .int .i64 0, .bool false, .int .i64 0, .bool false, .bool false, .int .i64 0, .int .u32 0, .con (.slice none 0 0), .bool false, .int .u32 0, .con (.slice none 0 0), .con (.slice none 0 0), .con (.slice none 0 0), .int .i64 0, .int .i64 0, .con (.slice none 0 0)] [] []),
  St 9 6 21,
  St 27 7 22,
  Mc 8 (.int .i64 5)]
def f131x3 : List AOper := [
  Fa 23 4 3,
  Ld 24 23,
  Mv 25 1,
  Ia 26 11 24 25,
  Ls 27 11 26,
  Op 9 (.alloc (.agg [.int .i64 0, .int .i64 0, .int .u32 0, .int .u32 0, .bool false, .int .i64 0, .int .i64 0, .str [], .str [], .bool false, .bool false])),
  St 11 9 27]
def f131x4 : List AOper := [
  Fa 28 0 5,
  Ld 29 28,
  Bc 30 .neq 29 1,
  Mv 31 30,
  Gf 31 (Ls 32 27 5),
  Gf 31 (Ct 33 144 [32]),
  Gf 31 (Bc 34 .neq 33 0),
  Po 35 31 34]
def f131x5 : List AOper := [
  Op 36 (.build [.int .i64 0, .int .i64 0, .int .i64 0, .int .i64 0, .int .i64 0, .int .u32 0, .int .i64 0, .bool false, .int .i64 0] [] []),
  Ca 37 145 [(.c (.int .i64 2)), (.c (.int .i64 0))],
  St 9 6 36,
  St 27 7 37,
  Mc 8 (.int .i64 15)]
def f131x6 : List AOper := [
  Fa 38 2 5,
  Ld 39 38,
  Fa 40 1 9,
  Ld 41 40,
  Bi 42 .neq 39 41]
def f131x7 : List AOper := [
  Op 43 (.build [.int .i64 0, .int .i64 0, .int .i64 0, .int .i64 0, .int .i64 0, .int .u32 0, .int .i64 0, .bool false, .int .i64 0] [] []),
  Ca 44 145 [(.c (.int .i64 2)), (.c (.int .i64 2))],
  St 9 6 43,
  St 27 7 44,
  Mc 8 (.int .i64 14)]
def f131x8 : List AOper := [
  Fa 45 4 5,
  Ld 46 45,
  Fa 47 2 3,
  Ld 48 47,
  Bi 49 .eql 46 48]
def f131x9 : List AOper := [
  Op 50 (.build [.int .i64 0, .int .i64 0, .int .i64 0, .int .i64 0, .int .i64 0, .int .u32 0, .int .i64 0, .bool false, .int .i64 0] [] []),
  Ca 51 145 [(.c (.int .i64 2)), (.c (.int .i64 3))],
  St 9 6 50,
  St 27 7 51,
  Mc 8 (.int .i64 1)]
def f131x10 : List AOper := [
  Ls 53 27 5,
  Ca 54 146 [(.t 53), (.c (.int .i64 65))],
  Mv 52 54,
  Ex 55 52 0,
  Ex 56 52 1,
  Mv 10 55,
  Mv 11 56]
def f131x11 : List AOper := [
  Mv 57 11,
  Un 58 .not 57]
def f131x12 : List AOper := [
  Op 59 (.build [.int .i64 0, .int .i64 0, .int .i64 0, .int .i64 0, .int .i64 0, .int .u32 0, .int .i64 0, .bool false, .int .i64 0] [] []),
  Ca 60 145 [(.c (.int .i64 2)), (.c (.int .i64 7))],
  St 9 6 59,
  St 27 7 60,
  Mc 8 (.int .i64 22)]
def f131x13 : List AOper := [
  Fa 61 5 9,
  Ld 62 61,
  Fa 63 3 5,
  Ld 64 63,
  Op 65 (.minmax false [(.t 62), (.t 64)]),
  Fa 66 4 5,
  Ld 67 66,
  Op 68 (.build [.int .i64 0, .int .i64 0, .int .i64 0, .int .i64 0, .int .i64 0, .int .u32 0, .int .i64 0, .bool false, .int .i64 0] [(0, 1), (4, 1), (5, 1)] [(.c (.int .i64 3)), (.t 65), (.t 67)]),
  Op 12 (.alloc (.agg [.int .i64 0, .int .i64 0, .int .i64 0, .int .i64 0, .int .i64 0, .int .u32 0, .int .i64 0, .bool false, .int .i64 0])),
  St 9 12 68]
def f131x14 : List AOper := [
  Ls 70 27 5,
  Ca 71 146 [(.t 70), (.c (.int .i64 64))],
  Mv 69 71,
  Ex 72 69 0,
  Ex 73 69 1,
  Mv 13 72,
  Mv 14 73]
def f131x15 : List AOper := [
  Mv 74 14,
  Mv 75 74,
  Gt 75 (Fa 76 6 9),
  Gt 75 (Ld 77 76),
  Gt 75 (Bc 78 .gtr 77 0),
  Pa 79 75 78]
def f131x16 : List AOper := [
  Mv 81 13,
  Ca 82 110 [(.t 81), (.c (.int .i64 0)), (.c (.int .i64 2))],
  Mv 80 82,
  Ex 83 80 0,
  Ex 84 80 1,
  Mv 15 83,
  Mv 16 84]
def f131x17 : List AOper := [
  Mv 85 15,
  Cv 86 .i64 85,
  Fa 87 6 12,
  St 1 87 86]
def f131x18 : List AOper := [
  Ls 89 27 5,
  Ca 90 146 [(.t 89), (.c (.int .i64 2))],
  Mv 88 90,
  Ex 91 88 0,
  Ex 92 88 1,
  Fa 93 7 12,
  St 1 93 92]
def f131x19 : List AOper := [
  Ls 94 9 12,
  Op 95 (.build [.int .i64 0, .int .i64 0, .int .i64 0, .int .i64 0, .int .u32 0, .con (.slice none 0 0), .con (.slice none 0 0), .int .i64 0, .con (.slice none 0 0), .int .u32 0, .bool false, .int .i64 0, .bool false, .int .i64 0, .bool false, .bool false, .int .i64 0, .int .u32 0, .con (.slice none 0 0), .bool false, .int .u32 0, .con (.slice none 0 0), .con (.slice none 0 0), .con (.slice none 0 0), .int .i64 0, .int .i64 0, .con (.slice none 0 0)] [] []),
  St 9 6 94,
  St 27 7 95,
  Mc 8 (.int .i64 0)]
def f131 : AFunc := ⟨96, 3, false, [.cell 6 (some 9), .cell 7 (some 27), .t 8], (.seq (.region f131x0 false) (.seq (.seq (.region f131x1 false) (.cond (.t 20) (.seq (.region f131x2 false) .ret) .skip)) (.seq (.region f131x3 false) (.seq (.seq (.region f131x4 false) (.cond (.t 35) (.seq (.region f131x5 false) .ret) .skip)) (.seq (.seq (.region f131x6 false) (.cond (.t 42) (.seq (.region f131x7 false) .ret) .skip)) (.seq (.seq (.region f131x8 false) (.cond (.t 49) (.seq (.region f131x9 false) .ret) .skip)) (.seq (.seq (.region f131x10 false) (.seq (.region f131x11 false) (.cond (.t 58) (.seq (.region f131x12 false) .ret) .skip))) (.seq (.region f131x13 false) (.seq (.seq (.region f131x14 false) (.seq (.region f131x15 false) (.cond (.t 79) (.seq (.region f131x16 false) (.region f131x17 false)) .skip))) (.seq (.region f131x18 false) (.seq (.region f131x19 false) .ret)))))))))))⟩
def f132x0 : List AOper := [
  Op 3 (.box (.t 0)),
  Op 5 (.box (.t 2)),
  Op 6 (.alloc (.agg [.int .i64 0, .int .i64 0, .int .i64 0, .int .i64 0, .int .i64 0, .int .u32 0, .int .i64 0, .bool false, .int .i64 0])),
  Op 7 (.alloc (.agg [.int .i64 0, .int .i64 0, .int .i64 0, .int .i64 0, .int .u32 0, .con (.slice none 0 0), .con (.slice none 0 0), .int .i64 0, .con (.slice none 0 0), .int .u32 0, .bool false, .int .i64 0, .bool false, .int .i64 0, .bool false, .bool false, .int .i64 0, .int .u32 0, .con (.slice none 0 0), .bool false, .int .u32 0, .con (.slice none 0 0), .con (.slice none 0 0), .con (.slice none 0 0), .int .i64 0, .int .i64 0, .con (.slice none 0 0)])),
  Mc 8 (.int .i64 0)]
def f132x1 : List AOper := [
  Ls 19 15 3,
  Mv 20 1,
  Ct 21 142 [19, 20],
  Un 22 .not 21]
def f132x2 : List AOper := [
  Op 23 (.build [.int .i64 0, .int .i64 0, .int .i64 0, .int .i64 0, .int .i64 0, .int .u32 0, .int .i64 0, .bool false, .int .i64 0] [] []),
  Op 24 (.build [.int .i64 0, .int .i64 0, .int .i64 0, .int .i64 0, .int .u32 0, .con (.slice none 0 0), .con (.slice none 0 0), .int .i64 0, .con (.slice none 0 0), .int .u32 0, .bool false, .int .i64 0, .bool false, .int .i64 0, .bool false, .bool false, .int .i64 0, .int .u32 0, .con (.slice none 0 0), .bool false, .int .u32 0, .con (.slice none 0 0), .con (.slice none 0 0), .con (.slice none 0 0), .int .i64 0, .int .i64 0, .con (.slice none 0 0)] [] []),
  St 9 6 23,
  St 27 7 24,
  Mc 8 (.int .i64 5)]
def f132x3 : List AOper := [
  Fa 25 4 3,
  Ld 26 25,
  Mv 27 1,
  Ia 28 11 26 27,
  Ls 29 11 28,
  Op 9 (.alloc (.agg [.int .i64 0, .int .i64 0, .int .u32 0, .int .u32 0, .bool false, .int .i64 0, .int .i64 0, .str [], .str [], .bool false, .bool false])),
  St 11 9 29]
def f132x4 : List AOper := [
  Ls 31 27 5,
  Ca 32 147 [(.t 31), (.c (.int .i64 65))],
  Mv 30 32,
  Ex 33 30 0,
  Ex 34 30 1,
  Mv 10 33,
  Mv 11 34]
def f132x5 : List AOper := [
  Fa 36 0 5,
  Ld 37 36,
  Bc 38 .neq 37 1,
  Mv 39 38,
  Gf 39 (Ls 40 27 5),
  Gf 39 (Ct 41 148 [40]),
  Gf 39 (Bc 42 .neq 41 0),
  Po 43 39 42,
  Mv 35 43]
def f132x6 : List AOper := [
  Op 44 (.build [.int .i64 0, .int .i64 0, .int .i64 0, .int .i64 0, .int .i64 0, .int .u32 0, .int .i64 0, .bool false, .int .i64 0] [] []),
  Ca 45 149 [(.c (.int .i64 2)), (.c (.int .i64 0))],
  St 9 6 44,
  St 27 7 45,
  Mc 8 (.int .i64 15)]
def f132x7 : List AOper := [
  Fa 47 2 5,
  Ld 48 47,
  Fa 49 1 9,
  Ld 50 49,
  Bi 51 .neq 48 50,
  Mv 46 51]
def f132x8 : List AOper := [
  Op 52 (.build [.int .i64 0, .int .i64 0, .int .i64 0, .int .i64 0, .int .i64 0, .int .u32 0, .int .i64 0, .bool false, .int .i64 0] [] []),
  Ca 53 149 [(.c (.int .i64 2)), (.c (.int .i64 2))],
  St 9 6 52,
  St 27 7 53,
  Mc 8 (.int .i64 14)]
def f132x9 : List AOper := [
  Fa 55 4 5,
  Ld 56 55,
  Fa 57 2 3,
  Ld 58 57,
  Bi 59 .eql 56 58,
  Mv 54 59]
def f132x10 : List AOper := [
  Op 60 (.build [.int .i64 0, .int .i64 0, .int .i64 0, .int .i64 0, .int .i64 0, .int .u32 0, .int .i64 0, .bool false, .int .i64 0] [] []),
  Ca 61 149 [(.c (.int .i64 2)), (.c (.int .i64 3))],
  St 9 6 60,
  St 27 7 61,
  Mc 8 (.int .i64 1)]
def f132x11 : List AOper := [
  Mv 63 11,
  Un 64 .not 63,
  Mv 62 64]
def f132x12 : List AOper := [
  Op 65 (.build [.int .i64 0, .int .i64 0, .int .i64 0, .int .i64 0, .int .i64 0, .int .u32 0, .int .i64 0, .bool false, .int .i64 0] [] []),
  Ca 66 149 [(.c (.int .i64 2)), (.c (.int .i64 7))],
  St 9 6 65,
  St 27 7 66,
  Mc 8 (.int .i64 22)]
def f132x13 : List AOper := [
  Fa 67 5 9,
  Ld 68 67,
  Fa 69 3 5,
  Ld 70 69,
  Op 71 (.minmax false [(.t 68), (.t 70)]),
  Fa 72 4 5,
  Ld 73 72,
  Op 74 (.build [.int .i64 0, .int .i64 0, .int .i64 0, .int .i64 0, .int .i64 0, .int .u32 0, .int .i64 0, .bool false, .int .i64 0] [(0, 1), (4, 1), (5, 1)] [(.c (.int .i64 3)), (.t 71), (.t 73)]),
  Op 12 (.alloc (.agg [.int .i64 0, .int .i64 0, .int .i64 0, .int .i64 0, .int .i64 0, .int .u32 0, .int .i64 0, .bool false, .int .i64 0])),
  St 9 12 74]
def f132x14 : List AOper := [
  Ls 76 27 5,
  Ca 77 147 [(.t 76), (.c (.int .i64 64))],
  Mv 75 77,
  Ex 78 75 0,
  Ex 79 75 1,
  Mv 13 78,
  Mv 14 79]
def f132x15 : List AOper := [
  Mv 80 14,
  Mv 81 80,
  Gt 81 (Fa 82 6 9),
  Gt 81 (Ld 83 82),
  Gt 81 (Bc 84 .gtr 83 0),
  Pa 85 81 84]
def f132x16 : List AOper := [
  Mv 87 13,
  Ca 88 113 [(.t 87), (.c (.int .i64 0)), (.c (.int .i64 2))],
  Mv 86 88,
  Ex 89 86 0,
  Ex 90 86 1,
  Mv 15 89,
  Mv 16 90]
def f132x17 : List AOper := [
  Mv 91 15,
  Cv 92 .i64 91,
  Fa 93 6 12,
  St 1 93 92]
def f132x18 : List AOper := [
  Ls 95 27 5,
  Ca 96 147 [(.t 95), (.c (.int .i64 2))],
  Mv 94 96,
  Ex 97 94 0,
  Ex 98 94 1,
  Mv 17 97,
  Mv 18 98]
def f132x19 : List AOper := [
  Mv 99 18,
  Fa 100 7 12,
  St 1 100 99]
def f132x20 : List AOper := [
  Ls 101 9 12,
  Op 102 (.build [.int .i64 0, .int .i64 0, .int .i64 0, .int .i64 0, .int .u32 0, .con (.slice none 0 0), .con (.slice none 0 0), .int .i64 0, .con (.slice none 0 0), .int .u32 0, .bool false, .int .i64 0, .bool false, .int .i64 0, .bool false, .bool false, .int .i64 0, .int .u32 0, .con (.slice none 0 0), .bool false, .int .u32 0, .con (.slice none 0 0), .con (.slice none 0 0), .con (.slice none 0 0), .int .i64 0, .int .i64 0, .con (.slice none 0 0)] [] []),
  St 9 6 101,
  St 27 7 102,
  Mc 8 (.int .i64 0)]
def f132 : AFunc := ⟨103, 3, false, [.cell 6 (some 9), .cell 7 (some 27), .t 8], (.seq (.region f132x0 false) (.seq (.seq (.region f132x1 false) (.cond (.t 22) (.seq (.region f132x2 false) .ret) .skip)) (.seq (.region f132x3 false) (.seq (.region f132x4 false) (.seq (.block 0 (.seq (.region f132x5 false) (.cond (.t 35) (.seq (.region f132x6 false) .ret) (.seq (.region f132x7 false) (.cond (.t 46) (.seq (.region f132x8 false) .ret) (.seq (.region f132x9 false) (.cond (.t 54) (.seq (.region f132x10 false) .ret) (.seq (.region f132x11 false) (.cond (.t 62) (.seq (.region f132x12 false) .ret) .skip))))))))) (.seq (.region f132x13 false) (.seq (.seq (.region f132x14 false) (.seq (.region f132x15 false) (.cond (.t 85) (.seq (.region f132x16 false) (.region f132x17 false)) .skip))) (.seq (.region f132x18 false) (.seq (.region f132x19 false) (.seq (.region f132x20 false) .ret))))))))))⟩
def f133x0 : List AOper := [
  Op 1 (.box (.t 0)),
  Mc 2 (.int .i64 0)]
def f133x1 : List AOper := [
  Mc 3 (.int .i64 0)]
def f133x2 : List AOper := [
  Fa 6 1 1,
  Ld 7 6,
  Fa 8 2 1,
  Ld 9 8,
  Fa 10 3 1,
  Ld 11 10,
  Fa 12 8 1,
  Ld 13 12,
  Op 14 (.build [.int .i64 0, .int .i64 0, .int .i64 0, .int .i64 0] [(0, 1), (1, 1), (2, 1), (3, 1)] [(.t 7), (.t 9), (.t 11), (.t 13)]),
  Mc 15 (.int .i64 0)]
def f133x3 : List AOper := [
  Bc 16 .lss 15 4]
def f133x4 : List AOper := [
  Op 17 (.ival 4 1 none (.t 14) (.t 15)),
  Mv 5 17]
def f133x5 : List AOper := [
  Mv 18 5,
  Bc 19 .neq 18 0,
  Mv 20 19,
  Gt 20 (Mv 21 3),
  Gt 20 (Bc 22 .eql 21 0),
  Gt 20 (Mv 23 22),
  Gf 23 (Mv 24 5),
  Gf 23 (Mv 25 3),
  Gf 23 (Bi 26 .lss 24 25),
  Gt 20 (Po 27 23 26),
  Pa 28 20 27]
def f133x6 : List AOper := [
  Mv 29 5,
  Mv 3 29]
def f133x7 : List AOper := [
  Bc 30 .add 15 1,
  Mv 15 30]
def f133x8L : ACode := (.seq (.region f133x3 false) (.seq (.cond (.t 16) .skip (.exit 0)) (.seq (.block 1 (.seq (.region f133x4 false) (.seq (.region f133x5 false) (.cond (.t 28) (.region f133x6 false) .skip)))) (.region f133x7 false))))
def f133x9 : List AOper := [
  Mv 31 3,
  Mv 2 31]
def f133 : AFunc := ⟨32, 1, false, [.t 2], (.seq (.region f133x0 false) (.seq (.region f133x1 false) (.seq (.seq (.region f133x2 false) (.block 0 (.loop f133x8L))) (.seq (.region f133x9 false) .ret))))⟩
def f134x0 : List AOper := [
  Op 1 (.box (.t 0)),
  Mc 2 (.int .i64 0)]
def f134x1 : List AOper := [
  Mc 3 (.int .i64 0)]
def f134x2 : List AOper := [
  Fa 6 1 1,
  Ld 7 6,
  Fa 8 2 1,
  Ld 9 8,
  Fa 10 3 1,
  Ld 11 10,
  Fa 12 8 1,
  Ld 13 12,
  Op 14 (.bsl 1 [.int .i64 0] 4 [0, 1, 2, 3] [(.t 7), (.t 9), (.t 11), (.t 13)]),
  Ln 15 0 14,
  Mc 16 (.int .i64 0)]
def f134x3 : List AOper := [
  Bi 17 .lss 16 15]
def f134x4 : List AOper := [
  Ia 18 1 14 16,
  Ld 19 18,
  Mv 5 19]
def f134x5 : List AOper := [
  Mv 20 5,
  Bc 21 .neq 20 0,
  Mv 22 21,
  Gt 22 (Mv 23 3),
  Gt 22 (Bc 24 .eql 23 0),
  Gt 22 (Mv 25 24),
  Gf 25 (Mv 26 5),
  Gf 25 (Mv 27 3),
  Gf 25 (Bi 28 .lss 26 27),
  Gt 22 (Po 29 25 28),
  Pa 30 22 29]
def f134x6 : List AOper := [
  Mv 31 5,
  Mv 3 31]
def f134x7 : List AOper := [
  Bc 32 .add 16 1,
  Mv 16 32]
def f134x8L : ACode := (.seq (.region f134x3 false) (.seq (.cond (.t 17) .skip (.exit 0)) (.seq (.block 1 (.seq (.region f134x4 false) (.seq (.region f134x5 false) (.cond (.t 30) (.region f134x6 false) .skip)))) (.region f134x7 false))))
def f134x9 : List AOper := [
  Mv 33 3,
  Mv 2 33]
def f134 : AFunc := ⟨34, 1, false, [.t 2], (.seq (.region f134x0 false) (.seq (.region f134x1 false) (.seq (.seq (.region f134x2 false) (.block 0 (.loop f134x8L))) (.seq (.region f134x9 false) .ret))))⟩
def f135x0 : List AOper := [
  Op 7 (.box (.t 0)),
  Op 8 (.box (.t 1)),
  Op 12 (.box (.t 5)),
  Op 14 (.alloc (.agg [.int .i64 0, .int .i64 0, .int .i64 0, .int .i64 0, .int .i64 0, .int .u32 0, .int .i64 0, .bool false, .int .i64 0])),
  Mc 15 (.con (.slice none 0 0))]
def f135x1 : List AOper := [
  Ls 18 15 8,
  Mv 19 2,
  Ct 20 140 [18, 19],
  Un 21 .not 20]
def f135x2 : List AOper := [
  Ls 22 9 7,
  St 9 14 22,
  Mc 15 (.con (.slice none 0 0))]
def f135x3 : List AOper := [
  Ls 23 9 7,
  Mv 24 3,
  Op 25 (.build [.int .i64 0, .int .i64 0, .int .i64 0, .int .i64 0, .int .i64 0, .int .u32 0, .int .i64 0, .bool false, .int .i64 0, .int .i64 0, .con (.slice none 0 0)] [(0, 9), (9, 1)] [(.t 23), (.t 24)]),
  Op 26 (.box (.t 25)),
  Op 16 (.alloc (.con (.pointer none))),
  St 1 16 26]
def f135x4 : List AOper := [
  Op 27 (.mkfn 150 [(.t 16)]),
  Mv 17 27]
def f135x5 : List AOper := [
  Mv 28 4]
def f135x6 : List AOper := [
  Bc 30 .eql 28 1,
  Mv 29 30]
def f135x7 : List AOper := [
  Fa 31 0 7,
  Ld 32 31,
  Bc 33 .eql 32 0]
def f135x8 : List AOper := [
  Ld 34 16,
  Nc 35 34,
  Fa 36 0 35,
  Fa 37 0 36,
  ⟨none, .store 1 (.t 37) (.c (.int .i64 1)), none, []⟩]
def f135x9 : List AOper := [
  Ld 38 16,
  Mv 39 3,
  Bc 40 .add 39 30,
  Nc 41 38,
  Fa 42 0 41,
  Fa 43 1 42,
  St 1 43 40]
def f135x10 : List AOper := [
  Ld 44 16,
  Ca 45 151 [(.t 44), (.c (.int .i64 1))]]
def f135x11 : List AOper := [
  Bc 47 .eql 28 2,
  Mv 46 47]
def f135x12 : List AOper := [
  Fa 48 0 7,
  Ld 49 48]
def f135x13 : List AOper := [
  Bc 51 .eql 49 1,
  Mv 50 51]
def f135x14 : List AOper := [
  Ld 52 16,
  Nc 53 52,
  Fa 54 0 53,
  Fa 55 0 54,
  ⟨none, .store 1 (.t 55) (.c (.int .i64 2)), none, []⟩]
def f135x15 : List AOper := [
  Ld 56 16,
  Nc 57 56,
  Fa 58 0 57,
  Fa 59 1 58,
  ⟨none, .store 1 (.t 59) (.c (.int .i64 0)), none, []⟩]
def f135x16 : List AOper := [
  Ld 60 16,
  Mv 61 3,
  Bc 62 .add 61 240,
  Nc 63 60,
  Fa 64 0 63,
  Fa 65 2 64,
  St 1 65 62]
def f135x17 : List AOper := [
  Mv 66 17,
  Ls 67 15 8,
  Mv 68 2,
  Ct 69 127 [67, 68],
  Op 70 (.call (.t 66) [(.t 69)])]
def f135x18 : List AOper := [
  Bc 72 .eql 49 0,
  Mv 71 72]
def f135x19 : List AOper := [
  Ld 73 16,
  Ca 74 151 [(.t 73), (.c (.int .i64 2))]]
def f135x20 : List AOper := [
  Bc 76 .eql 28 3,
  Mv 75 76]
def f135x21 : List AOper := [
  Fa 77 0 7,
  Ld 78 77,
  Bc 79 .geq 78 2,
  Mv 80 79,
  Gt 80 (Fa 81 0 7),
  Gt 80 (Ld 82 81),
  Gt 80 (Bc 83 .leq 82 4),
  Pa 84 80 83]
def f135x22 : List AOper := [
  Ld 85 16,
  Fa 86 4 8,
  Ld 87 86,
  Mv 88 2,
  Af [2] (Ia 89 11 87 88),
  Af [4, 2] (Ls 90 11 89),
  Af [0, 5, 4, 2] (Ct 91 152 [85, 90])]
def f135x23 : List AOper := [
  Bc 93 .eql 28 6,
  Mv 92 93]
def f135x24 : List AOper := [
  Ld 94 16,
  Mv 95 17,
  Ct 96 153 [94, 95]]
def f135x25 : List AOper := [
  Bc 98 .eql 28 5,
  Mv 97 98]
def f135x26 : List AOper := [
  Ld 99 16,
  Mv 100 17,
  Ct 101 154 [99, 100]]
def f135x27 : List AOper := [
  Bc 103 .eql 28 4,
  Mv 102 103]
def f135x28 : List AOper := [
  Ld 104 16,
  Ls 105 15 8,
  Mv 106 2,
  Ls 107 27 12,
  Mv 108 6,
  Mv 109 17,
  Ct 110 155 [104, 105, 106, 107, 108, 109]]
def f135x29 : List AOper := [
  Ld 111 16,
  Nc 112 111,
  Fa 113 0 112,
  Af [0] (Ls 114 9 113),
  Ld 115 16,
  Nc 116 115,
  Fa 117 10 116,
  Af [4] (Ld 118 117),
  Af [3, 0] (St 9 14 114),
  Mv 15 118]
def f135 : AFunc := ⟨119, 7, false, [.cell 14 (some 9), .t 15], (.seq (.region f135x0 false) (.seq (.seq (.region f135x1 false) (.cond (.t 21) (.seq (.region f135x2 false) .ret) .skip)) (.seq (.region f135x3 false) (.seq (.region f135x4 false) (.seq (.seq (.region f135x5 false) (.block 0 (.seq (.region f135x6 false) (.cond (.t 29) (.seq (.region f135x7 false) (.cond (.t 33) (.seq (.region f135x8 false) (.seq (.region f135x9 false) (.region f135x10 false))) .skip)) (.seq (.region f135x11 false) (.cond (.t 46) (.seq (.region f135x12 false) (.block 1 (.seq (.region f135x13 false) (.cond (.t 50) (.seq (.region f135x14 false) (.seq (.region f135x15 false) (.seq (.region f135x16 false) (.region f135x17 false)))) (.seq (.region f135x18 false) (.cond (.t 71) (.region f135x19 false) .skip)))))) (.seq (.region f135x20 false) (.cond (.t 75) (.seq (.region f135x21 false) (.cond (.t 84) (.region f135x22 true) .skip)) (.seq (.region f135x23 false) (.cond (.t 92) (.region f135x24 false) (.seq (.region f135x25 false) (.cond (.t 97) (.region f135x26 false) (.seq (.region f135x27 false) (.cond (.t 102) (.region f135x28 false) .skip)))))))))))))) (.seq (.region f135x29 true) .ret))))))⟩
def f136x0 : List AOper := [
  Op 4 (.alloc (.agg [.int .i64 0, .int .i64 0, .int .u32 0, .int .u32 0, .con (.slice none 0 0), .con (.slice none 0 0), .con (.slice none 0 0), .con (.slice none 0 0), .con (.slice none 0 0), .con (.slice none 0 0), .int .i64 0, .int .i64 0, .int .i64 0, .int .i64 0, .int .i64 0])),
  Op 5 (.alloc (.agg [.int .i64 0, .int .i64 0, .int .u32 0, .int .u32 0, .con (.slice none 0 0), .con (.slice none 0 0), .con (.slice none 0 0), .con (.slice none 0 0), .con (.slice none 0 0), .con (.slice none 0 0), .int .i64 0, .int .i64 0, .int .i64 0, .int .i64 0, .int .i64 0]))]
def f136x1 : List AOper := [
  Mv 8 0,
  Op 9 (.build [.int .i64 0, .int .i64 0, .int .u32 0, .int .u32 0, .bool false, .int .i64 0, .int .i64 0, .str [], .str [], .bool false, .bool false] [(0, 1), (1, 1), (2, 1), (3, 1), (5, 1)] [(.c (.int .i64 1)), (.c (.int .i64 65002)), (.c (.int .u32 2)), (.c (.int .u32 1)), (.t 8)]),
  Op 10 (.bsl 11 [.int .i64 0, .int .i64 0, .int .u32 0, .int .u32 0, .bool false, .int .i64 0, .int .i64 0, .str [], .str [], .bool false, .bool false] 1 [0] [(.t 9)]),
  Op 11 (.build [.int .i64 0, .int .i64 0, .int .u32 0, .int .u32 0, .con (.slice none 0 0), .con (.slice none 0 0), .con (.slice none 0 0), .con (.slice none 0 0), .con (.slice none 0 0), .con (.slice none 0 0), .int .i64 0, .int .i64 0, .int .i64 0, .int .i64 0, .int .i64 0] [(0, 1), (2, 1), (4, 1)] [(.c (.int .i64 65001)), (.c (.int .u32 1)), (.t 10)]),
  Op 6 (.alloc (.agg [.int .i64 0, .int .i64 0, .int .u32 0, .int .u32 0, .con (.slice none 0 0), .con (.slice none 0 0), .con (.slice none 0 0), .con (.slice none 0 0), .con (.slice none 0 0), .con (.slice none 0 0), .int .i64 0, .int .i64 0, .int .i64 0, .int .i64 0, .int .i64 0])),
  St 15 6 11]
def f136x2 : List AOper := [
  Mv 12 1,
  Op 13 (.build [.int .i64 0, .int .i64 0, .int .u32 0, .int .u32 0, .bool false, .int .i64 0, .int .i64 0, .str [], .str [], .bool false, .bool false] [(0, 1), (1, 1), (2, 1), (3, 1), (5, 1)] [(.c (.int .i64 1)), (.c (.int .i64 65001)), (.c (.int .u32 1)), (.c (.int .u32 2)), (.t 12)]),
  Op 14 (.bsl 11 [.int .i64 0, .int .i64 0, .int .u32 0, .int .u32 0, .bool false, .int .i64 0, .int .i64 0, .str [], .str [], .bool false, .bool false] 1 [0] [(.t 13)]),
  Op 15 (.build [.int .i64 0, .int .i64 0, .int .u32 0, .int .u32 0, .con (.slice none 0 0), .con (.slice none 0 0), .con (.slice none 0 0), .con (.slice none 0 0), .con (.slice none 0 0), .con (.slice none 0 0), .int .i64 0, .int .i64 0, .int .i64 0, .int .i64 0, .int .i64 0] [(0, 1), (2, 1), (4, 1)] [(.c (.int .i64 65002)), (.c (.int .u32 2)), (.t 14)]),
  Op 7 (.alloc (.agg [.int .i64 0, .int .i64 0, .int .u32 0, .int .u32 0, .con (.slice none 0 0), .con (.slice none 0 0), .con (.slice none 0 0), .con (.slice none 0 0), .con (.slice none 0 0), .con (.slice none 0 0), .int .i64 0, .int .i64 0, .int .i64 0, .int .i64 0, .int .i64 0])),
  St 15 7 15]
def f136x3 : List AOper := [
  Ls 16 15 6,
  Ls 17 15 7,
  Af [0] (St 15 4 16),
  Af [1, 2, 0] (St 15 5 17)]
def f136 : AFunc := ⟨18, 2, false, [.cell 4 (some 15), .cell 5 (some 15)], (.seq (.region f136x0 false) (.seq (.region f136x1 false) (.seq (.region f136x2 false) (.seq (.region f136x3 true) .ret))))⟩
def f137x0 : List AOper := [
  Op 5 (.box (.t 1)),
  Op 6 (.box (.t 2)),
  Op 8 (.alloc (.agg [.int .i64 0, .int .i64 0, .int .i64 0, .int .i64 0, .int .i64 0, .int .u32 0, .int .i64 0, .bool false, .int .i64 0])),
  Mc 9 (.con (.slice none 0 0))]
def f137x1 : List AOper := [
  Mc 10 (.con (.slice none 0 0))]
def f137x2 : List AOper := [
  Mv 15 0,
  Ln 16 0 15,
  Mc 17 (.int .i64 0)]
def f137x3 : List AOper := [
  Bi 18 .lss 17 16]
def f137x4 : List AOper := [
  Ia 19 28 15 17,
  Ls 20 28 19,
  Op 12 (.alloc (.agg [.int .i64 0, .int .i64 0, .int .i64 0, .int .i64 0, .int .i64 0, .int .u32 0, .con (.slice none 0 0), .con (.slice none 0 0), .int .i64 0, .con (.slice none 0 0), .int .u32 0, .bool false, .int .i64 0, .bool false, .int .i64 0, .bool false, .bool false, .int .i64 0, .int .u32 0, .con (.slice none 0 0), .bool false, .int .u32 0, .con (.slice none 0 0), .con (.slice none 0 0), .con (.slice none 0 0), .int .i64 0, .int .i64 0, .con (.slice none 0 0)])),
  St 28 12 20]
def f137x5 : List AOper := [
  Fa 21 0 12,
  Ld 22 21,
  Bc 23 .neq 22 3]
def f137x6 : List AOper := [
  Ls 25 9 5,
  Ls 26 15 6,
  Mv 27 3,
  Fa 28 1 12,
  Ls 29 27 28,
  Ca 30 135 [(.t 25), (.t 26), (.c (.int .i64 0)), (.t 27), (.c (.int .i64 4)), (.t 29), (.c (.int .i64 0))],
  Mv 24 30,
  Ex 31 24 0,
  Ex 32 24 1,
  Op 13 (.alloc (.agg [.int .i64 0, .int .i64 0, .int .i64 0, .int .i64 0, .int .i64 0, .int .u32 0, .int .i64 0, .bool false, .int .i64 0])),
  St 9 13 31,
  Mv 14 32]
def f137x7 : List AOper := [
  Ls 33 9 13,
  St 9 5 33]
def f137x8 : List AOper := [
  Mv 34 10,
  Mv 35 14,
  Ap 36 28 328 34 35,
  Mv 10 36]
def f137x9 : List AOper := [
  Bc 37 .add 17 1,
  Mv 17 37]
def f137x10L : ACode := (.seq (.region f137x3 false) (.seq (.cond (.t 18) .skip (.exit 0)) (.seq (.block 1 (.seq (.region f137x4 false) (.seq (.seq (.region f137x5 false) (.cond (.t 23) (.exit 1) .skip)) (.seq (.region f137x6 false) (.seq (.region f137x7 false) (.region f137x8 false)))))) (.region f137x9 false))))
def f137x11 : List AOper := [
  Ls 38 9 5,
  Mv 39 10,
  St 9 8 38,
  Mv 9 39]
def f137 : AFunc := ⟨40, 4, false, [.cell 8 (some 9), .t 9], (.seq (.region f137x0 false) (.seq (.region f137x1 false) (.seq (.seq (.region f137x2 false) (.block 0 (.loop f137x10L))) (.seq (.region f137x11 false) .ret))))⟩
def f138x0 : List AOper := [
  Mc 4 (.bool false)]
def f138x1 : List AOper := [
  Mv 6 0,
  Ln 7 0 6,
  Mv 8 1,
  Ln 9 0 8,
  Bi 10 .neq 7 9]
def f138x2 : List AOper := [
  Mc 4 (.bool false)]
def f138x3 : List AOper := [
  Mv 11 0,
  Ln 12 0 11,
  Mc 13 (.int .i64 0)]
def f138x4 : List AOper := [
  Bi 14 .lss 13 12]
def f138x5 : List AOper := [
  Mv 15 13,
  Mv 5 15]
def f138x6 : List AOper := [
  Mv 16 0,
  Mv 17 5,
  Ia 18 2 16 17,
  Fa 19 0 18,
  Af [2] (Ld 20 19),
  Mv 21 1,
  Mv 22 5,
  Ia 23 2 21 22,
  Fa 24 0 23,
  Af [7] (Ld 25 24),
  Bi 26 .neq 20 25,
  Mv 27 26,
  Gf 27 (Mv 28 0),
  Gf 27 (Mv 29 5),
  Af [4, 9, 2, 7] (Gf 27 (Ia 30 2 28 29)),
  Gf 27 (Fa 31 1 30),
  Af [14, 4, 9, 2, 7] (Gf 27 (Ld 32 31)),
  Af [16, 14, 4, 9, 2, 7] (Gf 27 (Op 33 (.b2s (.t 32)))),
  Gf 27 (Mv 34 1),
  Gf 27 (Mv 35 5),
  Af [4, 9, 2, 7] (Gf 27 (Ia 36 2 34 35)),
  Gf 27 (Fa 37 1 36),
  Af [20, 4, 9, 2, 7] (Gf 27 (Ld 38 37)),
  Af [22, 20, 4, 9, 2, 7] (Gf 27 (Op 39 (.b2s (.t 38)))),
  Gf 27 (Bi 40 .neq 33 39),
  Po 41 27 40]
def f138x7 : List AOper := [
  Mc 4 (.bool false)]
def f138x8 : List AOper := [
  Bc 42 .add 13 1,
  Mv 13 42]
def f138x9L : ACode := (.seq (.region f138x4 false) (.seq (.cond (.t 14) .skip (.exit 0)) (.seq (.block 1 (.seq (.region f138x5 false) (.seq (.region f138x6 true) (.cond (.t 41) (.seq (.region f138x7 false) .ret) .skip)))) (.region f138x8 false))))
def f138x10 : List AOper := [
  Mc 4 (.bool true)]
def f138 : AFunc := ⟨43, 2, false, [.t 4], (.seq (.region f138x0 false) (.seq (.seq (.region f138x1 false) (.cond (.t 10) (.seq (.region f138x2 false) .ret) .skip)) (.seq (.seq (.region f138x3 false) (.block 0 (.loop f138x9L))) (.seq (.region f138x10 false) .ret))))⟩
def f139x0 : List AOper := [
  Mc 4 (.bool false)]
def f139x1 : List AOper := [
  Mv 6 0,
  Ln 7 0 6,
  Mv 8 1,
  Ln 9 0 8,
  Bi 10 .neq 7 9]
def f139x2 : List AOper := [
  Mc 4 (.bool false)]
def f139x3 : List AOper := [
  Mv 11 0,
  Ln 12 0 11,
  Mc 13 (.int .i64 0)]
def f139x4 : List AOper := [
  Bi 14 .lss 13 12]
def f139x5 : List AOper := [
  Mv 15 13,
  Mv 5 15]
def f139x6 : List AOper := [
  Mv 16 0,
  Mv 17 5,
  Ia 18 2 16 17,
  Af [2] (Ls 19 2 18),
  Mv 20 1,
  Mv 21 5,
  Ia 22 2 20 21,
  Af [6] (Ls 23 2 22),
  Op 24 (.eqs [.int, .int] true (.t 19) (.t 23))]
def f139x7 : List AOper := [
  Mc 4 (.bool false)]
def f139x8 : List AOper := [
  Bc 25 .add 13 1,
  Mv 13 25]
def f139x9L : ACode := (.seq (.region f139x4 false) (.seq (.cond (.t 14) .skip (.exit 0)) (.seq (.block 1 (.seq (.region f139x5 false) (.seq (.region f139x6 true) (.cond (.t 24) (.seq (.region f139x7 false) .ret) .skip)))) (.region f139x8 false))))
def f139x10 : List AOper := [
  Mc 4 (.bool true)]
def f139 : AFunc := ⟨26, 2, false, [.t 4], (.seq (.region f139x0 false) (.seq (.seq (.region f139x1 false) (.cond (.t 10) (.seq (.region f139x2 false) .ret) .skip)) (.seq (.seq (.region f139x3 false) (.block 0 (.loop f139x9L))) (.seq (.region f139x10 false) .ret))))⟩
def f70x0 : List AOper := [
  Op 2 (.box (.t 0)),
  Op 3 (.box (.t 1)),
  Mc 4 (.bool false)]
def f70x1 : List AOper := [
  Fa 6 0 2,
  Ld 7 6,
  Fa 8 0 3,
  Ld 9 8,
  Bi 10 .neq 7 9,
  Mv 11 10,
  Gf 11 (Fa 12 1 2),
  Gf 11 (Ld 13 12),
  Gf 11 (Fa 14 1 3),
  Gf 11 (Ld 15 14),
  Gf 11 (Ct 16 97 [13, 15]),
  Gf 11 (Un 17 .not 16),
  Po 18 11 17,
  Mv 19 18,
  Gf 19 (Fa 20 2 2),
  Gf 19 (Ld 21 20),
  Gf 19 (Fa 22 2 3),
  Gf 19 (Ld 23 22),
  Gf 19 (Bi 24 .neq 21 23),
  Po 25 19 24,
  Mv 26 25,
  Gf 26 (Fa 27 3 2),
  Gf 26 (Ld 28 27),
  Gf 26 (Fa 29 3 3),
  Gf 26 (Ld 30 29),
  Gf 26 (Op 31 (.eqb true (.t 28) (.t 30))),
  Po 32 26 31,
  Mv 33 32,
  Gf 33 (Fa 34 4 2),
  Gf 33 (Ld 35 34),
  Gf 33 (Fa 36 4 3),
  Gf 33 (Ld 37 36),
  Gf 33 (Bi 38 .neq 35 37),
  Po 39 33 38,
  Mv 40 39,
  Gf 40 (Fa 41 5 2),
  Gf 40 (Ld 42 41),
  Gf 40 (Fa 43 5 3),
  Gf 40 (Ld 44 43),
  Gf 40 (Op 45 (.eqb true (.t 42) (.t 44))),
  Po 46 40 45,
  Mv 47 46,
  Gf 47 (Fa 48 6 2),
  Gf 47 (Ld 49 48),
  Gf 47 (Fa 50 6 3),
  Gf 47 (Ld 51 50),
  Gf 47 (Bi 52 .neq 49 51),
  Po 53 47 52,
  Mv 54 53,
  Gf 54 (Fa 55 7 2),
  Gf 54 (Ld 56 55),
  Gf 54 (Fa 57 7 3),
  Gf 54 (Ld 58 57),
  Gf 54 (Op 59 (.eqb true (.t 56) (.t 58))),
  Po 60 54 59]
def f70x2 : List AOper := [
  Mc 4 (.bool false)]
def f70x3 : List AOper := [
  Fa 61 8 2,
  Ld 62 61,
  Fa 63 8 3,
  Ld 64 63,
  Op 65 (.eqb true (.t 62) (.t 64)),
  Mv 66 65,
  Gf 66 (Fa 67 9 2),
  Gf 66 (Ld 68 67),
  Gf 66 (Fa 69 9 3),
  Gf 66 (Ld 70 69),
  Gf 66 (Bi 71 .neq 68 70),
  Po 72 66 71,
  Mv 73 72,
  Gf 73 (Fa 74 10 2),
  Gf 73 (Ld 75 74),
  Gf 73 (Fa 76 10 3),
  Gf 73 (Ld 77 76),
  Gf 73 (Bi 78 .neq 75 77),
  Po 79 73 78,
  Mv 80 79,
  Gf 80 (Fa 81 12 2),
  Gf 80 (Ld 82 81),
  Gf 80 (Fa 83 12 3),
  Gf 80 (Ld 84 83),
  Gf 80 (Op 85 (.eqb true (.t 82) (.t 84))),
  Po 86 80 85,
  Mv 87 86,
  Gf 87 (Fa 88 13 2),
  Gf 87 (Ld 89 88),
  Gf 87 (Fa 90 13 3),
  Gf 87 (Ld 91 90),
  Gf 87 (Bi 92 .neq 89 91),
  Po 93 87 92,
  Mv 94 93,
  Gf 94 (Fa 95 15 2),
  Gf 94 (Ld 96 95),
  Gf 94 (Ln 97 0 96),
  Gf 94 (Fa 98 15 3),
  Gf 94 (Ld 99 98),
  Gf 94 (Ln 100 0 99),
  Gf 94 (Bi 101 .neq 97 100),
  Po 102 94 101]
def f70x4 : List AOper := [
  Mc 4 (.bool false)]
def f70x5 : List AOper := [
  Fa 103 15 2,
  Ld 104 103,
  Ln 105 0 104,
  Mc 106 (.int .i64 0)]
def f70x6 : List AOper := [
  Bi 107 .lss 106 105]
def f70x7 : List AOper := [
  Mv 108 106,
  Mv 5 108]
def f70x8 : List AOper := [
  Fa 109 15 2,
  Ld 110 109,
  Mv 111 5,
  Af [1] (Ia 112 2 110 111),
  Fa 113 0 112,
  Af [3, 1] (Ld 114 113),
  Fa 115 15 3,
  Ld 116 115,
  Mv 117 5,
  Af [7] (Ia 118 2 116 117),
  Fa 119 0 118,
  Af [9, 7] (Ld 120 119),
  Bi 121 .neq 114 120,
  Mv 122 121,
  Gf 122 (Fa 123 15 2),
  Af [5, 11, 3, 1, 9, 7] (Gf 122 (Ld 124 123)),
  Gf 122 (Mv 125 5),
  Af [15, 5, 11, 3, 1, 9, 7] (Gf 122 (Ia 126 2 124 125)),
  Gf 122 (Fa 127 1 126),
  Af [17, 15, 5, 11, 3, 1, 9, 7] (Gf 122 (Ld 128 127)),
  Gf 122 (Fa 129 15 3),
  Af [5, 11, 3, 1, 9, 7] (Gf 122 (Ld 130 129)),
  Gf 122 (Mv 131 5),
  Af [21, 5, 11, 3, 1, 9, 7] (Gf 122 (Ia 132 2 130 131)),
  Gf 122 (Fa 133 1 132),
  Af [23, 21, 5, 11, 3, 1, 9, 7] (Gf 122 (Ld 134 133)),
  Af [19, 25, 17, 15, 23, 21, 5, 11, 3, 1, 9, 7] (Gf 122 (Ct 135 98 [128, 134])),
  Gf 122 (Un 136 .not 135),
  Po 137 122 136]
def f70x9 : List AOper := [
  Mc 4 (.bool false)]
def f70x10 : List AOper := [
  Bc 138 .add 106 1,
  Mv 106 138]
def f70x11L : ACode := (.seq (.region f70x6 false) (.seq (.cond (.t 107) .skip (.exit 0)) (.seq (.block 1 (.seq (.region f70x7 false) (.seq (.region f70x8 true) (.cond (.t 137) (.seq (.region f70x9 false) .ret) .skip)))) (.region f70x10 false))))
def f70x12 : List AOper := [
  Fa 139 11 2,
  Ld 140 139,
  Fa 141 11 3,
  Ld 142 141,
  Ct 143 99 [140, 142],
  Mv 144 143,
  Gt 144 (Fa 145 14 2),
  Gt 144 (Ld 146 145),
  Gt 144 (Fa 147 14 3),
  Gt 144 (Ld 148 147),
  Gt 144 (Ct 149 99 [146, 148]),
  Pa 150 144 149,
  Mv 4 150]
def f70 : AFunc := ⟨151, 2, false, [.t 4], (.seq (.region f70x0 false) (.seq (.seq (.region f70x1 false) (.cond (.t 60) (.seq (.region f70x2 false) .ret) .skip)) (.seq (.seq (.region f70x3 false) (.cond (.t 102) (.seq (.region f70x4 false) .ret) .skip)) (.seq (.seq (.region f70x5 false) (.block 0 (.loop f70x11L))) (.seq (.region f70x12 false) .ret)))))⟩
def f140x0 : List AOper := [
  Op 2 (.box (.t 0)),
  Mc 4 (.bool false)]
def f140x1 : List AOper := [
  Mv 5 1,
  Bc 6 .geq 5 0,
  Mv 7 6,
  Gt 7 (Mv 8 1),
  Gt 7 (Fa 9 4 2),
  Gt 7 (Ld 10 9),
  Gt 7 (Ln 11 0 10),
  Gt 7 (Bi 12 .lss 8 11),
  Pa 13 7 12,
  Mv 4 13]
def f140 : AFunc := ⟨14, 2, false, [.t 4], (.seq (.region f140x0 false) (.seq (.region f140x1 false) .ret))⟩
def f141x0 : List AOper := [
  Op 2 (.box (.t 0)),
  Op 3 (.box (.t 1)),
  Mc 4 (.int .i64 0)]
def f141x1 : List AOper := [
  Fa 5 1 2,
  Ld 6 5,
  Bc 7 .neq 6 0,
  Mv 8 7,
  Gt 8 (Fa 9 0 3),
  Gt 8 (Ld 10 9),
  Gt 8 (Bc 11 .eql 10 1),
  Pa 12 8 11]
def f141x2 : List AOper := [
  Fa 13 1 2,
  Ld 14 13,
  Mv 4 14]
def f141x3 : List AOper := [
  Fa 15 0 2,
  Ld 16 15,
  Mv 4 16]
def f141 : AFunc := ⟨17, 2, false, [.t 4], (.seq (.region f141x0 false) (.seq (.seq (.region f141x1 false) (.cond (.t 12) (.seq (.region f141x2 false) .ret) .skip)) (.seq (.region f141x3 false) .ret)))⟩
def f109x0 : List AOper := [
  Mc 6 (.con (.slice none 0 0))]
def f109x1 : List AOper := [
  Mv 7 0,
  Mv 8 1,
  Op 9 (.minmax true [(.t 8), (.c (.int .i64 0))]),
  Op 10 (.minmax false [(.t 9), (.c (.int .i64 8))]),
  Mv 11 2,
  Ct 12 120 [10, 11],
  Op 13 (.bsl 1 [.con (.slice none 0 0)] 2 [0, 1] [(.t 7), (.t 12)]),
  Ct 14 119 [13],
  Mv 6 14]
def f109 : AFunc := ⟨15, 3, false, [.t 6], (.seq (.region f109x0 false) (.seq (.region f109x1 false) .ret))⟩
def f142x0 : List AOper := [
  Op 2 (.box (.t 0)),
  Mc 4 (.bool false)]
def f142x1 : List AOper := [
  Mv 5 1,
  Bc 6 .geq 5 0,
  Mv 7 6,
  Gt 7 (Mv 8 1),
  Gt 7 (Fa 9 4 2),
  Gt 7 (Ld 10 9),
  Gt 7 (Ln 11 0 10),
  Gt 7 (Bi 12 .lss 8 11),
  Pa 13 7 12,
  Mv 4 13]
def f142 : AFunc := ⟨14, 2, false, [.t 4], (.seq (.region f142x0 false) (.seq (.region f142x1 false) .ret))⟩
def f143x0 : List AOper := [
  Op 2 (.box (.t 0)),
  Mc 4 (.int .i64 0)]
def f143x1 : List AOper := [
  Fa 5 1 2,
  Ld 6 5,
  Bc 7 .neq 6 0,
  Mv 8 7,
  Gt 8 (Fa 9 4 2),
  Gt 8 (Ld 10 9),
  Gt 8 (Mv 11 1),
  Gt 8 (Ia 12 11 10 11),
  Gt 8 (Fa 13 0 12),
  Gt 8 (Ld 14 13),
  Gt 8 (Bc 15 .eql 14 1),
  Pa 16 8 15]
def f143x2 : List AOper := [
  Fa 17 1 2,
  Ld 18 17,
  Mv 4 18]
def f143x3 : List AOper := [
  Fa 19 0 2,
  Ld 20 19,
  Mv 4 20]
def f143 : AFunc := ⟨21, 2, false, [.t 4], (.seq (.region f143x0 false) (.seq (.seq (.region f143x1 false) (.cond (.t 16) (.seq (.region f143x2 false) .ret) .skip)) (.seq (.region f143x3 false) .ret)))⟩
def f91x0 : List AOper := [
  Mc 6 (.con (.slice none 0 0))]
def f91x1 : List AOper := [
  Mc 7 (.con (.slice none 0 0))]
def f91x2 : List AOper := [
  Mv 9 7,
  Mv 10 0,
  Ap 11 1 1 9 10,
  Mv 7 11]
def f91x3 : List AOper := [
  Mv 12 1,
  Op 13 (.minmax true [(.t 12), (.c (.int .i64 0))]),
  Op 14 (.minmax false [(.t 13), (.c (.int .i64 8))]),
  Bc 15 .sub 14 1,
  Mv 8 15]
def f91x4 : List AOper := [
  Mv 16 8,
  Bc 17 .geq 16 0]
def f91x5 : List AOper := [
  Mv 20 7,
  Mv 21 2,
  Mv 22 8,
  Op 23 (.bin .mul (.c (.int .i64 8)) (.t 22)),
  Bi 24 .shr 21 23,
  Cv 25 .u8 24,
  Op 26 (.bsl 1 [.int .u8 0] 1 [0] [(.t 25)]),
  Ap 27 1 1 20 26,
  Mv 7 27]
def f91x6 : List AOper := [
  Mv 18 8,
  Bc 19 .sub 18 1,
  Mv 8 19]
def f91x7L : ACode := (.seq (.seq (.region f91x4 false) (.cond (.t 17) .skip (.exit 0))) (.seq (.block 1 (.region f91x5 false)) (.region f91x6 false)))
def f91x8 : List AOper := [
  Mv 28 7,
  Mv 6 28]
def f91 : AFunc := ⟨29, 3, false, [.t 6], (.seq (.region f91x0 false) (.seq (.region f91x1 false) (.seq (.region f91x2 false) (.seq (.seq (.region f91x3 false) (.block 0 (.loop f91x7L))) (.seq (.region f91x8 false) .ret)))))⟩
def f21x0 : List AOper := [
  Op 1 (.box (.t 0)),
  Mc 2 (.bool false)]
def f21x1 : List AOper := [
  Ls 3 16 1,
  Ct 4 26 [3],
  Bc 5 .gtr 4 3000,
  Mv 2 5]
def f21 : AFunc := ⟨6, 1, false, [.t 2], (.seq (.region f21x0 false) (.seq (.region f21x1 false) .ret))⟩
def f144x0 : List AOper := [
  Op 1 (.box (.t 0)),
  Mc 2 (.int .i64 0)]
def f144x1 : List AOper := [
  Fa 3 0 1,
  Ld 4 3,
  Bc 5 .lss 4 1,
  Mv 6 5,
  Gf 6 (Fa 7 0 1),
  Gf 6 (Ld 8 7),
  Gf 6 (Bc 9 .gtr 8 5),
  Po 10 6 9]
def f144x2 : List AOper := [
  Mc 2 (.int .i64 15)]
def f144x3 : List AOper := [
  Ls 11 27 1,
  Ls 12 27 1,
  Af [1] (Ct 13 157 [12]),
  Af [0, 2, 1] (Ct 14 156 [11, 13]),
  Un 15 .not 14]
def f144x4 : List AOper := [
  Mc 2 (.int .i64 1)]
def f144x5 : List AOper := [
  Fa 16 0 1,
  Ld 17 16]
def f144x6 : List AOper := [
  Bc 19 .eql 17 1,
  Mv 18 19]
def f144x7 : List AOper := [
  Ls 20 27 1,
  Ct 21 158 [20],
  Mv 2 21]
def f144x8 : List AOper := [
  Bc 23 .eql 17 2,
  Mv 22 23]
def f144x9 : List AOper := [
  Ls 24 27 1,
  Ct 25 159 [24],
  Mv 2 25]
def f144x10 : List AOper := [
  Bc 27 .eql 17 3,
  Mv 26 27]
def f144x11 : List AOper := [
  Fa 29 24 1,
  Ld 30 29,
  Bc 31 .lss 30 1,
  Mv 32 31,
  Gf 32 (Fa 33 24 1),
  Gf 32 (Ld 34 33),
  Gf 32 (Bc 35 .gtr 34 6),
  Po 36 32 35,
  Mv 37 36,
  Gf 37 (Fa 38 25 1),
  Gf 37 (Ld 39 38),
  Gf 37 (Bc 40 .lss 39 0),
  Po 41 37 40,
  Mv 42 41,
  Gf 42 (Fa 43 25 1),
  Gf 42 (Ld 44 43),
  Gf 42 (Bc 45 .gtr 44 255),
  Po 46 42 45,
  Mv 28 46]
def f144x12 : List AOper := [
  Mc 2 (.int .i64 5)]
def f144x13 : List AOper := [
  Fa 48 26 1,
  Ld 49 48,
  Ln 50 0 49,
  Bc 51 .gtr 50 65514,
  Mv 47 51]
def f144x14 : List AOper := [
  Mc 2 (.int .i64 4)]
def f144x15 : List AOper := [
  Mc 2 (.int .i64 0)]
def f144 : AFunc := ⟨52, 1, false, [.t 2], (.seq (.region f144x0 false) (.seq (.seq (.region f144x1 false) (.cond (.t 10) (.seq (.region f144x2 false) .ret) .skip)) (.seq (.seq (.region f144x3 true) (.cond (.t 15) (.seq (.region f144x4 false) .ret) .skip)) (.seq (.seq (.region f144x5 false) (.block 0 (.seq (.region f144x6 false) (.cond (.t 18) (.seq (.region f144x7 false) .ret) (.seq (.region f144x8 false) (.cond (.t 22) (.seq (.region f144x9 false) .ret) (.seq (.region f144x10 false) (.cond (.t 26) (.block 1 (.seq (.region f144x11 false) (.cond (.t 28) (.seq (.region f144x12 false) .ret) (.seq (.region f144x13 false) (.cond (.t 47) (.seq (.region f144x14 false) .ret) .skip))))) .skip)))))))) (.seq (.region f144x15 false) .ret)))))⟩
def f145x0 : List AOper := [
  Op 4 (.alloc (.agg [.int .i64 0, .int .i64 0, .int .i64 0, .int .i64 0, .int .u32 0, .con (.slice none 0 0), .con (.slice none 0 0), .int .i64 0, .con (.slice none 0 0), .int .u32 0, .bool false, .int .i64 0, .bool false, .int .i64 0, .bool false, .bool false, .int .i64 0, .int .u32 0, .con (.slice none 0 0), .bool false, .int .u32 0, .con (.slice none 0 0), .con (.slice none 0 0), .con (.slice none 0 0), .int .i64 0, .int .i64 0, .con (.slice none 0 0)]))]
def f145x1 : List AOper := [
  Mv 5 0,
  Mv 6 1,
  Op 7 (.build [.int .i64 0, .int .i64 0, .int .i64 0, .int .i64 0, .int .u32 0, .con (.slice none 0 0), .con (.slice none 0 0), .int .i64 0, .con (.slice none 0 0), .int .u32 0, .bool false, .int .i64 0, .bool false, .int .i64 0, .bool false, .bool false, .int .i64 0, .int .u32 0, .con (.slice none 0 0), .bool false, .int .u32 0, .con (.slice none 0 0), .con (.slice none 0 0), .con (.slice none 0 0), .int .i64 0, .int .i64 0, .con (.slice none 0 0)] [(0, 1), (24, 1), (25, 1)] [(.c (.int .i64 3)), (.t 5), (.t 6)]),
  St 27 4 7]
def f145 : AFunc := ⟨8, 2, false, [.cell 4 (some 27)], (.seq (.region f145x0 false) (.seq (.region f145x1 false) .ret))⟩
def f146x0 : List AOper := [
  Op 2 (.box (.t 0)),
  Mc 4 (.con (.slice none 0 0)),
  Mc 5 (.bool false)]
def f146x1 : List AOper := [
  Fa 8 5 2,
  Ld 9 8,
  Ln 10 0 9,
  Mc 11 (.int .i64 0)]
def f146x2 : List AOper := [
  Bi 12 .lss 11 10]
def f146x3 : List AOper := [
  Ia 13 2 9 11,
  Ls 14 2 13,
  Op 7 (.alloc (.agg [.int .i64 0, .con (.slice none 0 0)])),
  St 2 7 14]
def f146x4 : List AOper := [
  Fa 15 0 7,
  Ld 16 15,
  Mv 17 1,
  Bi 18 .eql 16 17]
def f146x5 : List AOper := [
  Fa 19 1 7,
  Ld 20 19,
  Mv 4 20,
  Mc 5 (.bool true)]
def f146x6 : List AOper := [
  Bc 21 .add 11 1,
  Mv 11 21]
def f146x7L : ACode := (.seq (.region f146x2 false) (.seq (.cond (.t 12) .skip (.exit 0)) (.seq (.block 1 (.seq (.region f146x3 false) (.seq (.region f146x4 false) (.cond (.t 18) (.seq (.region f146x5 false) .ret) .skip)))) (.region f146x6 false))))
def f146x8 : List AOper := [
  Mc 4 (.con (.slice none 0 0)),
  Mc 5 (.bool false)]
def f146 : AFunc := ⟨22, 2, false, [.t 4, .t 5], (.seq (.region f146x0 false) (.seq (.seq (.region f146x1 false) (.block 0 (.loop f146x7L))) (.seq (.region f146x8 false) .ret)))⟩
def f146x7LH : List AItem := [.inLoop f146x7L, .inBlock 0, .code (.seq (.region f146x8 false) .ret)]
def f110x0 : List AOper := [
  Mc 6 (.int .u64 0),
  Mc 7 (.bool false)]
def f110x1 : List AOper := [
  Mv 11 2,
  Bc 12 .lss 11 0,
  Mv 13 12,
  Gf 13 (Mv 14 2),
  Gf 13 (Bc 15 .gtr 14 8),
  Po 16 13 15,
  Mv 17 16,
  Gf 17 (Mv 18 1),
  Gf 17 (Bc 19 .lss 18 0),
  Po 20 17 19,
  Mv 21 20,
  Gf 21 (Mv 22 1),
  Gf 21 (Mv 23 0),
  Gf 21 (Ln 24 0 23),
  Gf 21 (Mv 25 2),
  Gf 21 (Bi 26 .sub 24 25),
  Gf 21 (Bi 27 .gtr 22 26),
  Po 28 21 27]
def f110x2 : List AOper := [
  Mc 6 (.int .u64 0),
  Mc 7 (.bool false)]
def f110x3 : List AOper := [
  Mc 8 (.int .u64 0)]
def f110x4 : List AOper := [
  Mv 29 0,
  Mv 30 1,
  Mv 31 1,
  Mv 32 2,
  Bi 33 .add 31 32,
  Op 34 (.slc 1 (.t 29) (some (.t 30)) (some (.t 33)) none),
  Ln 35 0 34,
  Mc 36 (.int .i64 0)]
def f110x5 : List AOper := [
  Bi 37 .lss 36 35]
def f110x6 : List AOper := [
  Ia 38 1 34 36,
  Ld 39 38,
  Mv 10 39]
def f110x7 : List AOper := [
  Mv 40 8,
  Op 41 (.bin .shl (.t 40) (.c (.int .u64 8))),
  Mv 42 10,
  Cv 43 .u64 42,
  Bi 44 .or 41 43,
  Mv 8 44]
def f110x8 : List AOper := [
  Bc 45 .add 36 1,
  Mv 36 45]
def f110x9L : ACode := (.seq (.region f110x5 false) (.seq (.cond (.t 37) .skip (.exit 0)) (.seq (.block 1 (.seq (.region f110x6 false) (.region f110x7 false))) (.region f110x8 false))))
def f110x10 : List AOper := [
  Mv 46 8,
  Mv 6 46,
  Mc 7 (.bool true)]
def f110 : AFunc := ⟨47, 3, false, [.t 6, .t 7], (.seq (.region f110x0 false) (.seq (.seq (.region f110x1 false) (.cond (.t 28) (.seq (.region f110x2 false) .ret) .skip)) (.seq (.region f110x3 false) (.seq (.seq (.region f110x4 false) (.block 0 (.loop f110x9L))) (.seq (.region f110x10 false) .ret)))))⟩
def f110x9LH : List AItem := [.inLoop f110x9L, .inBlock 0, .code (.seq (.region f110x10 false) .ret)]
def f147x0 : List AOper := [
  Op 2 (.box (.t 0)),
  Mc 4 (.con (.slice none 0 0)),
  Mc 5 (.bool false)]
def f147x1 : List AOper := [
  Fa 8 5 2,
  Ld 9 8,
  Ln 10 0 9,
  Mc 11 (.int .i64 0)]
def f147x2 : List AOper := [
  Bi 12 .lss 11 10]
def f147x3 : List AOper := [
  Ia 13 2 9 11,
  Ls 14 2 13,
  Op 7 (.alloc (.agg [.int .i64 0, .con (.slice none 0 0)])),
  St 2 7 14]
def f147x4 : List AOper := [
  Fa 15 0 7,
  Ld 16 15,
  Mv 17 1,
  Bi 18 .eql 16 17]
def f147x5 : List AOper := [
  Fa 19 1 7,
  Ld 20 19,
  Mv 4 20,
  Mc 5 (.bool true)]
def f147x6 : List AOper := [
  Bc 21 .add 11 1,
  Mv 11 21]
def f147x7L : ACode := (.seq (.region f147x2 false) (.seq (.cond (.t 12) .skip (.exit 0)) (.seq (.block 1 (.seq (.region f147x3 false) (.seq (.region f147x4 false) (.cond (.t 18) (.seq (.region f147x5 false) .ret) .skip)))) (.region f147x6 false))))
def f147x8 : List AOper := [
  Mc 4 (.con (.slice none 0 0)),
  Mc 5 (.bool false)]
def f147 : AFunc := ⟨22, 2, false, [.t 4, .t 5], (.seq (.region f147x0 false) (.seq (.seq (.region f147x1 false) (.block 0 (.loop f147x7L))) (.seq (.region f147x8 false) .ret)))⟩
def f148x0 : List AOper := [
  Op 1 (.box (.t 0)),
  Mc 2 (.int .i64 0)]
def f148x1 : List AOper := [
  Fa 3 0 1,
  Ld 4 3,
  Bc 5 .lss 4 1,
  Mv 6 5,
  Gf 6 (Fa 7 0 1),
  Gf 6 (Ld 8 7),
  Gf 6 (Bc 9 .gtr 8 5),
  Po 10 6 9]
def f148x2 : List AOper := [
  Mc 2 (.int .i64 15)]
def f148x3 : List AOper := [
  Ls 11 27 1,
  Ct 12 160 [11],
  Un 13 .not 12]
def f148x4 : List AOper := [
  Mc 2 (.int .i64 1)]
def f148x5 : List AOper := [
  Fa 14 0 1,
  Ld 15 14]
def f148x6 : List AOper := [
  Bc 17 .eql 15 1,
  Mv 16 17]
def f148x7 : List AOper := [
  Ls 18 27 1,
  Ct 19 161 [18],
  Mv 2 19]
def f148x8 : List AOper := [
  Bc 21 .eql 15 2,
  Mv 20 21]
def f148x9 : List AOper := [
  Ls 22 27 1,
  Ct 23 162 [22],
  Mv 2 23]
def f148x10 : List AOper := [
  Bc 25 .eql 15 3,
  Mv 24 25]
def f148x11 : List AOper := [
  Fa 26 24 1,
  Ld 27 26,
  Bc 28 .lss 27 1,
  Mv 29 28,
  Gf 29 (Fa 30 24 1),
  Gf 29 (Ld 31 30),
  Gf 29 (Bc 32 .gtr 31 6),
  Po 33 29 32,
  Mv 34 33,
  Gf 34 (Fa 35 25 1),
  Gf 34 (Ld 36 35),
  Gf 34 (Bc 37 .lss 36 0),
  Po 38 34 37,
  Mv 39 38,
  Gf 39 (Fa 40 25 1),
  Gf 39 (Ld 41 40),
  Gf 39 (Bc 42 .gtr 41 255),
  Po 43 39 42]
def f148x12 : List AOper := [
  Mc 2 (.int .i64 5)]
def f148x13 : List AOper := [
  Fa 44 26 1,
  Ld 45 44,
  Ln 46 0 45,
  Bc 47 .gtr 46 65514]
def f148x14 : List AOper := [
  Mc 2 (.int .i64 4)]
def f148x15 : List AOper := [
  Mc 2 (.int .i64 0)]
def f148 : AFunc := ⟨48, 1, false, [.t 2], (.seq (.region f148x0 false) (.seq (.seq (.region f148x1 false) (.cond (.t 10) (.seq (.region f148x2 false) .ret) .skip)) (.seq (.seq (.region f148x3 false) (.cond (.t 13) (.seq (.region f148x4 false) .ret) .skip)) (.seq (.seq (.region f148x5 false) (.block 0 (.seq (.region f148x6 false) (.cond (.t 16) (.seq (.region f148x7 false) .ret) (.seq (.region f148x8 false) (.cond (.t 20) (.seq (.region f148x9 false) .ret) (.seq (.region f148x10 false) (.cond (.t 24) (.seq (.seq (.region f148x11 false) (.cond (.t 43) (.seq (.region f148x12 false) .ret) .skip)) (.seq (.region f148x13 false) (.cond (.t 47) (.seq (.region f148x14 false) .ret) .skip))) .skip)))))))) (.seq (.region f148x15 false) .ret)))))⟩
def f149x0 : List AOper := [
  Op 4 (.alloc (.agg [.int .i64 0, .int .i64 0, .int .i64 0, .int .i64 0, .int .u32 0, .con (.slice none 0 0), .con (.slice none 0 0), .int .i64 0, .con (.slice none 0 0), .int .u32 0, .bool false, .int .i64 0, .bool false, .int .i64 0, .bool false, .bool false, .int .i64 0, .int .u32 0, .con (.slice none 0 0), .bool false, .int .u32 0, .con (.slice none 0 0), .con (.slice none 0 0), .con (.slice none 0 0), .int .i64 0, .int .i64 0, .con (.slice none 0 0)]))]
def f149x1 : List AOper := [
  Mv 5 0,
  Mv 6 1,
  Op 7 (.build [.int .i64 0, .int .i64 0, .int .i64 0, .int .i64 0, .int .u32 0, .con (.slice none 0 0), .con (.slice none 0 0), .int .i64 0, .con (.slice none 0 0), .int .u32 0, .bool false, .int .i64 0, .bool false, .int .i64 0, .bool false, .bool false, .int .i64 0, .int .u32 0, .con (.slice none 0 0), .bool false, .int .u32 0, .con (.slice none 0 0), .con (.slice none 0 0), .con (.slice none 0 0), .int .i64 0, .int .i64 0, .con (.slice none 0 0)] [(0, 1), (24, 1), (25, 1)] [(.c (.int .i64 3)), (.t 5), (.t 6)]),
  St 27 4 7]
def f149 : AFunc := ⟨8, 2, false, [.cell 4 (some 27)], (.seq (.region f149x0 false) (.seq (.region f149x1 false) .ret))⟩
def f113x0 : List AOper := [
  Mc 6 (.int .u64 0),
  Mc 7 (.bool false)]
def f113x1 : List AOper := [
  Mv 11 2,
  Bc 12 .lss 11 0,
  Mv 13 12,
  Gf 13 (Mv 14 2),
  Gf 13 (Bc 15 .gtr 14 8),
  Po 16 13 15,
  Mv 17 16,
  Gf 17 (Mv 18 1),
  Gf 17 (Bc 19 .lss 18 0),
  Po 20 17 19,
  Mv 21 20,
  Gf 21 (Mv 22 1),
  Gf 21 (Mv 23 0),
  Gf 21 (Ln 24 0 23),
  Gf 21 (Mv 25 2),
  Gf 21 (Bi 26 .sub 24 25),
  Gf 21 (Bi 27 .gtr 22 26),
  Po 28 21 27]
def f113x2 : List AOper := [
  Mc 6 (.int .u64 0),
  Mc 7 (.bool false)]
def f113x3 : List AOper := [
  Mc 8 (.int .u64 0)]
def f113x4 : List AOper := [
  Mv 29 0,
  Mv 30 1,
  Mv 31 1,
  Mv 32 2,
  Bi 33 .add 31 32,
  Op 34 (.slc 1 (.t 29) (some (.t 30)) (some (.t 33)) none),
  Ln 35 0 34,
  Mc 36 (.int .i64 0)]
def f113x5 : List AOper := [
  Bi 37 .lss 36 35]
def f113x6 : List AOper := [
  Ia 38 1 34 36,
  Ld 39 38,
  Mv 10 39]
def f113x7 : List AOper := [
  Mv 40 8,
  Op 41 (.bin .mul (.t 40) (.c (.int .u64 256))),
  Mv 42 10,
  Cv 43 .u64 42,
  Bi 44 .add 41 43,
  Mv 8 44]
def f113x8 : List AOper := [
  Bc 45 .add 36 1,
  Mv 36 45]
def f113x9L : ACode := (.seq (.region f113x5 false) (.seq (.cond (.t 37) .skip (.exit 0)) (.seq (.block 1 (.seq (.region f113x6 false) (.region f113x7 false))) (.region f113x8 false))))
def f113x10 : List AOper := [
  Mv 46 8,
  Mv 6 46,
  Mc 7 (.bool true)]
def f113 : AFunc := ⟨47, 3, false, [.t 6, .t 7], (.seq (.region f113x0 false) (.seq (.seq (.region f113x1 false) (.cond (.t 28) (.seq (.region f113x2 false) .ret) .skip)) (.seq (.region f113x3 false) (.seq (.seq (.region f113x4 false) (.block 0 (.loop f113x9L))) (.seq (.region f113x10 false) .ret)))))⟩
def f150x0 : List AOper := [
  Op 2 (.box (.t 0))]
def f150x1 : List AOper := [
  Ld 3 1,
  Ld 4 1,
  Nc 5 4,
  Fa 6 10 5,
  Af [1] (Ld 7 6),
  Ls 8 27 2,
  Op 9 (.build [.int .i64 0, .int .i64 0, .int .i64 0, .int .i64 0, .int .i64 0, .int .u32 0, .con (.slice none 0 0), .con (.slice none 0 0), .int .i64 0, .con (.slice none 0 0), .int .u32 0, .bool false, .int .i64 0, .bool false, .int .i64 0, .bool false, .bool false, .int .i64 0, .int .u32 0, .con (.slice none 0 0), .bool false, .int .u32 0, .con (.slice none 0 0), .con (.slice none 0 0), .con (.slice none 0 0), .int .i64 0, .int .i64 0, .con (.slice none 0 0)] [(0, 1), (1, 27)] [(.c (.int .i64 3)), (.t 8)]),
  Af [5] (Op 10 (.bsl 28 [.int .i64 0, .int .i64 0, .int .i64 0, .int .i64 0, .int .i64 0, .int .u32 0, .con (.slice none 0 0), .con (.slice none 0 0), .int .i64 0, .con (.slice none 0 0), .int .u32 0, .bool false, .int .i64 0, .bool false, .int .i64 0, .bool false, .bool false, .int .i64 0, .int .u32 0, .con (.slice none 0 0), .bool false, .int .u32 0, .con (.slice none 0 0), .con (.slice none 0 0), .con (.slice none 0 0), .int .i64 0, .int .i64 0, .con (.slice none 0 0)] 1 [0] [(.t 9)])),
  Af [4, 7, 1, 5] (Ap 11 28 328 7 10),
  Nc 12 3,
  Fa 13 10 12,
  Af [0, 8, 4, 7, 1, 5] (St 1 13 11)]
def f150 : AFunc := ⟨14, 2, false, [], (.seq (.region f150x0 false) (.region f150x1 true))⟩
def f151x0 : List AOper := [
  Mv 4 0,
  Mv 5 0,
  Nc 6 5,
  Fa 7 10 6,
  Ld 8 7,
  Mv 9 1,
  Op 10 (.build [.int .i64 0, .int .i64 0, .int .i64 0, .int .i64 0, .int .i64 0, .int .u32 0, .con (.slice none 0 0), .con (.slice none 0 0), .int .i64 0, .con (.slice none 0 0), .int .u32 0, .bool false, .int .i64 0, .bool false, .int .i64 0, .bool false, .bool false, .int .i64 0, .int .u32 0, .con (.slice none 0 0), .bool false, .int .u32 0, .con (.slice none 0 0), .con (.slice none 0 0), .con (.slice none 0 0), .int .i64 0, .int .i64 0, .con (.slice none 0 0)] [(0, 1)] [(.t 9)]),
  Op 11 (.bsl 28 [.int .i64 0, .int .i64 0, .int .i64 0, .int .i64 0, .int .i64 0, .int .u32 0, .con (.slice none 0 0), .con (.slice none 0 0), .int .i64 0, .con (.slice none 0 0), .int .u32 0, .bool false, .int .i64 0, .bool false, .int .i64 0, .bool false, .bool false, .int .i64 0, .int .u32 0, .con (.slice none 0 0), .bool false, .int .u32 0, .con (.slice none 0 0), .con (.slice none 0 0), .con (.slice none 0 0), .int .i64 0, .int .i64 0, .con (.slice none 0 0)] 1 [0] [(.t 10)]),
  Ap 12 28 328 8 11,
  Nc 13 4,
  Fa 14 10 13,
  St 1 14 12]
def f151 : AFunc := ⟨15, 2, false, [], (.region f151x0 false)⟩
def f152x0 : List AOper := [
  Op 3 (.box (.t 1))]
def f152x1 : List AOper := [
  Mv 5 0,
  Nc 6 5,
  Fa 7 0 6,
  Fa 8 8 7,
  Ld 9 8,
  Mv 4 9]
def f152x2 : List AOper := [
  Mv 10 0,
  Nc 11 10,
  Fa 12 0 11,
  Fa 13 0 12,
  Ld 14 13,
  Bc 15 .eql 14 4]
def f152x3 : List AOper := [
  Mv 16 0,
  Nc 17 16,
  Fa 18 0 17,
  Fa 19 6 18,
  Ld 20 19,
  Bc 21 .gtr 20 0,
  Mv 22 21,
  Gt 22 (Fa 23 6 3),
  Gt 22 (Ld 24 23),
  Gt 22 (Bc 25 .gtr 24 0),
  Pa 26 22 25]
def f152x4 : List AOper := [
  Mv 27 0,
  Ca 28 151 [(.t 27), (.c (.int .i64 6))]]
def f152x5 : List AOper := [
  Mv 29 0,
  Nc 30 29,
  Fa 31 9 30,
  Ld 32 31,
  Mv 33 0,
  Nc 34 33,
  Fa 35 0 34,
  Fa 36 6 35,
  Ld 37 36,
  Bi 38 .add 32 37,
  Mv 4 38]
def f152x6 : List AOper := [
  Mv 39 0,
  Ca 40 151 [(.t 39), (.c (.int .i64 5))]]
def f152x7 : List AOper := [
  Mv 41 0,
  Mv 42 0,
  Nc 43 42,
  Fa 44 9 43,
  Ld 45 44,
  Bc 46 .add 45 30,
  Mv 47 4,
  Op 48 (.build [.int .i64 0, .int .i64 0, .int .i64 0, .int .i64 0, .int .i64 0, .int .u32 0, .int .i64 0, .bool false, .int .i64 0] [(0, 1), (1, 1), (8, 1)] [(.c (.int .i64 1)), (.t 46), (.t 47)]),
  Nc 49 41,
  Fa 50 0 49,
  St 9 50 48]
def f152 : AFunc := ⟨51, 2, false, [], (.seq (.region f152x0 false) (.seq (.region f152x1 false) (.seq (.seq (.region f152x2 false) (.cond (.t 15) (.seq (.region f152x3 false) (.cond (.t 26) (.seq (.region f152x4 false) (.region f152x5 true)) (.region f152x6 false))) .skip)) (.region f152x7 false))))⟩
def f153x0 : List AOper := [
  Mv 4 0,
  Nc 5 4,
  Fa 6 0 5,
  Fa 7 0 6,
  Ld 8 7]
def f153x1 : List AOper := [
  Bc 10 .eql 8 4,
  Mv 9 10]
def f153x2 : List AOper := [
  Bc 12 .eql 8 3,
  Mv 11 12]
def f153x3 : List AOper := [
  Bc 14 .eql 8 2,
  Mv 13 14]
def f153x4 : List AOper := [
  Mv 15 1,
  Ca 16 145 [(.c (.int .i64 6)), (.c (.int .i64 2))],
  Op 17 (.call (.t 15) [(.t 16)])]
def f153x5 : List AOper := [
  Mv 18 0,
  Ca 19 151 [(.t 18), (.c (.int .i64 2))]]
def f153x6 : List AOper := [
  Mv 20 0,
  Ca 21 151 [(.t 20), (.c (.int .i64 5))]]
def f153x7 : List AOper := [
  Mv 22 1,
  Ca 23 145 [(.c (.int .i64 6)), (.c (.int .i64 2))],
  Op 24 (.call (.t 22) [(.t 23)])]
def f153x8 : List AOper := [
  Mv 25 0,
  Ca 26 151 [(.t 25), (.c (.int .i64 2))]]
def f153x9 : List AOper := [
  Mv 27 0,
  Nc 28 27,
  Fa 29 0 28,
  Fa 30 8 29,
  Ld 31 30,
  Bc 32 .neq 31 0]
def f153x10 : List AOper := [
  Mv 33 0,
  Ca 34 151 [(.t 33), (.c (.int .i64 7))]]
def f153x11 : List AOper := [
  Mv 35 0,
  Op 36 (.build [.int .i64 0, .int .i64 0, .int .i64 0, .int .i64 0, .int .i64 0, .int .u32 0, .int .i64 0, .bool false, .int .i64 0] [] []),
  Nc 37 35,
  Fa 38 0 37,
  St 9 38 36]
def f153 : AFunc := ⟨39, 2, false, [], (.seq (.seq (.region f153x0 false) (.block 0 (.seq (.block 3 (.block 2 (.seq (.block 1 (.seq (.seq (.seq (.region f153x1 false) (.cond (.t 9) (.exit 1) .skip)) (.seq (.seq (.region f153x2 false) (.cond (.t 11) (.exit 2) .skip)) (.seq (.region f153x3 false) (.cond (.t 13) (.exit 3) .skip)))) (.exit 0))) (.seq (.seq (.region f153x4 false) (.seq (.region f153x5 false) (.region f153x6 false))) (.exit 0))))) (.seq (.seq (.region f153x7 false) (.region f153x8 false)) (.exit 0))))) (.seq (.seq (.region f153x9 false) (.cond (.t 32) (.region f153x10 false) .skip)) (.region f153x11 false)))⟩
def f154x0 : List AOper := [
  Mv 4 0,
  Mv 5 0,
  Nc 6 5,
  Fa 7 0 6,
  Fa 8 8 7,
  Ld 9 8,
  Ct 10 163 [4, 9]]
def f154x1 : List AOper := [
  Mv 11 0,
  Ct 12 164 [11]]
def f154x2 : List AOper := [
  Mv 13 0,
  Mv 14 0,
  Nc 15 14,
  Fa 16 0 15,
  Fa 17 2 16,
  Ld 18 17,
  Ct 19 163 [13, 18]]
def f154x3 : List AOper := [
  Mv 20 0,
  Ca 21 145 [(.c (.int .i64 4)), (.c (.int .i64 0))],
  Op 22 (.bsl 27 [.int .i64 0, .int .i64 0, .int .i64 0, .int .i64 0, .int .u32 0, .con (.slice none 0 0), .con (.slice none 0 0), .int .i64 0, .con (.slice none 0 0), .int .u32 0, .bool false, .int .i64 0, .bool false, .int .i64 0, .bool false, .bool false, .int .i64 0, .int .u32 0, .con (.slice none 0 0), .bool false, .int .u32 0, .con (.slice none 0 0), .con (.slice none 0 0), .con (.slice none 0 0), .int .i64 0, .int .i64 0, .con (.slice none 0 0)] 1 [0] [(.t 21)]),
  Ct 23 165 [20, 22]]
def f154x4 : List AOper := [
  Mv 24 0,
  Mv 25 0,
  Nc 26 25,
  Fa 27 0 26,
  Fa 28 3 27,
  Ld 29 28,
  Ct 30 163 [24, 29]]
def f154x5 : List AOper := [
  Mv 31 1,
  Op 32 (.build [.int .i64 0, .int .i64 0, .int .i64 0, .int .i64 0, .int .u32 0, .con (.slice none 0 0), .con (.slice none 0 0), .int .i64 0, .con (.slice none 0 0), .int .u32 0, .bool false, .int .i64 0, .bool false, .int .i64 0, .bool false, .bool false, .int .i64 0, .int .u32 0, .con (.slice none 0 0), .bool false, .int .u32 0, .con (.slice none 0 0), .con (.slice none 0 0), .con (.slice none 0 0), .int .i64 0, .int .i64 0, .con (.slice none 0 0)] [(0, 1)] [(.c (.int .i64 4))]),
  Op 33 (.call (.t 31) [(.t 32)])]
def f154x6 : List AOper := [
  Mv 34 0,
  Mv 35 0,
  Nc 36 35,
  Fa 37 9 36,
  Ld 38 37,
  Mv 39 0,
  Nc 40 39,
  Fa 41 0 40,
  Fa 42 4 41,
  Ld 43 42,
  Bc 44 .quo 43 3,
  Bi 45 .add 38 44,
  Nc 46 34,
  Fa 47 0 46,
  Fa 48 3 47,
  Af [4, 9] (St 1 48 45)]
def f154x7 : List AOper := [
  Mv 49 0,
  Mv 50 0,
  Nc 51 50,
  Fa 52 0 51,
  Fa 53 1 52,
  Ld 54 53,
  Ct 55 163 [49, 54]]
def f154x8 : List AOper := [
  Mv 56 0,
  Ca 57 151 [(.t 56), (.c (.int .i64 1))]]
def f154x9 : List AOper := [
  Mv 58 0,
  Mv 59 0,
  Nc 60 59,
  Fa 61 9 60,
  Ld 62 61,
  Bc 63 .add 62 30,
  Nc 64 58,
  Fa 65 0 64,
  Fa 66 1 65,
  St 1 66 63]
def f154 : AFunc := ⟨67, 2, false, [], (.seq (.seq (.region f154x0 false) (.cond (.t 10) (.region f154x1 false) .skip)) (.seq (.seq (.region f154x2 false) (.cond (.t 19) (.seq (.region f154x3 false) .ret) .skip)) (.seq (.seq (.region f154x4 false) (.cond (.t 30) (.seq (.region f154x5 false) (.region f154x6 true)) .skip)) (.seq (.region f154x7 false) (.cond (.t 55) (.seq (.region f154x8 false) (.region f154x9 false)) .skip)))))⟩
def f155x0 : List AOper := [
  Op 7 (.box (.t 1)),
  Op 9 (.box (.t 3))]
def f155x1 : List AOper := [
  Mv 16 0,
  Nc 17 16,
  Fa 18 0 17,
  Fa 19 0 18,
  Ld 20 19,
  Bc 21 .lss 20 2,
  Mv 22 21,
  Gf 22 (Mv 23 0),
  Gf 22 (Nc 24 23),
  Gf 22 (Fa 25 0 24),
  Gf 22 (Fa 26 0 25),
  Gf 22 (Ld 27 26),
  Gf 22 (Bc 28 .gtr 27 4),
  Po 29 22 28,
  Mv 15 29]
def f155x2 : List AOper := [
  Mv 31 4,
  Bc 32 .neq 31 0,
  Mv 33 32,
  Gt 33 (Ls 34 27 9),
  Gt 33 (Op 35 (.build [.int .i64 0, .int .i64 0, .int .i64 0, .int .i64 0, .int .u32 0, .con (.slice none 0 0), .con (.slice none 0 0), .int .i64 0, .con (.slice none 0 0), .int .u32 0, .bool false, .int .i64 0, .bool false, .int .i64 0, .bool false, .bool false, .int .i64 0, .int .u32 0, .con (.slice none 0 0), .bool false, .int .u32 0, .con (.slice none 0 0), .con (.slice none 0 0), .con (.slice none 0 0), .int .i64 0, .int .i64 0, .con (.slice none 0 0)] [] [])),
  Gt 33 (Ct 36 156 [34, 35]),
  Pa 37 33 36,
  Mv 30 37]
def f155x3 : List AOper := [
  Mv 38 0,
  Ca 39 165 [(.t 38), (.c (.con (.slice none 0 0)))]]
def f155x4 : List AOper := [
  Mv 41 4,
  Bc 42 .neq 41 0,
  Mv 40 42]
def f155x5 : List AOper := [
  Mv 43 0,
  Ls 44 27 9,
  Op 45 (.bsl 27 [.int .i64 0, .int .i64 0, .int .i64 0, .int .i64 0, .int .u32 0, .con (.slice none 0 0), .con (.slice none 0 0), .int .i64 0, .con (.slice none 0 0), .int .u32 0, .bool false, .int .i64 0, .bool false, .int .i64 0, .bool false, .bool false, .int .i64 0, .int .u32 0, .con (.slice none 0 0), .bool false, .int .u32 0, .con (.slice none 0 0), .con (.slice none 0 0), .con (.slice none 0 0), .int .i64 0, .int .i64 0, .con (.slice none 0 0)] 1 [0] [(.t 44)]),
  Ct 46 165 [43, 45]]
def f155x6 : List AOper := [
  Fa 48 0 9,
  Ld 49 48,
  Bc 50 .eql 49 3,
  Mv 47 50]
def f155x7 : List AOper := [
  Mv 51 0,
  Ca 52 165 [(.t 51), (.c (.con (.slice none 0 0)))]]
def f155x8 : List AOper := [
  Mv 54 0,
  Nc 55 54,
  Fa 56 0 55,
  Fa 57 0 56,
  Ld 58 57,
  Bc 59 .eql 58 2,
  Mv 53 59]
def f155x9 : List AOper := [
  Mv 60 0,
  Ls 61 15 7,
  Mv 62 2,
  Ls 63 27 9,
  Mv 64 5,
  Ct 65 166 [60, 61, 62, 63, 64]]
def f155x10 : List AOper := [
  Mv 67 0,
  Nc 68 67,
  Fa 69 0 68,
  Fa 70 0 69,
  Ld 71 70,
  Bc 72 .eql 71 3,
  Mv 66 72]
def f155x11 : List AOper := [
  Mv 73 0,
  Ls 74 27 9,
  Ct 75 167 [73, 74]]
def f155x12 : List AOper := [
  Mv 12 0,
  Ls 13 27 9,
  Ct 14 168 [12, 13]]
def f155 : AFunc := ⟨76, 6, false, [], (.seq (.region f155x0 false) (.block 0 (.seq (.region f155x1 false) (.cond (.t 15) .skip (.seq (.region f155x2 false) (.cond (.t 30) (.region f155x3 false) (.seq (.region f155x4 false) (.cond (.t 40) (.region f155x5 false) (.seq (.region f155x6 false) (.cond (.t 47) (.region f155x7 false) (.seq (.region f155x8 false) (.cond (.t 53) (.region f155x9 false) (.seq (.region f155x10 false) (.cond (.t 66) (.region f155x11 false) (.region f155x12 false)))))))))))))))⟩
def f97x0 : List AOper := [
  Mc 4 (.bool false)]
def f97x1 : List AOper := [
  Mv 7 0,
  Ln 8 0 7,
  Mv 9 1,
  Ln 10 0 9,
  Bi 11 .neq 8 10]
def f97x2 : List AOper := [
  Mc 4 (.bool false)]
def f97x3 : List AOper := [
  Mv 12 0,
  Ln 13 0 12,
  Mc 14 (.int .i64 0)]
def f97x4 : List AOper := [
  Bi 15 .lss 14 13]
def f97x5 : List AOper := [
  Mv 16 14,
  Mv 5 16]
def f97x6 : List AOper := [
  Mv 17 0,
  Mv 18 5,
  Ia 19 2 17 18,
  Fa 20 0 19,
  Af [2] (Ld 21 20),
  Mv 22 1,
  Mv 23 5,
  Ia 24 2 22 23,
  Fa 25 0 24,
  Af [7] (Ld 26 25),
  Bi 27 .neq 21 26,
  Mv 28 27,
  Gf 28 (Mv 29 0),
  Gf 28 (Mv 30 5),
  Af [4, 9, 2, 7] (Gf 28 (Ia 31 2 29 30)),
  Gf 28 (Fa 32 1 31),
  Af [14, 4, 9, 2, 7] (Gf 28 (Ld 33 32)),
  Af [16, 14, 4, 9, 2, 7] (Gf 28 (Ln 34 0 33)),
  Gf 28 (Mv 35 1),
  Gf 28 (Mv 36 5),
  Af [4, 9, 2, 7] (Gf 28 (Ia 37 2 35 36)),
  Gf 28 (Fa 38 1 37),
  Af [20, 4, 9, 2, 7] (Gf 28 (Ld 39 38)),
  Af [22, 20, 4, 9, 2, 7] (Gf 28 (Ln 40 0 39)),
  Gf 28 (Bi 41 .neq 34 40),
  Po 42 28 41]
def f97x7 : List AOper := [
  Mc 4 (.bool false)]
def f97x8 : List AOper := [
  Mv 43 0,
  Mv 44 5,
  Ia 45 2 43 44,
  Fa 46 1 45,
  Ld 47 46,
  Ln 48 0 47,
  Mc 49 (.int .i64 0)]
def f97x9 : List AOper := [
  Bi 50 .lss 49 48]
def f97x10 : List AOper := [
  Mv 51 49,
  Mv 6 51]
def f97x11 : List AOper := [
  Mv 52 0,
  Mv 53 5,
  Ia 54 2 52 53,
  Fa 55 1 54,
  Af [2] (Ld 56 55),
  Mv 57 6,
  Af [4, 2] (Ia 58 1 56 57),
  Af [6, 4, 2] (Ld 59 58),
  Mv 60 1,
  Mv 61 5,
  Ia 62 2 60 61,
  Fa 63 1 62,
  Af [10] (Ld 64 63),
  Mv 65 6,
  Af [12, 10] (Ia 66 1 64 65),
  Af [14, 12, 10] (Ld 67 66),
  Bi 68 .neq 59 67]
def f97x12 : List AOper := [
  Mc 4 (.bool false)]
def f97x13 : List AOper := [
  Bc 69 .add 49 1,
  Mv 49 69]
def f97x14L : ACode := (.seq (.region f97x9 false) (.seq (.cond (.t 50) .skip (.exit 2)) (.seq (.block 3 (.seq (.region f97x10 false) (.seq (.region f97x11 true) (.cond (.t 68) (.seq (.region f97x12 false) .ret) .skip)))) (.region f97x13 false))))
def f97x15 : List AOper := [
  Bc 70 .add 14 1,
  Mv 14 70]
def f97x16L : ACode := (.seq (.region f97x4 false) (.seq (.cond (.t 15) .skip (.exit 0)) (.seq (.block 1 (.seq (.region f97x5 false) (.seq (.seq (.region f97x6 true) (.cond (.t 42) (.seq (.region f97x7 false) .ret) .skip)) (.seq (.region f97x8 false) (.block 2 (.loop f97x14L)))))) (.region f97x15 false))))
def f97x17 : List AOper := [
  Mc 4 (.bool true)]
def f97 : AFunc := ⟨71, 2, false, [.t 4], (.seq (.region f97x0 false) (.seq (.seq (.region f97x1 false) (.cond (.t 11) (.seq (.region f97x2 false) .ret) .skip)) (.seq (.seq (.region f97x3 false) (.block 0 (.loop f97x16L))) (.seq (.region f97x17 false) .ret))))⟩
def f98x0 : List AOper := [
  Mc 4 (.bool false)]
def f98x1 : List AOper := [
  Mv 5 0,
  Op 6 (.b2s (.t 5)),
  Mv 7 1,
  Op 8 (.b2s (.t 7)),
  Bi 9 .eql 6 8,
  Mv 4 9]
def f98 : AFunc := ⟨10, 2, false, [.t 4], (.seq (.region f98x0 false) (.seq (.region f98x1 false) .ret))⟩
def f99x0 : List AOper := [
  Mc 4 (.bool false)]
def f99x1 : List AOper := [
  Mv 6 0,
  Ln 7 0 6,
  Mv 8 1,
  Ln 9 0 8,
  Bi 10 .neq 7 9]
def f99x2 : List AOper := [
  Mc 4 (.bool false)]
def f99x3 : List AOper := [
  Mv 11 0,
  Ln 12 0 11,
  Mc 13 (.int .i64 0)]
def f99x4 : List AOper := [
  Bi 14 .lss 13 12]
def f99x5 : List AOper := [
  Mv 15 13,
  Mv 5 15]
def f99x6 : List AOper := [
  Mv 16 0,
  Mv 17 5,
  Ia 18 1 16 17,
  Af [2] (Ld 19 18),
  Mv 20 1,
  Mv 21 5,
  Ia 22 1 20 21,
  Af [6] (Ld 23 22),
  Bi 24 .neq 19 23]
def f99x7 : List AOper := [
  Mc 4 (.bool false)]
def f99x8 : List AOper := [
  Bc 25 .add 13 1,
  Mv 13 25]
def f99x9L : ACode := (.seq (.region f99x4 false) (.seq (.cond (.t 14) .skip (.exit 0)) (.seq (.block 1 (.seq (.region f99x5 false) (.seq (.region f99x6 true) (.cond (.t 24) (.seq (.region f99x7 false) .ret) .skip)))) (.region f99x8 false))))
def f99x10 : List AOper := [
  Mc 4 (.bool true)]
def f99 : AFunc := ⟨26, 2, false, [.t 4], (.seq (.region f99x0 false) (.seq (.seq (.region f99x1 false) (.cond (.t 10) (.seq (.region f99x2 false) .ret) .skip)) (.seq (.seq (.region f99x3 false) (.block 0 (.loop f99x9L))) (.seq (.region f99x10 false) .ret))))⟩
def f119x0 : List AOper := [
  Mc 2 (.con (.slice none 0 0))]
def f119x1 : List AOper := [
  Mc 3 (.int .i64 0)]
def f119x2 : List AOper := [
  Mv 9 0,
  Ln 10 0 9,
  Mc 11 (.int .i64 0)]
def f119x3 : List AOper := [
  Bi 12 .lss 11 10]
def f119x4 : List AOper := [
  Ia 13 1 9 11,
  Ld 14 13,
  Mv 5 14]
def f119x5 : List AOper := [
  Mv 15 3,
  Mv 16 5,
  Ln 17 0 16,
  Bi 18 .add 15 17,
  Mv 3 18]
def f119x6 : List AOper := [
  Bc 19 .add 11 1,
  Mv 11 19]
def f119x7L : ACode := (.seq (.region f119x3 false) (.seq (.cond (.t 12) .skip (.exit 0)) (.seq (.block 1 (.seq (.region f119x4 false) (.region f119x5 false))) (.region f119x6 false))))
def f119x8 : List AOper := [
  Mv 20 3,
  Op 21 (.mksl 1 1 [.int .u8 0] (.c (.int .i64 0)) (.t 20)),
  Mv 6 21]
def f119x9 : List AOper := [
  Mv 22 0,
  Ln 23 0 22,
  Mc 24 (.int .i64 0)]
def f119x10 : List AOper := [
  Bi 25 .lss 24 23]
def f119x11 : List AOper := [
  Ia 26 1 22 24,
  Ld 27 26,
  Mv 8 27]
def f119x12 : List AOper := [
  Mv 28 6,
  Mv 29 8,
  Ap 30 1 1 28 29,
  Mv 6 30]
def f119x13 : List AOper := [
  Bc 31 .add 24 1,
  Mv 24 31]
def f119x14L : ACode := (.seq (.region f119x10 false) (.seq (.cond (.t 25) .skip (.exit 2)) (.seq (.block 3 (.seq (.region f119x11 false) (.region f119x12 false))) (.region f119x13 false))))
def f119x15 : List AOper := [
  Mv 32 6,
  Mv 2 32]
def f119 : AFunc := ⟨33, 1, false, [.t 2], (.seq (.region f119x0 false) (.seq (.region f119x1 false) (.seq (.seq (.region f119x2 false) (.block 0 (.loop f119x7L))) (.seq (.region f119x8 false) (.seq (.seq (.region f119x9 false) (.block 2 (.loop f119x14L))) (.seq (.region f119x15 false) .ret))))))⟩
def f119x7LH : List AItem := [.inLoop f119x7L, .inBlock 0, .code (.seq (.region f119x8 false) (.seq (.seq (.region f119x9 false) (.block 2 (.loop f119x14L))) (.seq (.region f119x15 false) .ret)))]
def f119x14LH : List AItem := [.inLoop f119x14L, .inBlock 2, .code (.seq (.region f119x15 false) .ret)]
def f120x0 : List AOper := [
  Mc 4 (.con (.slice none 0 0))]
def f120x1 : List AOper := [
  Mc 5 (.con (.slice none 0 0))]
def f120x2 : List AOper := [
  Mv 7 0,
  Bc 8 .sub 7 1,
  Mv 6 8]
def f120x3 : List AOper := [
  Mv 9 6,
  Bc 10 .geq 9 0]
def f120x4 : List AOper := [
  Mv 13 5,
  Mv 14 1,
  Mv 15 6,
  Op 16 (.bin .mul (.c (.int .i64 8)) (.t 15)),
  Bi 17 .shr 14 16,
  Cv 18 .u8 17,
  Op 19 (.bsl 1 [.int .u8 0] 1 [0] [(.t 18)]),
  Ap 20 1 1 13 19,
  Mv 5 20]
def f120x5 : List AOper := [
  Mv 11 6,
  Bc 12 .sub 11 1,
  Mv 6 12]
def f120x6L : ACode := (.seq (.seq (.region f120x3 false) (.cond (.t 10) .skip (.exit 0))) (.seq (.block 1 (.region f120x4 false)) (.region f120x5 false)))
def f120x7 : List AOper := [
  Mv 21 5,
  Mv 4 21]
def f120 : AFunc := ⟨22, 2, false, [.t 4], (.seq (.region f120x0 false) (.seq (.region f120x1 false) (.seq (.seq (.region f120x2 false) (.block 0 (.loop f120x6L))) (.seq (.region f120x7 false) .ret))))⟩
def f120x6LH : List AItem := [.inLoop f120x6L, .inBlock 0, .code (.seq (.region f120x7 false) .ret)]
def f26x0 : List AOper := [
  Op 1 (.box (.t 0)),
  Mc 2 (.int .i64 0)]
def f26x1 : List AOper := [
  Fa 6 1 1,
  Ld 7 6,
  Af [1] (Ct 8 54 [7]),
  Fa 9 11 1,
  Ld 10 9,
  Af [4] (Ln 11 0 10),
  Bi 12 .add 8 11,
  Fa 13 14 1,
  Ld 14 13,
  Af [8] (Ln 15 0 14),
  Bi 16 .add 12 15,
  Fa 17 15 1,
  Ld 18 17,
  Af [12] (Ln 19 0 18),
  Bi 20 .add 16 19,
  Mv 3 20]
def f26x2 : List AOper := [
  Fa 21 15 1,
  Ld 22 21,
  Ln 23 0 22,
  Mc 24 (.int .i64 0)]
def f26x3 : List AOper := [
  Bi 25 .lss 24 23]
def f26x4 : List AOper := [
  Ia 26 2 22 24,
  Ls 27 2 26,
  Op 5 (.alloc (.agg [.int .i64 0, .con (.slice none 0 0)])),
  St 2 5 27]
def f26x5 : List AOper := [
  Mv 28 3,
  Fa 29 1 5,
  Ld 30 29,
  Ln 31 0 30,
  Bc 32 .quo 31 8,
  Bi 33 .add 28 32,
  Mv 3 33]
def f26x6 : List AOper := [
  Bc 34 .add 24 1,
  Mv 24 34]
def f26x7L : ACode := (.seq (.region f26x3 false) (.seq (.cond (.t 25) .skip (.exit 0)) (.seq (.block 1 (.seq (.region f26x4 false) (.region f26x5 false))) (.region f26x6 false))))
def f26x8 : List AOper := [
  Mv 35 3,
  Mv 2 35]
def f26 : AFunc := ⟨36, 1, false, [.t 2], (.seq (.region f26x0 false) (.seq (.region f26x1 true) (.seq (.seq (.region f26x2 false) (.block 0 (.loop f26x7L))) (.seq (.region f26x8 false) .ret))))⟩
def f26x7LH : List AItem := [.inLoop f26x7L, .inBlock 0, .code (.seq (.region f26x8 false) .ret)]
def f156x0 : List AOper := [
  Op 2 (.box (.t 0)),
  Op 3 (.box (.t 1)),
  Mc 4 (.bool false)]
def f156x1 : List AOper := [
  Fa 6 0 2,
  Ld 7 6,
  Fa 8 0 3,
  Ld 9 8,
  Bi 10 .neq 7 9,
  Mv 11 10,
  Gf 11 (Fa 12 1 2),
  Gf 11 (Ld 13 12),
  Gf 11 (Fa 14 1 3),
  Gf 11 (Ld 15 14),
  Gf 11 (Bi 16 .neq 13 15),
  Po 17 11 16,
  Mv 18 17,
  Gf 18 (Fa 19 2 2),
  Gf 18 (Ld 20 19),
  Gf 18 (Fa 21 2 3),
  Gf 18 (Ld 22 21),
  Gf 18 (Bi 23 .neq 20 22),
  Po 24 18 23,
  Mv 25 24,
  Gf 25 (Fa 26 3 2),
  Gf 25 (Ld 27 26),
  Gf 25 (Fa 28 3 3),
  Gf 25 (Ld 29 28),
  Gf 25 (Bi 30 .neq 27 29),
  Po 31 25 30,
  Mv 32 31,
  Gf 32 (Fa 33 4 2),
  Gf 32 (Ld 34 33),
  Gf 32 (Fa 35 4 3),
  Gf 32 (Ld 36 35),
  Gf 32 (Bi 37 .neq 34 36),
  Po 38 32 37,
  Mv 39 38,
  Gf 39 (Fa 40 5 2),
  Gf 39 (Ld 41 40),
  Gf 39 (Ln 42 0 41),
  Gf 39 (Fa 43 5 3),
  Gf 39 (Ld 44 43),
  Gf 39 (Ln 45 0 44),
  Gf 39 (Bi 46 .neq 42 45),
  Po 47 39 46,
  Mv 48 47,
  Gf 48 (Fa 49 24 2),
  Gf 48 (Ld 50 49),
  Gf 48 (Fa 51 24 3),
  Gf 48 (Ld 52 51),
  Gf 48 (Bi 53 .neq 50 52),
  Po 54 48 53,
  Mv 55 54,
  Gf 55 (Fa 56 25 2),
  Gf 55 (Ld 57 56),
  Gf 55 (Fa 58 25 3),
  Gf 55 (Ld 59 58),
  Gf 55 (Bi 60 .neq 57 59),
  Po 61 55 60,
  Mv 62 61,
  Gf 62 (Fa 63 26 2),
  Gf 62 (Ld 64 63),
  Gf 62 (Op 65 (.b2s (.t 64))),
  Gf 62 (Fa 66 26 3),
  Gf 62 (Ld 67 66),
  Gf 62 (Op 68 (.b2s (.t 67))),
  Gf 62 (Bi 69 .neq 65 68),
  Po 70 62 69]
def f156x2 : List AOper := [
  Mc 4 (.bool false)]
def f156x3 : List AOper := [
  Fa 71 5 2,
  Ld 72 71,
  Ln 73 0 72,
  Mc 74 (.int .i64 0)]
def f156x4 : List AOper := [
  Bi 75 .lss 74 73]
def f156x5 : List AOper := [
  Mv 76 74,
  Mv 5 76]
def f156x6 : List AOper := [
  Fa 77 5 2,
  Ld 78 77,
  Mv 79 5,
  Af [1] (Ia 80 2 78 79),
  Fa 81 0 80,
  Af [3, 1] (Ld 82 81),
  Fa 83 5 3,
  Ld 84 83,
  Mv 85 5,
  Af [7] (Ia 86 2 84 85),
  Fa 87 0 86,
  Af [9, 7] (Ld 88 87),
  Bi 89 .neq 82 88,
  Mv 90 89,
  Gf 90 (Fa 91 5 2),
  Af [5, 11, 3, 1, 9, 7] (Gf 90 (Ld 92 91)),
  Gf 90 (Mv 93 5),
  Af [15, 5, 11, 3, 1, 9, 7] (Gf 90 (Ia 94 2 92 93)),
  Gf 90 (Fa 95 1 94),
  Af [17, 15, 5, 11, 3, 1, 9, 7] (Gf 90 (Ld 96 95)),
  Af [19, 17, 15, 5, 11, 3, 1, 9, 7] (Gf 90 (Op 97 (.b2s (.t 96)))),
  Gf 90 (Fa 98 5 3),
  Af [5, 11, 3, 1, 9, 7] (Gf 90 (Ld 99 98)),
  Gf 90 (Mv 100 5),
  Af [22, 5, 11, 3, 1, 9, 7] (Gf 90 (Ia 101 2 99 100)),
  Gf 90 (Fa 102 1 101),
  Af [24, 22, 5, 11, 3, 1, 9, 7] (Gf 90 (Ld 103 102)),
  Af [26, 24, 22, 5, 11, 3, 1, 9, 7] (Gf 90 (Op 104 (.b2s (.t 103)))),
  Gf 90 (Bi 105 .neq 97 104),
  Po 106 90 105]
def f156x7 : List AOper := [
  Mc 4 (.bool false)]
def f156x8 : List AOper := [
  Bc 107 .add 74 1,
  Mv 74 107]
def f156x9L : ACode := (.seq (.region f156x4 false) (.seq (.cond (.t 75) .skip (.exit 0)) (.seq (.block 1 (.seq (.region f156x5 false) (.seq (.region f156x6 true) (.cond (.t 106) (.seq (.region f156x7 false) .ret) .skip)))) (.region f156x8 false))))
def f156x10 : List AOper := [
  Fa 108 6 2,
  Ld 109 108,
  Fa 110 6 3,
  Ld 111 110,
  Ct 112 169 [109, 111],
  Mv 113 112,
  Gt 113 (Fa 114 7 2),
  Gt 113 (Ls 115 16 114),
  Gt 113 (Fa 116 7 3),
  Gt 113 (Ls 117 16 116),
  Gt 113 (Ct 118 72 [115, 117]),
  Pa 119 113 118,
  Mv 120 119,
  Gt 120 (Fa 121 23 2),
  Gt 120 (Ld 122 121),
  Gt 120 (Fa 123 23 3),
  Gt 120 (Ld 124 123),
  Gt 120 (Ct 125 169 [122, 124]),
  Pa 126 120 125,
  Mv 4 126]
def f156 : AFunc := ⟨127, 2, false, [.t 4], (.seq (.region f156x0 false) (.seq (.seq (.region f156x1 false) (.cond (.t 70) (.seq (.region f156x2 false) .ret) .skip)) (.seq (.seq (.region f156x3 false) (.block 0 (.loop f156x9L))) (.seq (.region f156x10 false) .ret))))⟩
def f156x9LH : List AItem := [.inLoop f156x9L, .inBlock 0, .code (.seq (.region f156x10 false) .ret)]
def f157x0 : List AOper := [
  Op 1 (.box (.t 0)),
  Op 2 (.alloc (.agg [.int .i64 0, .int .i64 0, .int .i64 0, .int .i64 0, .int .u32 0, .con (.slice none 0 0), .con (.slice none 0 0), .int .i64 0, .con (.slice none 0 0), .int .u32 0, .bool false, .int .i64 0, .bool false, .int .i64 0, .bool false, .bool false, .int .i64 0, .int .u32 0, .con (.slice none 0 0), .bool false, .int .u32 0, .con (.slice none 0 0), .con (.slice none 0 0), .con (.slice none 0 0), .int .i64 0, .int .i64 0, .con (.slice none 0 0)]))]
def f157x1 : List AOper := [
  Fa 4 0 1,
  Ld 5 4,
  Op 6 (.build [.int .i64 0, .int .i64 0, .int .i64 0, .int .i64 0, .int .u32 0, .con (.slice none 0 0), .con (.slice none 0 0), .int .i64 0, .con (.slice none 0 0), .int .u32 0, .bool false, .int .i64 0, .bool false, .int .i64 0, .bool false, .bool false, .int .i64 0, .int .u32 0, .con (.slice none 0 0), .bool false, .int .u32 0, .con (.slice none 0 0), .con (.slice none 0 0), .con (.slice none 0 0), .int .i64 0, .int .i64 0, .con (.slice none 0 0)] [(0, 1)] [(.t 5)]),
  Op 3 (.alloc (.agg [.int .i64 0, .int .i64 0, .int .i64 0, .int .i64 0, .int .u32 0, .con (.slice none 0 0), .con (.slice none 0 0), .int .i64 0, .con (.slice none 0 0), .int .u32 0, .bool false, .int .i64 0, .bool false, .int .i64 0, .bool false, .bool false, .int .i64 0, .int .u32 0, .con (.slice none 0 0), .bool false, .int .u32 0, .con (.slice none 0 0), .con (.slice none 0 0), .con (.slice none 0 0), .int .i64 0, .int .i64 0, .con (.slice none 0 0)])),
  St 27 3 6]
def f157x2 : List AOper := [
  Fa 7 0 1,
  Ld 8 7]
def f157x3 : List AOper := [
  Bc 10 .eql 8 1,
  Mv 9 10]
def f157x4 : List AOper := [
  Fa 11 1 1,
  Ld 12 11,
  Fa 13 2 1,
  Ld 14 13,
  Fa 15 3 1,
  Ld 16 15,
  Fa 17 4 1,
  Ld 18 17,
  Fa 19 5 1,
  Ld 20 19,
  Fa 21 1 3,
  Af [1] (St 1 21 12),
  Fa 22 2 3,
  Af [3, 11, 1] (St 1 22 14),
  Fa 23 3 3,
  Af [5, 13, 3, 11, 1] (St 1 23 16),
  Fa 24 4 3,
  Af [7, 15, 5, 13, 3, 11, 1] (St 1 24 18),
  Fa 25 5 3,
  Af [9, 17, 7, 15, 5, 13, 3, 11, 1] (St 1 25 20)]
def f157x5 : List AOper := [
  Bc 27 .eql 8 2,
  Mv 26 27]
def f157x6 : List AOper := [
  Fa 28 6 1,
  Ld 29 28,
  Fa 30 7 1,
  Ls 31 16 30,
  Fa 32 23 1,
  Ld 33 32,
  Fa 34 6 3,
  Af [1] (St 1 34 29),
  Fa 35 7 3,
  Af [3, 7, 1] (St 16 35 31),
  Fa 36 23 3,
  Af [5, 9, 3, 7, 1] (St 1 36 33)]
def f157x7 : List AOper := [
  Bc 38 .eql 8 3,
  Mv 37 38]
def f157x8 : List AOper := [
  Fa 39 24 1,
  Ld 40 39,
  Fa 41 25 1,
  Ld 42 41,
  Fa 43 26 1,
  Ld 44 43,
  Fa 45 24 3,
  Af [1] (St 1 45 40),
  Fa 46 25 3,
  Af [3, 7, 1] (St 1 46 42),
  Fa 47 26 3,
  Af [5, 9, 3, 7, 1] (St 1 47 44)]
def f157x9 : List AOper := [
  Ls 48 27 3,
  St 27 2 48]
def f157 : AFunc := ⟨49, 1, false, [.cell 2 (some 27)], (.seq (.region f157x0 false) (.seq (.region f157x1 false) (.seq (.seq (.region f157x2 false) (.block 0 (.seq (.region f157x3 false) (.cond (.t 9) (.region f157x4 true) (.seq (.region f157x5 false) (.cond (.t 26) (.region f157x6 true) (.seq (.region f157x7 false) (.cond (.t 37) (.region f157x8 true) .skip)))))))) (.seq (.region f157x9 false) .ret))))⟩
def f158x0 : List AOper := [
  Op 1 (.box (.t 0)),
  Mc 2 (.int .i64 0)]
def f158x1 : List AOper := [
  Fa 4 1 1,
  Ld 5 4,
  Bc 6 .neq 5 4,
  Mv 3 6]
def f158x2 : List AOper := [
  Mc 2 (.int .i64 12)]
def f158x3 : List AOper := [
  Fa 8 2 1,
  Ld 9 8,
  Bc 10 .lss 9 1,
  Mv 11 10,
  Gf 11 (Fa 12 2 1),
  Gf 11 (Ld 13 12),
  Gf 11 (Bc 14 .gtr 13 4294967295),
  Po 15 11 14,
  Mv 7 15]
def f158x4 : List AOper := [
  Mc 2 (.int .i64 5)]
def f158x5 : List AOper := [
  Fa 17 3 1,
  Ld 18 17,
  Bc 19 .neq 18 0,
  Mv 20 19,
  Gt 20 (Fa 21 3 1),
  Gt 20 (Ld 22 21),
  Gt 20 (Bc 23 .lss 22 3),
  Gt 20 (Mv 24 23),
  Gf 24 (Fa 25 3 1),
  Gf 24 (Ld 26 25),
  Gf 24 (Bc 27 .gtr 26 65535),
  Gt 20 (Po 28 24 27),
  Pa 29 20 28,
  Mv 16 29]
def f158x6 : List AOper := [
  Mc 2 (.int .i64 21)]
def f158x7 : List AOper := [
  Fa 31 4 1,
  Ld 32 31,
  Op 33 (.bin .eql (.t 32) (.c (.int .u32 0))),
  Mv 30 33]
def f158x8 : List AOper := [
  Mc 2 (.int .i64 1)]
def f158x9 : List AOper := [
  Ls 34 27 1,
  Ct 35 170 [34],
  Mv 2 35]
def f158 : AFunc := ⟨36, 1, false, [.t 2], (.seq (.region f158x0 false) (.seq (.block 0 (.seq (.region f158x1 false) (.cond (.t 3) (.seq (.region f158x2 false) .ret) (.seq (.region f158x3 false) (.cond (.t 7) (.seq (.region f158x4 false) .ret) (.seq (.region f158x5 false) (.cond (.t 16) (.seq (.region f158x6 false) .ret) (.seq (.region f158x7 false) (.cond (.t 30) (.seq (.region f158x8 false) .ret) .skip))))))))) (.seq (.region f158x9 false) .ret)))⟩
def f159x0 : List AOper := [
  Op 1 (.box (.t 0)),
  Mc 2 (.int .i64 0)]
def f159x1 : List AOper := [
  Fa 8 6 1,
  Ld 9 8,
  Ct 10 171 [9],
  Mv 3 10]
def f159x2 : List AOper := [
  Mv 11 3,
  Bc 12 .neq 11 0]
def f159x3 : List AOper := [
  Mv 13 3,
  Mv 2 13]
def f159x4 : List AOper := [
  Fa 14 23 1,
  Ld 15 14,
  Ct 16 171 [15],
  Mv 4 16]
def f159x5 : List AOper := [
  Mv 17 4,
  Bc 18 .neq 17 0]
def f159x6 : List AOper := [
  Mv 19 4,
  Mv 2 19]
def f159x7 : List AOper := [
  Mc 5 (.int .i64 0)]
def f159x8 : List AOper := [
  Fa 20 6 1,
  Ld 21 20,
  Ln 22 0 21,
  Mc 23 (.int .i64 0)]
def f159x9 : List AOper := [
  Bi 24 .lss 23 22]
def f159x10 : List AOper := [
  Ia 25 2 21 23,
  Ls 26 2 25,
  Op 7 (.alloc (.agg [.int .u32 0, .int .i64 0])),
  St 2 7 26]
def f159x11 : List AOper := [
  Mv 27 5,
  Fa 28 23 1,
  Ld 29 28,
  Af [2] (Ln 30 0 29),
  Bi 31 .lss 27 30,
  Mv 32 31,
  Gt 32 (Fa 33 23 1),
  Af [3, 2] (Gt 32 (Ld 34 33)),
  Gt 32 (Mv 35 5),
  Af [7, 3, 2] (Gt 32 (Ia 36 2 34 35)),
  Af [9, 7, 3, 2] (Gt 32 (Ls 37 2 36)),
  Af [3, 2] (Gt 32 (Ls 38 2 7)),
  Af [10, 11, 9, 7, 3, 2] (Gt 32 (Ct 39 172 [37, 38])),
  Gt 32 (Bc 40 .lss 39 0),
  Pa 41 32 40]
def f159x12 : List AOper := [
  Mv 42 5,
  Bc 43 .add 42 1,
  Mv 5 43]
def f159x13L : ACode := (.seq (.seq (.region f159x11 true) (.cond (.t 41) .skip (.exit 2))) (.block 3 (.region f159x12 false)))
def f159x14 : List AOper := [
  Mv 44 5,
  Fa 45 23 1,
  Ld 46 45,
  Af [2] (Ln 47 0 46),
  Bi 48 .lss 44 47,
  Mv 49 48,
  Gt 49 (Fa 50 23 1),
  Af [3, 2] (Gt 49 (Ld 51 50)),
  Gt 49 (Mv 52 5),
  Af [7, 3, 2] (Gt 49 (Ia 53 2 51 52)),
  Af [9, 7, 3, 2] (Gt 49 (Ls 54 2 53)),
  Af [3, 2] (Gt 49 (Ls 55 2 7)),
  Gt 49 (Op 56 (.eqs [.int, .int] false (.t 54) (.t 55))),
  Pa 57 49 56]
def f159x15 : List AOper := [
  Mc 2 (.int .i64 7)]
def f159x16 : List AOper := [
  Bc 58 .add 23 1,
  Mv 23 58]
def f159x17L : ACode := (.seq (.region f159x9 false) (.seq (.cond (.t 24) .skip (.exit 0)) (.seq (.block 1 (.seq (.region f159x10 false) (.seq (.block 2 (.loop f159x13L)) (.seq (.region f159x14 true) (.cond (.t 57) (.seq (.region f159x15 false) .ret) .skip))))) (.region f159x16 false))))
def f159x18 : List AOper := [
  Fa 59 23 1,
  Ld 60 59,
  Ln 61 0 60,
  Bc 62 .gtr 61 0]
def f159x19 : List AOper := [
  Fa 63 7 1,
  Ls 64 16 63,
  Ct 65 65 [64],
  Mv 2 65]
def f159x20 : List AOper := [
  Fa 66 7 1,
  Ls 67 16 66,
  Op 68 (.build [.int .i64 0, .con (.slice none 0 0), .int .u32 0, .bool false, .int .i64 0, .bool false, .int .i64 0, .bool false, .bool false, .int .i64 0, .int .u32 0, .con (.slice none 0 0), .bool false, .int .u32 0, .con (.slice none 0 0), .con (.slice none 0 0)] [] []),
  Ct 69 72 [67, 68],
  Un 70 .not 69]
def f159x21 : List AOper := [
  Mc 2 (.int .i64 1)]
def f159x22 : List AOper := [
  Mc 2 (.int .i64 0)]
def f159 : AFunc := ⟨71, 1, false, [.t 2], (.seq (.region f159x0 false) (.seq (.seq (.region f159x1 false) (.seq (.region f159x2 false) (.cond (.t 12) (.seq (.region f159x3 false) .ret) .skip))) (.seq (.seq (.region f159x4 false) (.seq (.region f159x5 false) (.cond (.t 18) (.seq (.region f159x6 false) .ret) .skip))) (.seq (.region f159x7 false) (.seq (.seq (.region f159x8 false) (.block 0 (.loop f159x17L))) (.seq (.seq (.region f159x18 false) (.cond (.t 62) (.seq (.region f159x19 false) .ret) .skip)) (.seq (.seq (.region f159x20 false) (.cond (.t 70) (.seq (.region f159x21 false) .ret) .skip)) (.seq (.region f159x22 false) .ret))))))))⟩
def f160x0 : List AOper := [
  Op 1 (.box (.t 0)),
  Mc 2 (.bool false)]
def f160x1 : List AOper := [
  Fa 6 1 1,
  Ld 7 6,
  Bc 8 .eql 7 0,
  Mv 9 8,
  Gt 9 (Fa 10 2 1),
  Gt 9 (Ld 11 10),
  Gt 9 (Bc 12 .eql 11 0),
  Pa 13 9 12,
  Mv 14 13,
  Gt 14 (Fa 15 3 1),
  Gt 14 (Ld 16 15),
  Gt 14 (Bc 17 .eql 16 0),
  Pa 18 14 17,
  Mv 19 18,
  Gt 19 (Fa 20 4 1),
  Gt 19 (Ld 21 20),
  Gt 19 (Op 22 (.bin .eql (.t 21) (.c (.int .u32 0)))),
  Pa 23 19 22,
  Mv 24 23,
  Gt 24 (Fa 25 5 1),
  Gt 24 (Ld 26 25),
  Gt 24 (Ln 27 0 26),
  Gt 24 (Bc 28 .eql 27 0),
  Pa 29 24 28,
  Mv 3 29]
def f160x2 : List AOper := [
  Fa 30 6 1,
  Ld 31 30,
  Ln 32 0 31,
  Bc 33 .eql 32 0,
  Mv 34 33,
  Gt 34 (Fa 35 23 1),
  Gt 34 (Ld 36 35),
  Gt 34 (Ln 37 0 36),
  Gt 34 (Bc 38 .eql 37 0),
  Pa 39 34 38,
  Mv 40 39,
  Gt 40 (Fa 41 7 1),
  Gt 40 (Ls 42 16 41),
  Gt 40 (Op 43 (.build [.int .i64 0, .con (.slice none 0 0), .int .u32 0, .bool false, .int .i64 0, .bool false, .int .i64 0, .bool false, .bool false, .int .i64 0, .int .u32 0, .con (.slice none 0 0), .bool false, .int .u32 0, .con (.slice none 0 0), .con (.slice none 0 0)] [] [])),
  Gt 40 (Ct 44 70 [42, 43]),
  Pa 45 40 44,
  Mv 4 45]
def f160x3 : List AOper := [
  Fa 46 24 1,
  Ld 47 46,
  Bc 48 .eql 47 0,
  Mv 49 48,
  Gt 49 (Fa 50 25 1),
  Gt 49 (Ld 51 50),
  Gt 49 (Bc 52 .eql 51 0),
  Pa 53 49 52,
  Mv 54 53,
  Gt 54 (Fa 55 26 1),
  Gt 54 (Ld 56 55),
  Gt 54 (Ln 57 0 56),
  Gt 54 (Bc 58 .eql 57 0),
  Pa 59 54 58,
  Mv 5 59]
def f160x4 : List AOper := [
  Mv 60 3,
  Mv 61 60,
  Gf 61 (Fa 62 0 1),
  Gf 61 (Ld 63 62),
  Gf 61 (Bc 64 .eql 63 1),
  Po 65 61 64,
  Mv 66 65,
  Gt 66 (Mv 67 4),
  Gt 66 (Mv 68 67),
  Gf 68 (Fa 69 0 1),
  Gf 68 (Ld 70 69),
  Gf 68 (Bc 71 .eql 70 2),
  Gt 66 (Po 72 68 71),
  Pa 73 66 72,
  Mv 74 73,
  Gt 74 (Mv 75 5),
  Gt 74 (Mv 76 75),
  Gf 76 (Fa 77 0 1),
  Gf 76 (Ld 78 77),
  Gf 76 (Bc 79 .eql 78 3),
  Gt 74 (Po 80 76 79),
  Pa 81 74 80,
  Mv 2 81]
def f160 : AFunc := ⟨82, 1, false, [.t 2], (.seq (.region f160x0 false) (.seq (.region f160x1 false) (.seq (.region f160x2 false) (.seq (.region f160x3 false) (.seq (.region f160x4 false) .ret)))))⟩
def f161x0 : List AOper := [
  Op 1 (.box (.t 0)),
  Mc 2 (.int .i64 0)]
def f161x1 : List AOper := [
  Fa 4 1 1,
  Ld 5 4,
  Bc 6 .neq 5 4,
  Mv 3 6]
def f161x2 : List AOper := [
  Mc 2 (.int .i64 12)]
def f161x3 : List AOper := [
  Fa 8 2 1,
  Ld 9 8,
  Bc 10 .lss 9 1,
  Mv 11 10,
  Gf 11 (Fa 12 2 1),
  Gf 11 (Ld 13 12),
  Gf 11 (Bc 14 .gtr 13 4294967295),
  Po 15 11 14,
  Mv 7 15]
def f161x4 : List AOper := [
  Mc 2 (.int .i64 5)]
def f161x5 : List AOper := [
  Fa 17 3 1,
  Ld 18 17,
  Bc 19 .neq 18 0,
  Mv 20 19,
  Gt 20 (Fa 21 3 1),
  Gt 20 (Ld 22 21),
  Gt 20 (Bc 23 .lss 22 3),
  Gt 20 (Mv 24 23),
  Gf 24 (Fa 25 3 1),
  Gf 24 (Ld 26 25),
  Gf 24 (Bc 27 .gtr 26 65535),
  Gt 20 (Po 28 24 27),
  Pa 29 20 28,
  Mv 16 29]
def f161x6 : List AOper := [
  Mc 2 (.int .i64 21)]
def f161x7 : List AOper := [
  Fa 31 4 1,
  Ld 32 31,
  Op 33 (.bin .eql (.t 32) (.c (.int .u32 0))),
  Mv 30 33]
def f161x8 : List AOper := [
  Mc 2 (.int .i64 1)]
def f161x9 : List AOper := [
  Ls 34 27 1,
  Ct 35 173 [34],
  Mv 2 35]
def f161 : AFunc := ⟨36, 1, false, [.t 2], (.seq (.region f161x0 false) (.seq (.block 0 (.seq (.region f161x1 false) (.cond (.t 3) (.seq (.region f161x2 false) .ret) (.seq (.region f161x3 false) (.cond (.t 7) (.seq (.region f161x4 false) .ret) (.seq (.region f161x5 false) (.cond (.t 16) (.seq (.region f161x6 false) .ret) (.seq (.region f161x7 false) (.cond (.t 30) (.seq (.region f161x8 false) .ret) .skip))))))))) (.seq (.region f161x9 false) .ret)))⟩
def f162x0 : List AOper := [
  Op 1 (.box (.t 0)),
  Mc 2 (.int .i64 0)]
def f162x1 : List AOper := [
  Fa 5 6 1,
  Ld 6 5,
  Ct 7 174 [6],
  Mv 3 7]
def f162x2 : List AOper := [
  Mv 8 3,
  Bc 9 .neq 8 0]
def f162x3 : List AOper := [
  Mv 10 3,
  Mv 2 10]
def f162x4 : List AOper := [
  Fa 11 23 1,
  Ld 12 11,
  Ct 13 174 [12],
  Mv 4 13]
def f162x5 : List AOper := [
  Mv 14 4,
  Bc 15 .neq 14 0]
def f162x6 : List AOper := [
  Mv 16 4,
  Mv 2 16]
def f162x7 : List AOper := [
  Fa 17 6 1,
  Ld 18 17,
  Fa 19 23 1,
  Ld 20 19,
  Ct 21 175 [18, 20]]
def f162x8 : List AOper := [
  Mc 2 (.int .i64 7)]
def f162x9 : List AOper := [
  Fa 22 23 1,
  Ld 23 22,
  Ln 24 0 23,
  Bc 25 .gtr 24 0]
def f162x10 : List AOper := [
  Fa 26 7 1,
  Ls 27 16 26,
  Ct 28 66 [27],
  Mv 2 28]
def f162x11 : List AOper := [
  Fa 29 7 1,
  Ls 30 16 29,
  Op 31 (.build [.int .i64 0, .con (.slice none 0 0), .int .u32 0, .bool false, .int .i64 0, .bool false, .int .i64 0, .bool false, .bool false, .int .i64 0, .int .u32 0, .con (.slice none 0 0), .bool false, .int .u32 0, .con (.slice none 0 0), .con (.slice none 0 0)] [] []),
  Ct 32 70 [30, 31],
  Un 33 .not 32]
def f162x12 : List AOper := [
  Mc 2 (.int .i64 1)]
def f162x13 : List AOper := [
  Mc 2 (.int .i64 0)]
def f162 : AFunc := ⟨34, 1, false, [.t 2], (.seq (.region f162x0 false) (.seq (.seq (.region f162x1 false) (.seq (.region f162x2 false) (.cond (.t 9) (.seq (.region f162x3 false) .ret) .skip))) (.seq (.seq (.region f162x4 false) (.seq (.region f162x5 false) (.cond (.t 15) (.seq (.region f162x6 false) .ret) .skip))) (.seq (.seq (.region f162x7 false) (.cond (.t 21) (.seq (.region f162x8 false) .ret) .skip)) (.seq (.seq (.region f162x9 false) (.cond (.t 25) (.seq (.region f162x10 false) .ret) .skip)) (.seq (.seq (.region f162x11 false) (.cond (.t 33) (.seq (.region f162x12 false) .ret) .skip)) (.seq (.region f162x13 false) .ret)))))))⟩
def f163x0 : List AOper := [
  Mc 4 (.bool false)]
def f163x1 : List AOper := [
  Mv 5 1,
  Bc 6 .neq 5 0,
  Mv 7 6,
  Gt 7 (Mv 8 1),
  Gt 7 (Mv 9 0),
  Gt 7 (Nc 10 9),
  Gt 7 (Fa 11 9 10),
  Gt 7 (Ld 12 11),
  Gt 7 (Bi 13 .leq 8 12),
  Pa 14 7 13,
  Mv 4 14]
def f163 : AFunc := ⟨15, 2, false, [.t 4], (.seq (.region f163x0 false) (.seq (.region f163x1 false) .ret))⟩
def f164x0 : List AOper := [
  Mv 2 0,
  Nc 3 2,
  Fa 4 0 3,
  Fa 5 8 4,
  ⟨none, .store 1 (.t 5) (.c (.int .i64 0)), none, []⟩]
def f164x1 : List AOper := [
  Mv 6 0,
  Ca 7 151 [(.t 6), (.c (.int .i64 7))]]
def f164 : AFunc := ⟨8, 1, false, [], (.seq (.region f164x0 false) (.region f164x1 false))⟩
def f165x0 : List AOper := [
  Op 2 (.box (.t 0))]
def f165x1 : List AOper := [
  Op 7 (.mkfn 176 [(.t 2)]),
  Mv 4 7]
def f165x2 : List AOper := [
  Mv 8 1,
  Ln 9 0 8,
  Mc 10 (.int .i64 0)]
def f165x3 : List AOper := [
  Bi 11 .lss 10 9]
def f165x4 : List AOper := [
  Ia 12 27 8 10,
  Ls 13 27 12,
  Op 6 (.alloc (.agg [.int .i64 0, .int .i64 0, .int .i64 0, .int .i64 0, .int .u32 0, .con (.slice none 0 0), .con (.slice none 0 0), .int .i64 0, .con (.slice none 0 0), .int .u32 0, .bool false, .int .i64 0, .bool false, .int .i64 0, .bool false, .bool false, .int .i64 0, .int .u32 0, .con (.slice none 0 0), .bool false, .int .u32 0, .con (.slice none 0 0), .con (.slice none 0 0), .con (.slice none 0 0), .int .i64 0, .int .i64 0, .con (.slice none 0 0)])),
  St 27 6 13]
def f165x5 : List AOper := [
  Mv 14 4,
  Ls 15 27 6,
  Op 16 (.call (.t 14) [(.t 15)])]
def f165x6 : List AOper := [
  Bc 17 .add 10 1,
  Mv 10 17]
def f165x7L : ACode := (.seq (.region f165x3 false) (.seq (.cond (.t 11) .skip (.exit 0)) (.seq (.block 1 (.seq (.region f165x4 false) (.region f165x5 false))) (.region f165x6 false))))
def f165x8 : List AOper := [
  Ld 18 2,
  Ca 19 151 [(.t 18), (.c (.int .i64 2))]]
def f165x9 : List AOper := [
  Ld 20 2,
  Nc 21 20,
  Fa 22 0 21,
  Fa 23 0 22,
  Ld 24 23,
  Bc 25 .eql 24 4]
def f165x10 : List AOper := [
  Ld 26 2,
  Ca 27 151 [(.t 26), (.c (.int .i64 5))]]
def f165x11 : List AOper := [
  Ld 28 2,
  Ld 29 2,
  Nc 30 29,
  Fa 31 9 30,
  Af [1] (Ld 32 31),
  Bc 33 .add 32 30,
  Ld 34 2,
  Nc 35 34,
  Fa 36 0 35,
  Fa 37 8 36,
  Af [6] (Ld 38 37),
  Op 39 (.build [.int .i64 0, .int .i64 0, .int .i64 0, .int .i64 0, .int .i64 0, .int .u32 0, .int .i64 0, .bool false, .int .i64 0] [(0, 1), (1, 1), (8, 1)] [(.c (.int .i64 1)), (.t 33), (.t 38)]),
  Nc 40 28,
  Fa 41 0 40,
  Af [0, 10, 4, 1, 6] (St 9 41 39)]
def f165 : AFunc := ⟨42, 2, false, [], (.seq (.region f165x0 false) (.seq (.region f165x1 false) (.seq (.seq (.region f165x2 false) (.block 0 (.loop f165x7L))) (.seq (.region f165x8 false) (.seq (.seq (.region f165x9 false) (.cond (.t 25) (.region f165x10 false) .skip)) (.region f165x11 true))))))⟩
def f165x7LH : List AItem := [.inLoop f165x7L, .inBlock 0, .code (.seq (.region f165x8 false) (.seq (.seq (.region f165x9 false) (.cond (.t 25) (.region f165x10 false) .skip)) (.region f165x11 true)))]
def f166x0 : List AOper := [
  Op 6 (.box (.t 1)),
  Op 8 (.box (.t 3))]
def f166x1 : List AOper := [
  Fa 13 0 8,
  Ld 14 13,
  Bc 15 .neq 14 1]
def f166x2 : List AOper := [
  Mv 16 0,
  Ca 17 145 [(.c (.int .i64 5)), (.c (.int .i64 0))],
  Op 18 (.bsl 27 [.int .i64 0, .int .i64 0, .int .i64 0, .int .i64 0, .int .u32 0, .con (.slice none 0 0), .con (.slice none 0 0), .int .i64 0, .con (.slice none 0 0), .int .u32 0, .bool false, .int .i64 0, .bool false, .int .i64 0, .bool false, .bool false, .int .i64 0, .int .u32 0, .con (.slice none 0 0), .bool false, .int .u32 0, .con (.slice none 0 0), .con (.slice none 0 0), .con (.slice none 0 0), .int .i64 0, .int .i64 0, .con (.slice none 0 0)] 1 [0] [(.t 17)]),
  Ct 19 165 [16, 18]]
def f166x3 : List AOper := [
  Ls 21 15 6,
  Mv 22 2,
  Ls 23 27 8,
  Ct 24 131 [21, 22, 23],
  Mv 20 24,
  Ex 25 20 0,
  Ex 26 20 1,
  Ex 27 20 2,
  Op 10 (.alloc (.agg [.int .i64 0, .int .i64 0, .int .i64 0, .int .i64 0, .int .i64 0, .int .u32 0, .int .i64 0, .bool false, .int .i64 0])),
  Op 11 (.alloc (.agg [.int .i64 0, .int .i64 0, .int .i64 0, .int .i64 0, .int .u32 0, .con (.slice none 0 0), .con (.slice none 0 0), .int .i64 0, .con (.slice none 0 0), .int .u32 0, .bool false, .int .i64 0, .bool false, .int .i64 0, .bool false, .bool false, .int .i64 0, .int .u32 0, .con (.slice none 0 0), .bool false, .int .u32 0, .con (.slice none 0 0), .con (.slice none 0 0), .con (.slice none 0 0), .int .i64 0, .int .i64 0, .con (.slice none 0 0)])),
  St 9 10 25,
  St 27 11 26,
  Mv 12 27]
def f166x4 : List AOper := [
  Mv 28 12,
  Bc 29 .neq 28 0]
def f166x5 : List AOper := [
  Mv 30 0,
  Ls 31 27 11,
  Op 32 (.bsl 27 [.int .i64 0, .int .i64 0, .int .i64 0, .int .i64 0, .int .u32 0, .con (.slice none 0 0), .con (.slice none 0 0), .int .i64 0, .con (.slice none 0 0), .int .u32 0, .bool false, .int .i64 0, .bool false, .int .i64 0, .bool false, .bool false, .int .i64 0, .int .u32 0, .con (.slice none 0 0), .bool false, .int .u32 0, .con (.slice none 0 0), .con (.slice none 0 0), .con (.slice none 0 0), .int .i64 0, .int .i64 0, .con (.slice none 0 0)] 1 [0] [(.t 31)]),
  Ct 33 165 [30, 32]]
def f166x6 : List AOper := [
  Mv 34 0,
  Nc 35 34,
  Fa 36 0 35,
  Fa 37 8 36,
  Ld 38 37,
  Fa 39 8 10,
  St 1 39 38]
def f166x7 : List AOper := [
  Mv 40 0,
  Ls 41 9 10,
  Nc 42 40,
  Fa 43 0 42,
  St 9 43 41]
def f166x8 : List AOper := [
  Fa 44 4 10,
  Ld 45 44,
  Bc 46 .neq 45 0]
def f166x9 : List AOper := [
  Mv 47 0,
  Mv 48 0,
  Nc 49 48,
  Fa 50 9 49,
  Ld 51 50,
  Fa 52 4 10,
  Ld 53 52,
  Bi 54 .add 51 53,
  Nc 55 47,
  Fa 56 0 55,
  Fa 57 2 56,
  Af [4, 6] (St 1 57 54)]
def f166x10 : List AOper := [
  Mv 58 0,
  Mv 59 0,
  Nc 60 59,
  Fa 61 9 60,
  Ld 62 61,
  Fa 63 4 10,
  Ld 64 63,
  Bc 65 .quo 64 3,
  Bi 66 .add 62 65,
  Nc 67 58,
  Fa 68 0 67,
  Fa 69 3 68,
  Af [4, 6] (St 1 69 66)]
def f166x11 : List AOper := [
  Mv 70 4,
  Op 71 (.build [.int .i64 0, .int .i64 0, .int .i64 0, .int .i64 0, .int .u32 0, .con (.slice none 0 0), .con (.slice none 0 0), .int .i64 0, .con (.slice none 0 0), .int .u32 0, .bool false, .int .i64 0, .bool false, .int .i64 0, .bool false, .bool false, .int .i64 0, .int .u32 0, .con (.slice none 0 0), .bool false, .int .u32 0, .con (.slice none 0 0), .con (.slice none 0 0), .con (.slice none 0 0), .int .i64 0, .int .i64 0, .con (.slice none 0 0)] [(0, 1)] [(.c (.int .i64 4))]),
  Op 72 (.call (.t 70) [(.t 71)])]
def f166 : AFunc := ⟨73, 5, false, [], (.seq (.region f166x0 false) (.seq (.seq (.region f166x1 false) (.cond (.t 15) (.seq (.region f166x2 false) .ret) .skip)) (.seq (.region f166x3 false) (.seq (.seq (.region f166x4 false) (.cond (.t 29) (.seq (.region f166x5 false) .ret) .skip)) (.seq (.region f166x6 false) (.seq (.region f166x7 false) (.seq (.seq (.region f166x8 false) (.cond (.t 46) (.seq (.region f166x9 true) (.region f166x10 true)) .skip)) (.region f166x11 false))))))))⟩
def f167x0 : List AOper := [
  Op 3 (.box (.t 1))]
def f167x1 : List AOper := [
  Fa 4 0 3,
  Ld 5 4,
  Bc 6 .neq 5 4]
def f167x2 : List AOper := [
  Mv 7 0,
  Ca 8 145 [(.c (.int .i64 5)), (.c (.int .i64 0))],
  Op 9 (.bsl 27 [.int .i64 0, .int .i64 0, .int .i64 0, .int .i64 0, .int .u32 0, .con (.slice none 0 0), .con (.slice none 0 0), .int .i64 0, .con (.slice none 0 0), .int .u32 0, .bool false, .int .i64 0, .bool false, .int .i64 0, .bool false, .bool false, .int .i64 0, .int .u32 0, .con (.slice none 0 0), .bool false, .int .u32 0, .con (.slice none 0 0), .con (.slice none 0 0), .con (.slice none 0 0), .int .i64 0, .int .i64 0, .con (.slice none 0 0)] 1 [0] [(.t 8)]),
  Ct 10 165 [7, 9]]
def f167x3 : List AOper := [
  Mv 11 0,
  Nc 12 11,
  Fa 13 0 12,
  Fa 14 0 13,
  ⟨none, .store 1 (.t 14) (.c (.int .i64 4)), none, []⟩]
def f167x4 : List AOper := [
  Mv 15 0,
  Ct 16 177 [15]]
def f167x5 : List AOper := [
  Mv 17 0,
  Ca 18 151 [(.t 17), (.c (.int .i64 4))]]
def f167x6 : List AOper := [
  Mv 19 0,
  Nc 20 19,
  Fa 21 0 20,
  Fa 22 8 21,
  Ld 23 22,
  Bc 24 .neq 23 0,
  Mv 25 24,
  Gt 25 (Mv 26 0),
  Gt 25 (Nc 27 26),
  Gt 25 (Fa 28 0 27),
  Gt 25 (Fa 29 6 28),
  Gt 25 (Ld 30 29),
  Gt 25 (Bc 31 .eql 30 0),
  Pa 32 25 31]
def f167x7 : List AOper := [
  Mv 33 0,
  Ct 34 164 [33]]
def f167 : AFunc := ⟨35, 2, false, [], (.seq (.region f167x0 false) (.seq (.seq (.region f167x1 false) (.cond (.t 6) (.seq (.region f167x2 false) .ret) .skip)) (.seq (.region f167x3 false) (.seq (.region f167x4 false) (.seq (.region f167x5 false) (.seq (.region f167x6 false) (.cond (.t 32) (.region f167x7 false) .skip)))))))⟩
def f168x0 : List AOper := [
  Op 3 (.box (.t 1))]
def f168x1 : List AOper := [
  Fa 4 0 3,
  Ld 5 4]
def f168x2 : List AOper := [
  Bc 7 .eql 5 4,
  Mv 6 7]
def f168x3 : List AOper := [
  Mv 8 0,
  Ct 9 177 [8]]
def f168x4 : List AOper := [
  Bc 11 .eql 5 2,
  Mv 10 11]
def f168x5 : List AOper := [
  Mv 12 0,
  Ct 13 177 [12]]
def f168x6 : List AOper := [
  Mv 14 0,
  Mv 15 0,
  Nc 16 15,
  Fa 17 10 16,
  Ld 18 17,
  Ls 19 27 3,
  Op 20 (.build [.int .i64 0, .int .i64 0, .int .i64 0, .int .i64 0, .int .i64 0, .int .u32 0, .con (.slice none 0 0), .con (.slice none 0 0), .int .i64 0, .con (.slice none 0 0), .int .u32 0, .bool false, .int .i64 0, .bool false, .int .i64 0, .bool false, .bool false, .int .i64 0, .int .u32 0, .con (.slice none 0 0), .bool false, .int .u32 0, .con (.slice none 0 0), .con (.slice none 0 0), .con (.slice none 0 0), .int .i64 0, .int .i64 0, .con (.slice none 0 0)] [(0, 1), (1, 27)] [(.c (.int .i64 8)), (.t 19)]),
  Af [5] (Op 21 (.bsl 28 [.int .i64 0, .int .i64 0, .int .i64 0, .int .i64 0, .int .i64 0, .int .u32 0, .con (.slice none 0 0), .con (.slice none 0 0), .int .i64 0, .con (.slice none 0 0), .int .u32 0, .bool false, .int .i64 0, .bool false, .int .i64 0, .bool false, .bool false, .int .i64 0, .int .u32 0, .con (.slice none 0 0), .bool false, .int .u32 0, .con (.slice none 0 0), .con (.slice none 0 0), .con (.slice none 0 0), .int .i64 0, .int .i64 0, .con (.slice none 0 0)] 1 [0] [(.t 20)])),
  Af [4, 7, 5] (Ap 22 28 328 18 21),
  Nc 23 14,
  Fa 24 10 23,
  Af [8, 4, 7, 5] (St 1 24 22)]
def f168x7 : List AOper := [
  Fa 25 6 3,
  Ld 26 25,
  Ln 27 0 26,
  Fa 28 23 3,
  Ld 29 28,
  Ln 30 0 29,
  Bi 31 .add 27 30,
  Bc 32 .eql 31 0,
  Mv 33 32,
  Gt 33 (Mv 34 0),
  Gt 33 (Nc 35 34),
  Gt 33 (Fa 36 0 35),
  Gt 33 (Fa 37 8 36),
  Gt 33 (Ld 38 37),
  Gt 33 (Bc 39 .neq 38 0),
  Pa 40 33 39]
def f168x8 : List AOper := [
  Mv 41 0,
  Ct 42 164 [41]]
def f168x9 : List AOper := [
  Bc 44 .eql 5 5,
  Mv 43 44]
def f168x10 : List AOper := [
  Mv 45 0,
  Ct 46 177 [45]]
def f168x11 : List AOper := [
  Mv 47 0,
  Nc 48 47,
  Fa 49 0 48,
  Fa 50 7 49,
  Ld 51 50]
def f168x12 : List AOper := [
  Mv 52 0,
  Mv 53 0,
  Nc 54 53,
  Fa 55 10 54,
  Ld 56 55,
  Ls 57 27 3,
  Op 58 (.build [.int .i64 0, .int .i64 0, .int .i64 0, .int .i64 0, .int .i64 0, .int .u32 0, .con (.slice none 0 0), .con (.slice none 0 0), .int .i64 0, .con (.slice none 0 0), .int .u32 0, .bool false, .int .i64 0, .bool false, .int .i64 0, .bool false, .bool false, .int .i64 0, .int .u32 0, .con (.slice none 0 0), .bool false, .int .u32 0, .con (.slice none 0 0), .con (.slice none 0 0), .con (.slice none 0 0), .int .i64 0, .int .i64 0, .con (.slice none 0 0)] [(0, 1), (1, 27)] [(.c (.int .i64 8)), (.t 57)]),
  Af [5] (Op 59 (.bsl 28 [.int .i64 0, .int .i64 0, .int .i64 0, .int .i64 0, .int .i64 0, .int .u32 0, .con (.slice none 0 0), .con (.slice none 0 0), .int .i64 0, .con (.slice none 0 0), .int .u32 0, .bool false, .int .i64 0, .bool false, .int .i64 0, .bool false, .bool false, .int .i64 0, .int .u32 0, .con (.slice none 0 0), .bool false, .int .u32 0, .con (.slice none 0 0), .con (.slice none 0 0), .con (.slice none 0 0), .int .i64 0, .int .i64 0, .con (.slice none 0 0)] 1 [0] [(.t 58)])),
  Af [4, 7, 5] (Ap 60 28 328 56 59),
  Nc 61 52,
  Fa 62 10 61,
  Af [8, 4, 7, 5] (St 1 62 60)]
def f168x13 : List AOper := [
  Bc 64 .eql 5 1,
  Mv 63 64]
def f168x14 : List AOper := [
  Mv 65 0,
  Ca 66 145 [(.c (.int .i64 5)), (.c (.int .i64 0))],
  Op 67 (.bsl 27 [.int .i64 0, .int .i64 0, .int .i64 0, .int .i64 0, .int .u32 0, .con (.slice none 0 0), .con (.slice none 0 0), .int .i64 0, .con (.slice none 0 0), .int .u32 0, .bool false, .int .i64 0, .bool false, .int .i64 0, .bool false, .bool false, .int .i64 0, .int .u32 0, .con (.slice none 0 0), .bool false, .int .u32 0, .con (.slice none 0 0), .con (.slice none 0 0), .con (.slice none 0 0), .int .i64 0, .int .i64 0, .con (.slice none 0 0)] 1 [0] [(.t 66)]),
  Ct 68 165 [65, 67]]
def f168 : AFunc := ⟨69, 2, false, [], (.seq (.region f168x0 false) (.seq (.region f168x1 false) (.block 0 (.seq (.region f168x2 false) (.cond (.t 6) (.region f168x3 false) (.seq (.region f168x4 false) (.cond (.t 10) (.seq (.region f168x5 false) (.seq (.region f168x6 true) (.seq (.region f168x7 false) (.cond (.t 40) (.region f168x8 false) .skip)))) (.seq (.region f168x9 false) (.cond (.t 43) (.seq (.region f168x10 false) (.seq (.region f168x11 false) (.cond (.t 51) (.region f168x12 true) .skip))) (.seq (.region f168x13 false) (.cond (.t 63) (.region f168x14 false) .skip)))))))))))⟩
def f54x0 : List AOper := [
  Mc 2 (.int .i64 0)]
def f54x1 : List AOper := [
  Mv 3 0,
  Ln 4 0 3,
  Mv 5 0,
  Ct 6 57 [5],
  Ln 7 0 6,
  Bi 8 .add 4 7,
  Mv 2 8]
def f54 : AFunc := ⟨9, 1, false, [.t 2], (.seq (.region f54x0 false) (.seq (.region f54x1 false) .ret))⟩
def f169x0 : List AOper := [
  Mc 4 (.bool false)]
def f169x1 : List AOper := [
  Mv 6 0,
  Ln 7 0 6,
  Mv 8 1,
  Ln 9 0 8,
  Bi 10 .neq 7 9]
def f169x2 : List AOper := [
  Mc 4 (.bool false)]
def f169x3 : List AOper := [
  Mv 11 0,
  Ln 12 0 11,
  Mc 13 (.int .i64 0)]
def f169x4 : List AOper := [
  Bi 14 .lss 13 12]
def f169x5 : List AOper := [
  Mv 15 13,
  Mv 5 15]
def f169x6 : List AOper := [
  Mv 16 0,
  Mv 17 5,
  Ia 18 2 16 17,
  Af [2] (Ls 19 2 18),
  Mv 20 1,
  Mv 21 5,
  Ia 22 2 20 21,
  Af [6] (Ls 23 2 22),
  Op 24 (.eqs [.int, .int] true (.t 19) (.t 23))]
def f169x7 : List AOper := [
  Mc 4 (.bool false)]
def f169x8 : List AOper := [
  Bc 25 .add 13 1,
  Mv 13 25]
def f169x9L : ACode := (.seq (.region f169x4 false) (.seq (.cond (.t 14) .skip (.exit 0)) (.seq (.block 1 (.seq (.region f169x5 false) (.seq (.region f169x6 true) (.cond (.t 24) (.seq (.region f169x7 false) .ret) .skip)))) (.region f169x8 false))))
def f169x10 : List AOper := [
  Mc 4 (.bool true)]
def f169 : AFunc := ⟨26, 2, false, [.t 4], (.seq (.region f169x0 false) (.seq (.seq (.region f169x1 false) (.cond (.t 10) (.seq (.region f169x2 false) .ret) .skip)) (.seq (.seq (.region f169x3 false) (.block 0 (.loop f169x9L))) (.seq (.region f169x10 false) .ret))))⟩
def f169x9LH : List AItem := [.inLoop f169x9L, .inBlock 0, .code (.seq (.region f169x10 false) .ret)]
def f72x0 : List AOper := [
  Op 2 (.box (.t 0)),
  Op 3 (.box (.t 1)),
  Mc 4 (.bool false)]
def f72x1 : List AOper := [
  Fa 6 0 2,
  Ld 7 6,
  Fa 8 0 3,
  Ld 9 8,
  Bi 10 .neq 7 9,
  Mv 11 10,
  Gf 11 (Fa 12 1 2),
  Gf 11 (Ld 13 12),
  Gf 11 (Fa 14 1 3),
  Gf 11 (Ld 15 14),
  Gf 11 (Ct 16 103 [13, 15]),
  Gf 11 (Un 17 .not 16),
  Po 18 11 17,
  Mv 19 18,
  Gf 19 (Fa 20 2 2),
  Gf 19 (Ld 21 20),
  Gf 19 (Fa 22 2 3),
  Gf 19 (Ld 23 22),
  Gf 19 (Bi 24 .neq 21 23),
  Po 25 19 24,
  Mv 26 25,
  Gf 26 (Fa 27 3 2),
  Gf 26 (Ld 28 27),
  Gf 26 (Fa 29 3 3),
  Gf 26 (Ld 30 29),
  Gf 26 (Op 31 (.eqb true (.t 28) (.t 30))),
  Po 32 26 31,
  Mv 33 32,
  Gf 33 (Fa 34 4 2),
  Gf 33 (Ld 35 34),
  Gf 33 (Fa 36 4 3),
  Gf 33 (Ld 37 36),
  Gf 33 (Bi 38 .neq 35 37),
  Po 39 33 38,
  Mv 40 39,
  Gf 40 (Fa 41 5 2),
  Gf 40 (Ld 42 41),
  Gf 40 (Fa 43 5 3),
  Gf 40 (Ld 44 43),
  Gf 40 (Op 45 (.eqb true (.t 42) (.t 44))),
  Po 46 40 45,
  Mv 47 46,
  Gf 47 (Fa 48 6 2),
  Gf 47 (Ld 49 48),
  Gf 47 (Fa 50 6 3),
  Gf 47 (Ld 51 50),
  Gf 47 (Bi 52 .neq 49 51),
  Po 53 47 52,
  Mv 54 53,
  Gf 54 (Fa 55 7 2),
  Gf 54 (Ld 56 55),
  Gf 54 (Fa 57 7 3),
  Gf 54 (Ld 58 57),
  Gf 54 (Op 59 (.eqb true (.t 56) (.t 58))),
  Po 60 54 59]
def f72x2 : List AOper := [
  Mc 4 (.bool false)]
def f72x3 : List AOper := [
  Fa 61 8 2,
  Ld 62 61,
  Fa 63 8 3,
  Ld 64 63,
  Op 65 (.eqb true (.t 62) (.t 64)),
  Mv 66 65,
  Gf 66 (Fa 67 9 2),
  Gf 66 (Ld 68 67),
  Gf 66 (Fa 69 9 3),
  Gf 66 (Ld 70 69),
  Gf 66 (Bi 71 .neq 68 70),
  Po 72 66 71,
  Mv 73 72,
  Gf 73 (Fa 74 10 2),
  Gf 73 (Ld 75 74),
  Gf 73 (Fa 76 10 3),
  Gf 73 (Ld 77 76),
  Gf 73 (Bi 78 .neq 75 77),
  Po 79 73 78,
  Mv 80 79,
  Gf 80 (Fa 81 11 2),
  Gf 80 (Ld 82 81),
  Gf 80 (Fa 83 11 3),
  Gf 80 (Ld 84 83),
  Gf 80 (Ct 85 104 [82, 84]),
  Gf 80 (Un 86 .not 85),
  Po 87 80 86,
  Mv 88 87,
  Gf 88 (Fa 89 12 2),
  Gf 88 (Ld 90 89),
  Gf 88 (Fa 91 12 3),
  Gf 88 (Ld 92 91),
  Gf 88 (Op 93 (.eqb true (.t 90) (.t 92))),
  Po 94 88 93,
  Mv 95 94,
  Gf 95 (Fa 96 13 2),
  Gf 95 (Ld 97 96),
  Gf 95 (Fa 98 13 3),
  Gf 95 (Ld 99 98),
  Gf 95 (Bi 100 .neq 97 99),
  Po 101 95 100,
  Mv 102 101,
  Gf 102 (Fa 103 14 2),
  Gf 102 (Ld 104 103),
  Gf 102 (Fa 105 14 3),
  Gf 102 (Ld 106 105),
  Gf 102 (Ct 107 104 [104, 106]),
  Gf 102 (Un 108 .not 107),
  Po 109 102 108,
  Mv 110 109,
  Gf 110 (Fa 111 15 2),
  Gf 110 (Ld 112 111),
  Gf 110 (Ln 113 0 112),
  Gf 110 (Fa 114 15 3),
  Gf 110 (Ld 115 114),
  Gf 110 (Ln 116 0 115),
  Gf 110 (Bi 117 .neq 113 116),
  Po 118 110 117]
def f72x4 : List AOper := [
  Mc 4 (.bool false)]
def f72x5 : List AOper := [
  Fa 119 15 2,
  Ld 120 119,
  Ln 121 0 120,
  Mc 122 (.int .i64 0)]
def f72x6 : List AOper := [
  Bi 123 .lss 122 121]
def f72x7 : List AOper := [
  Mv 124 122,
  Mv 5 124]
def f72x8 : List AOper := [
  Fa 125 15 2,
  Ld 126 125,
  Mv 127 5,
  Af [1] (Ia 128 2 126 127),
  Fa 129 0 128,
  Af [3, 1] (Ld 130 129),
  Fa 131 15 3,
  Ld 132 131,
  Mv 133 5,
  Af [7] (Ia 134 2 132 133),
  Fa 135 0 134,
  Af [9, 7] (Ld 136 135),
  Bi 137 .neq 130 136,
  Mv 138 137,
  Gf 138 (Fa 139 15 2),
  Af [5, 11, 3, 1, 9, 7] (Gf 138 (Ld 140 139)),
  Gf 138 (Mv 141 5),
  Af [15, 5, 11, 3, 1, 9, 7] (Gf 138 (Ia 142 2 140 141)),
  Gf 138 (Fa 143 1 142),
  Af [17, 15, 5, 11, 3, 1, 9, 7] (Gf 138 (Ld 144 143)),
  Af [19, 17, 15, 5, 11, 3, 1, 9, 7] (Gf 138 (Op 145 (.b2s (.t 144)))),
  Gf 138 (Fa 146 15 3),
  Af [5, 11, 3, 1, 9, 7] (Gf 138 (Ld 147 146)),
  Gf 138 (Mv 148 5),
  Af [22, 5, 11, 3, 1, 9, 7] (Gf 138 (Ia 149 2 147 148)),
  Gf 138 (Fa 150 1 149),
  Af [24, 22, 5, 11, 3, 1, 9, 7] (Gf 138 (Ld 151 150)),
  Af [26, 24, 22, 5, 11, 3, 1, 9, 7] (Gf 138 (Op 152 (.b2s (.t 151)))),
  Gf 138 (Bi 153 .neq 145 152),
  Po 154 138 153]
def f72x9 : List AOper := [
  Mc 4 (.bool false)]
def f72x10 : List AOper := [
  Bc 155 .add 122 1,
  Mv 122 155]
def f72x11L : ACode := (.seq (.region f72x6 false) (.seq (.cond (.t 123) .skip (.exit 0)) (.seq (.block 1 (.seq (.region f72x7 false) (.seq (.region f72x8 true) (.cond (.t 154) (.seq (.region f72x9 false) .ret) .skip)))) (.region f72x10 false))))
def f72x12 : List AOper := [
  Mc 4 (.bool true)]
def f72 : AFunc := ⟨156, 2, false, [.t 4], (.seq (.region f72x0 false) (.seq (.seq (.region f72x1 false) (.cond (.t 60) (.seq (.region f72x2 false) .ret) .skip)) (.seq (.seq (.region f72x3 false) (.cond (.t 118) (.seq (.region f72x4 false) .ret) .skip)) (.seq (.seq (.region f72x5 false) (.block 0 (.loop f72x11L))) (.seq (.region f72x12 false) .ret)))))⟩
def f72x11LH : List AItem := [.inLoop f72x11L, .inBlock 0, .code (.seq (.region f72x12 false) .ret)]
def f170x0 : List AOper := [
  Op 1 (.box (.t 0)),
  Mc 2 (.int .i64 0)]
def f170x1 : List AOper := [
  Mc 3 (.int .i64 0),
  Mc 4 (.bool false)]
def f170x2 : List AOper := [
  Fa 8 5 1,
  Ld 9 8,
  Ln 10 0 9,
  Mc 11 (.int .i64 0)]
def f170x3 : List AOper := [
  Bi 12 .lss 11 10]
def f170x4 : List AOper := [
  Mv 13 11,
  Ia 14 2 9 11,
  Ls 15 2 14,
  Op 6 (.alloc (.agg [.int .i64 0, .con (.slice none 0 0)])),
  Mv 5 13,
  St 2 6 15]
def f170x5 : List AOper := [
  Fa 16 1 6,
  Ld 17 16,
  Ln 18 0 17,
  Mv 7 18]
def f170x6 : List AOper := [
  Fa 19 0 6,
  Ld 20 19]
def f170x7 : List AOper := [
  Bc 22 .eql 20 2,
  Mv 21 22]
def f170x8 : List AOper := [
  Mc 7 (.int .i64 0)]
def f170x9 : List AOper := [
  Bc 24 .eql 20 64,
  Mv 23 24]
def f170x10 : List AOper := [
  Mc 7 (.int .i64 2)]
def f170x11 : List AOper := [
  Bc 26 .eql 20 65,
  Mv 25 26]
def f170x12 : List AOper := [
  Mc 7 (.int .i64 4)]
def f170x13 : List AOper := [
  Mc 4 (.bool true)]
def f170x14 : List AOper := [
  Fa 28 0 6,
  Ld 29 28,
  Bc 30 .lss 29 1,
  Mv 31 30,
  Gf 31 (Fa 32 0 6),
  Gf 31 (Ld 33 32),
  Gf 31 (Bc 34 .gtr 33 255),
  Po 35 31 34,
  Mv 27 35]
def f170x15 : List AOper := [
  Mc 2 (.int .i64 5)]
def f170x16 : List AOper := [
  Mv 37 5,
  Bc 38 .gtr 37 0,
  Mv 39 38,
  Gt 39 (Fa 40 0 6),
  Gt 39 (Ld 41 40),
  Gt 39 (Fa 42 5 1),
  Gt 39 (Ld 43 42),
  Gt 39 (Mv 44 5),
  Gt 39 (Bc 45 .sub 44 1),
  Af [6] (Gt 39 (Ia 46 2 43 45)),
  Gt 39 (Fa 47 0 46),
  Af [9, 6] (Gt 39 (Ld 48 47)),
  Gt 39 (Bi 49 .leq 41 48),
  Pa 50 39 49,
  Mv 36 50]
def f170x17 : List AOper := [
  Mc 2 (.int .i64 16)]
def f170x18 : List AOper := [
  Fa 52 1 6,
  Ld 53 52,
  Ln 54 0 53,
  Mv 55 7,
  Bi 56 .neq 54 55,
  Mv 51 56]
def f170x19 : List AOper := [
  Mc 2 (.int .i64 1)]
def f170x20 : List AOper := [
  Fa 58 0 6,
  Ld 59 58,
  Bc 60 .eql 59 65,
  Mv 61 60,
  Gt 61 (Fa 62 1 6),
  Af [1] (Gt 61 (Ld 63 62)),
  Af [5, 1] (Gt 61 (Op 64 (.b2s (.t 63)))),
  Gt 61 (Fa 65 2 1),
  Af [1] (Gt 61 (Ld 66 65)),
  Gt 61 (Cv 67 .u64 66),
  Af [8, 1] (Gt 61 (Ca 68 109 [(.c (.con (.slice none 0 0))), (.c (.int .i64 4)), (.t 67)])),
  Af [10, 8, 1] (Gt 61 (Op 69 (.b2s (.t 68)))),
  Gt 61 (Bi 70 .neq 64 69),
  Pa 71 61 70,
  Mv 57 71]
def f170x21 : List AOper := [
  Mc 2 (.int .i64 14)]
def f170x22 : List AOper := [
  Mv 72 3,
  Fa 73 1 6,
  Ld 74 73,
  Ln 75 0 74,
  Op 76 (.bin .add (.c (.int .i64 2)) (.t 75)),
  Bi 77 .add 72 76,
  Mv 3 77]
def f170x23 : List AOper := [
  Bc 78 .add 11 1,
  Mv 11 78]
def f170x24L : ACode := (.seq (.region f170x3 false) (.seq (.cond (.t 12) .skip (.exit 0)) (.seq (.block 1 (.seq (.region f170x4 false) (.seq (.region f170x5 false) (.seq (.seq (.region f170x6 false) (.block 2 (.seq (.region f170x7 false) (.cond (.t 21) (.region f170x8 false) (.seq (.region f170x9 false) (.cond (.t 23) (.region f170x10 false) (.seq (.region f170x11 false) (.cond (.t 25) (.seq (.region f170x12 false) (.region f170x13 false)) .skip)))))))) (.seq (.block 3 (.seq (.region f170x14 false) (.cond (.t 27) (.seq (.region f170x15 false) .ret) (.seq (.region f170x16 true) (.cond (.t 36) (.seq (.region f170x17 false) .ret) (.seq (.region f170x18 false) (.cond (.t 51) (.seq (.region f170x19 false) .ret) (.seq (.region f170x20 true) (.cond (.t 57) (.seq (.region f170x21 false) .ret) .skip))))))))) (.region f170x22 false)))))) (.region f170x23 false))))
def f170x25 : List AOper := [
  Mv 80 3,
  Bc 81 .gtr 80 253,
  Mv 79 81]
def f170x26 : List AOper := [
  Mc 2 (.int .i64 4)]
def f170x27 : List AOper := [
  Fa 83 2 1,
  Ld 84 83,
  Bc 85 .gtr 84 65535,
  Mv 86 85,
  Gt 86 (Mv 87 4),
  Gt 86 (Un 88 .not 87),
  Pa 89 86 88,
  Mv 82 89]
def f170x28 : List AOper := [
  Mc 2 (.int .i64 22)]
def f170x29 : List AOper := [
  Mc 2 (.int .i64 0)]
def f170 : AFunc := ⟨90, 1, false, [.t 2], (.seq (.region f170x0 false) (.seq (.region f170x1 false) (.seq (.seq (.region f170x2 false) (.block 0 (.loop f170x24L))) (.seq (.block 4 (.seq (.region f170x25 false) (.cond (.t 79) (.seq (.region f170x26 false) .ret) (.seq (.region f170x27 false) (.cond (.t 82) (.seq (.region f170x28 false) .ret) .skip))))) (.seq (.region f170x29 false) .ret)))))⟩
def f170x24LH : List AItem := [.inLoop f170x24L, .inBlock 0, .code (.seq (.block 4 (.seq (.region f170x25 false) (.cond (.t 79) (.seq (.region f170x26 false) .ret) (.seq (.region f170x27 false) (.cond (.t 82) (.seq (.region f170x28 false) .ret) .skip))))) (.seq (.region f170x29 false) .ret))]
def f171x0 : List AOper := [
  Mc 2 (.int .i64 0)]
def f171x1 : List AOper := [
  Mv 5 0,
  Ln 6 0 5,
  Mc 7 (.int .i64 0)]
def f171x2 : List AOper := [
  Bi 8 .lss 7 6]
def f171x3 : List AOper := [
  Mv 9 7,
  Ia 10 2 5 7,
  Ls 11 2 10,
  Op 4 (.alloc (.agg [.int .u32 0, .int .i64 0])),
  Mv 3 9,
  St 2 4 11]
def f171x4 : List AOper := [
  Ls 13 2 4,
  Ct 14 178 [13],
  Un 15 .not 14,
  Mv 12 15]
def f171x5 : List AOper := [
  Mc 2 (.int .i64 1)]
def f171x6 : List AOper := [
  Mv 17 3,
  Bc 18 .gtr 17 0,
  Mv 19 18,
  Gt 19 (Ls 20 2 4),
  Gt 19 (Mv 21 0),
  Gt 19 (Mv 22 3),
  Gt 19 (Bc 23 .sub 22 1),
  Gt 19 (Ia 24 2 21 23),
  Af [7] (Gt 19 (Ls 25 2 24)),
  Af [3, 8, 7] (Gt 19 (Ct 26 172 [20, 25])),
  Gt 19 (Bc 27 .leq 26 0),
  Pa 28 19 27,
  Mv 16 28]
def f171x7 : List AOper := [
  Mc 2 (.int .i64 16)]
def f171x8 : List AOper := [
  Bc 29 .add 7 1,
  Mv 7 29]
def f171x9L : ACode := (.seq (.region f171x2 false) (.seq (.cond (.t 8) .skip (.exit 0)) (.seq (.block 1 (.seq (.region f171x3 false) (.block 2 (.seq (.region f171x4 false) (.cond (.t 12) (.seq (.region f171x5 false) .ret) (.seq (.region f171x6 true) (.cond (.t 16) (.seq (.region f171x7 false) .ret) .skip))))))) (.region f171x8 false))))
def f171x10 : List AOper := [
  Mc 2 (.int .i64 0)]
def f171 : AFunc := ⟨30, 1, false, [.t 2], (.seq (.region f171x0 false) (.seq (.seq (.region f171x1 false) (.block 0 (.loop f171x9L))) (.seq (.region f171x10 false) .ret)))⟩
def f172x0 : List AOper := [
  Op 2 (.box (.t 0)),
  Op 3 (.box (.t 1)),
  Mc 4 (.int .i64 0)]
def f172x1 : List AOper := [
  Fa 6 0 2,
  Ld 7 6,
  Fa 8 0 3,
  Ld 9 8,
  Bi 10 .lss 7 9,
  Mv 11 10,
  Gf 11 (Fa 12 0 2),
  Gf 11 (Ld 13 12),
  Gf 11 (Fa 14 0 3),
  Gf 11 (Ld 15 14),
  Gf 11 (Bi 16 .eql 13 15),
  Gf 11 (Mv 17 16),
  Gt 17 (Fa 18 1 2),
  Gt 17 (Ld 19 18),
  Gt 17 (Fa 20 1 3),
  Gt 17 (Ld 21 20),
  Gt 17 (Bi 22 .lss 19 21),
  Gf 11 (Pa 23 17 22),
  Po 24 11 23,
  Mv 5 24]
def f172x2 : List AOper := [
  Mc 4 (.int .i64 (-1))]
def f172x3 : List AOper := [
  Ls 26 2 2,
  Ls 27 2 3,
  Op 28 (.eqs [.int, .int] false (.t 26) (.t 27)),
  Mv 25 28]
def f172x4 : List AOper := [
  Mc 4 (.int .i64 0)]
def f172x5 : List AOper := [
  Mc 4 (.int .i64 1)]
def f172 : AFunc := ⟨29, 2, false, [.t 4], (.seq (.region f172x0 false) (.seq (.block 0 (.seq (.region f172x1 false) (.cond (.t 5) (.seq (.region f172x2 false) .ret) (.seq (.region f172x3 false) (.cond (.t 25) (.seq (.region f172x4 false) .ret) .skip))))) (.seq (.region f172x5 false) .ret)))⟩
def f65x0 : List AOper := [
  Op 1 (.box (.t 0)),
  Mc 2 (.int .i64 0)]
def f65x1 : List AOper := [
  Fa 3 0 1,
  Ld 4 3,
  Bc 5 .lss 4 0,
  Mv 6 5,
  Gf 6 (Fa 7 0 1),
  Af [1] (Gf 6 (Ld 8 7)),
  Gf 6 (Bc 9 .gtr 8 2),
  Po 10 6 9,
  Af [5, 1] (Ca 11 74 [(.t 10), (.c (.int .i64 5))]),
  Fa 12 1 1,
  Ld 13 12,
  Af [10, 8, 5, 1] (Ct 14 75 [13]),
  Fa 15 2 1,
  Ld 16 15,
  Op 17 (.bin .eql (.t 16) (.c (.int .u32 0))),
  Af [11, 13, 10, 8, 5, 1] (Ca 18 74 [(.t 17), (.c (.int .i64 1))]),
  Fa 19 3 1,
  Ld 20 19,
  Fa 21 4 1,
  Ld 22 21,
  Af [17, 19, 15, 11, 13, 10, 8, 5, 1] (Ca 23 76 [(.t 20), (.t 22), (.c (.int .i64 0))]),
  Fa 24 5 1,
  Ld 25 24,
  Fa 26 6 1,
  Ld 27 26,
  Af [22, 24, 20, 17, 19, 15, 11, 13, 10, 8, 5, 1] (Ca 28 76 [(.t 25), (.t 27), (.c (.int .i64 0))]),
  Fa 29 8 1,
  Ld 30 29,
  Fa 31 9 1,
  Ld 32 31,
  Af [27, 29, 25, 22, 24, 20, 17, 19, 15, 11, 13, 10, 8, 5, 1] (Ca 33 76 [(.t 30), (.t 32), (.c (.int .i64 1))]),
  Fa 34 8 1,
  Ld 35 34,
  Un 36 .not 35,
  Mv 37 36,
  Gt 37 (Fa 38 10 1),
  Af [30, 32, 27, 29, 25, 22, 24, 20, 17, 19, 15, 11, 13, 10, 8, 5, 1] (Gt 37 (Ld 39 38)),
  Gt 37 (Op 40 (.bin .neq (.t 39) (.c (.int .u32 0)))),
  Pa 41 37 40,
  Af [36, 30, 32, 27, 29, 25, 22, 24, 20, 17, 19, 15, 11, 13, 10, 8, 5, 1] (Ca 42 74 [(.t 41), (.c (.int .i64 1))]),
  Fa 43 11 1,
  Ld 44 43,
  Af [41, 39, 36, 30, 32, 27, 29, 25, 22, 24, 20, 17, 19, 15, 11, 13, 10, 8, 5, 1] (Ct 45 77 [44]),
  Fa 46 12 1,
  Ld 47 46,
  Fa 48 13 1,
  Ld 49 48,
  Op 50 (.bin .eql (.t 49) (.c (.int .u32 0))),
  Op 51 (.eqb false (.t 47) (.t 50)),
  Af [42, 44, 46, 41, 39, 36, 30, 32, 27, 29, 25, 22, 24, 20, 17, 19, 15, 11, 13, 10, 8, 5, 1] (Ca 52 74 [(.t 51), (.c (.int .i64 1))]),
  Fa 53 14 1,
  Ld 54 53,
  Af [51, 49, 42, 44, 46, 41, 39, 36, 30, 32, 27, 29, 25, 22, 24, 20, 17, 19, 15, 11, 13, 10, 8, 5, 1] (Ct 55 78 [54]),
  Fa 56 15 1,
  Ld 57 56,
  Af [54, 52, 51, 49, 42, 44, 46, 41, 39, 36, 30, 32, 27, 29, 25, 22, 24, 20, 17, 19, 15, 11, 13, 10, 8, 5, 1] (Ct 58 79 [57]),
  Af [55, 54, 52, 51, 49, 42, 44, 46, 41, 39, 36, 30, 32, 27, 29, 25, 22, 24, 20, 17, 19, 15, 11, 13, 10, 8, 5, 1] (Op 59 (.bsl 1 [.int .i64 0] 11 [0, 1, 2, 3, 4, 5, 6, 7, 8, 9, 10] [(.t 11), (.t 14), (.t 18), (.t 23), (.t 28), (.t 33), (.t 42), (.t 45), (.t 52), (.t 55), (.t 58)])),
  Af [56, 55, 54, 52, 51, 49, 42, 44, 46, 41, 39, 36, 30, 32, 27, 29, 25, 22, 24, 20, 17, 19, 15, 11, 13, 10, 8, 5, 1] (Ct 60 73 [59]),
  Mv 2 60]
def f65 : AFunc := ⟨61, 1, false, [.t 2], (.seq (.region f65x0 false) (.seq (.region f65x1 true) .ret))⟩
def f173x0 : List AOper := [
  Op 1 (.box (.t 0)),
  Mc 2 (.int .i64 0)]
def f173x1 : List AOper := [
  Mc 3 (.int .i64 0)]
def f173x2 : List AOper := [
  Mc 4 (.bool false)]
def f173x3 : List AOper := [
  Fa 9 5 1,
  Ld 10 9,
  Ln 11 0 10,
  Mc 12 (.int .i64 0)]
def f173x4 : List AOper := [
  Bi 13 .lss 12 11]
def f173x5 : List AOper := [
  Mv 14 12,
  Ia 15 2 10 12,
  Ls 16 2 15,
  Op 6 (.alloc (.agg [.int .i64 0, .con (.slice none 0 0)])),
  Mv 5 14,
  St 2 6 16]
def f173x6 : List AOper := [
  Fa 17 0 6,
  Ld 18 17,
  Bc 19 .lss 18 1,
  Mv 20 19,
  Gf 20 (Fa 21 0 6),
  Gf 20 (Ld 22 21),
  Gf 20 (Bc 23 .gtr 22 255),
  Po 24 20 23]
def f173x7 : List AOper := [
  Mc 2 (.int .i64 5)]
def f173x8 : List AOper := [
  Mv 25 5,
  Bc 26 .gtr 25 0,
  Mv 27 26,
  Gt 27 (Fa 28 0 6),
  Gt 27 (Ld 29 28),
  Gt 27 (Fa 30 5 1),
  Gt 27 (Ld 31 30),
  Gt 27 (Mv 32 5),
  Gt 27 (Bc 33 .sub 32 1),
  Af [6] (Gt 27 (Ia 34 2 31 33)),
  Gt 27 (Fa 35 0 34),
  Af [9, 6] (Gt 27 (Ld 36 35)),
  Gt 27 (Bi 37 .leq 29 36),
  Pa 38 27 37]
def f173x9 : List AOper := [
  Mc 2 (.int .i64 16)]
def f173x10 : List AOper := [
  Fa 39 0 6,
  Ld 40 39,
  Bc 41 .eql 40 2,
  Mv 42 41,
  Gt 42 (Fa 43 1 6),
  Gt 42 (Ld 44 43),
  Gt 42 (Ln 45 0 44),
  Gt 42 (Bc 46 .neq 45 0),
  Pa 47 42 46,
  Mv 48 47,
  Gf 48 (Fa 49 0 6),
  Gf 48 (Ld 50 49),
  Gf 48 (Bc 51 .eql 50 64),
  Gf 48 (Mv 52 51),
  Gt 52 (Fa 53 1 6),
  Gt 52 (Ld 54 53),
  Gt 52 (Ln 55 0 54),
  Gt 52 (Bc 56 .neq 55 2),
  Gf 48 (Pa 57 52 56),
  Po 58 48 57,
  Mv 59 58,
  Gf 59 (Fa 60 0 6),
  Gf 59 (Ld 61 60),
  Gf 59 (Bc 62 .eql 61 65),
  Gf 59 (Mv 63 62),
  Gt 63 (Fa 64 1 6),
  Gt 63 (Ld 65 64),
  Gt 63 (Ln 66 0 65),
  Gt 63 (Bc 67 .neq 66 4),
  Gf 59 (Pa 68 63 67),
  Po 69 59 68]
def f173x11 : List AOper := [
  Mc 2 (.int .i64 1)]
def f173x12 : List AOper := [
  Fa 70 0 6,
  Ld 71 70,
  Bc 72 .eql 71 65]
def f173x13 : List AOper := [
  Mc 4 (.bool true)]
def f173x14 : List AOper := [
  Fa 74 1 6,
  Ld 75 74,
  Ca 76 113 [(.t 75), (.c (.int .i64 0)), (.c (.int .i64 4))],
  Mv 73 76,
  Ex 77 73 0,
  Ex 78 73 1,
  Mv 7 77,
  Mv 8 78]
def f173x15 : List AOper := [
  Mv 79 7,
  Cv 80 .i64 79,
  Fa 81 2 1,
  Ld 82 81,
  Bi 83 .neq 80 82]
def f173x16 : List AOper := [
  Mc 2 (.int .i64 14)]
def f173x17 : List AOper := [
  Mv 84 3,
  Fa 85 1 6,
  Ld 86 85,
  Ln 87 0 86,
  Op 88 (.bin .add (.c (.int .i64 2)) (.t 87)),
  Bi 89 .add 84 88,
  Mv 3 89]
def f173x18 : List AOper := [
  Bc 90 .add 12 1,
  Mv 12 90]
def f173x19L : ACode := (.seq (.region f173x4 false) (.seq (.cond (.t 13) .skip (.exit 0)) (.seq (.block 1 (.seq (.region f173x5 false) (.seq (.seq (.region f173x6 false) (.cond (.t 24) (.seq (.region f173x7 false) .ret) .skip)) (.seq (.seq (.region f173x8 true) (.cond (.t 38) (.seq (.region f173x9 false) .ret) .skip)) (.seq (.seq (.region f173x10 false) (.cond (.t 69) (.seq (.region f173x11 false) .ret) .skip)) (.seq (.seq (.region f173x12 false) (.cond (.t 72) (.seq (.region f173x13 false) (.seq (.region f173x14 false) (.seq (.region f173x15 false) (.cond (.t 83) (.seq (.region f173x16 false) .ret) .skip)))) .skip)) (.region f173x17 false))))))) (.region f173x18 false))))
def f173x20 : List AOper := [
  Mv 91 3,
  Bc 92 .gtr 91 253]
def f173x21 : List AOper := [
  Mc 2 (.int .i64 4)]
def f173x22 : List AOper := [
  Fa 93 2 1,
  Ld 94 93,
  Bc 95 .gtr 94 65535,
  Mv 96 95,
  Gt 96 (Mv 97 4),
  Gt 96 (Un 98 .not 97),
  Pa 99 96 98]
def f173x23 : List AOper := [
  Mc 2 (.int .i64 22)]
def f173x24 : List AOper := [
  Mc 2 (.int .i64 0)]
def f173 : AFunc := ⟨100, 1, false, [.t 2], (.seq (.region f173x0 false) (.seq (.region f173x1 false) (.seq (.region f173x2 false) (.seq (.seq (.region f173x3 false) (.block 0 (.loop f173x19L))) (.seq (.seq (.region f173x20 false) (.cond (.t 92) (.seq (.region f173x21 false) .ret) .skip)) (.seq (.seq (.region f173x22 false) (.cond (.t 99) (.seq (.region f173x23 false) .ret) .skip)) (.seq (.region f173x24 false) .ret)))))))⟩
def f174x0 : List AOper := [
  Mc 2 (.int .i64 0)]
def f174x1 : List AOper := [
  Mv 5 0,
  Ln 6 0 5,
  Mc 7 (.int .i64 0)]
def f174x2 : List AOper := [
  Bi 8 .lss 7 6]
def f174x3 : List AOper := [
  Mv 9 7,
  Ia 10 2 5 7,
  Ls 11 2 10,
  Op 4 (.alloc (.agg [.int .u32 0, .int .i64 0])),
  Mv 3 9,
  St 2 4 11]
def f174x4 : List AOper := [
  Ls 12 2 4,
  Ct 13 179 [12],
  Un 14 .not 13]
def f174x5 : List AOper := [
  Mc 2 (.int .i64 1)]
def f174x6 : List AOper := [
  Mv 15 3,
  Bc 16 .gtr 15 0,
  Mv 17 16,
  Gt 17 (Mv 18 0),
  Gt 17 (Mv 19 3),
  Gt 17 (Bc 20 .sub 19 1),
  Gt 17 (Ia 21 2 18 20),
  Af [6] (Gt 17 (Ls 22 2 21)),
  Gt 17 (Ls 23 2 4),
  Af [7, 8, 6] (Gt 17 (Ct 24 180 [22, 23])),
  Gt 17 (Bc 25 .geq 24 0),
  Pa 26 17 25]
def f174x7 : List AOper := [
  Mc 2 (.int .i64 16)]
def f174x8 : List AOper := [
  Bc 27 .add 7 1,
  Mv 7 27]
def f174x9L : ACode := (.seq (.region f174x2 false) (.seq (.cond (.t 8) .skip (.exit 0)) (.seq (.block 1 (.seq (.region f174x3 false) (.seq (.seq (.region f174x4 false) (.cond (.t 14) (.seq (.region f174x5 false) .ret) .skip)) (.seq (.region f174x6 true) (.cond (.t 26) (.seq (.region f174x7 false) .ret) .skip))))) (.region f174x8 false))))
def f174x10 : List AOper := [
  Mc 2 (.int .i64 0)]
def f174 : AFunc := ⟨28, 1, false, [.t 2], (.seq (.region f174x0 false) (.seq (.seq (.region f174x1 false) (.block 0 (.loop f174x9L))) (.seq (.region f174x10 false) .ret)))⟩
def f175x0 : List AOper := [
  Mc 4 (.bool false)]
def f175x1 : List AOper := [
  Mc 5 (.int .i64 0),
  Mc 6 (.int .i64 0)]
def f175x2 : List AOper := [
  Mv 8 5,
  Mv 9 0,
  Ln 10 0 9,
  Bi 11 .lss 8 10,
  Mv 12 11,
  Gt 12 (Mv 13 6),
  Gt 12 (Mv 14 1),
  Gt 12 (Ln 15 0 14),
  Gt 12 (Bi 16 .lss 13 15),
  Pa 17 12 16]
def f175x3 : List AOper := [
  Mv 18 0,
  Mv 19 5,
  Ia 20 2 18 19,
  Af [2] (Ls 21 2 20),
  Mv 22 1,
  Mv 23 6,
  Ia 24 2 22 23,
  Af [6] (Ls 25 2 24),
  Af [3, 7, 2, 6] (Ct 26 180 [21, 25]),
  Mv 7 26]
def f175x4 : List AOper := [
  Mv 27 7,
  Bc 28 .eql 27 0]
def f175x5 : List AOper := [
  Mc 4 (.bool true)]
def f175x6 : List AOper := [
  Mv 29 7,
  Bc 30 .lss 29 0]
def f175x7 : List AOper := [
  Mv 31 5,
  Bc 32 .add 31 1,
  Mv 5 32]
def f175x8 : List AOper := [
  Mv 33 6,
  Bc 34 .add 33 1,
  Mv 6 34]
def f175x9L : ACode := (.seq (.seq (.region f175x2 false) (.cond (.t 17) .skip (.exit 0))) (.block 1 (.seq (.region f175x3 true) (.seq (.seq (.region f175x4 false) (.cond (.t 28) (.seq (.region f175x5 false) .ret) .skip)) (.seq (.region f175x6 false) (.cond (.t 30) (.region f175x7 false) (.region f175x8 false)))))))
def f175x10 : List AOper := [
  Mc 4 (.bool false)]
def f175 : AFunc := ⟨35, 2, false, [.t 4], (.seq (.region f175x0 false) (.seq (.region f175x1 false) (.seq (.block 0 (.loop f175x9L)) (.seq (.region f175x10 false) .ret))))⟩
def f66x0 : List AOper := [
  Op 1 (.box (.t 0)),
  Mc 2 (.int .i64 0)]
def f66x1 : List AOper := [
  Fa 9 0 1,
  Ld 10 9,
  Bc 11 .lss 10 0,
  Mv 12 11,
  Gf 12 (Fa 13 0 1),
  Gf 12 (Ld 14 13),
  Gf 12 (Bc 15 .gtr 14 2),
  Po 16 12 15]
def f66x2 : List AOper := [
  Mc 2 (.int .i64 5)]
def f66x3 : List AOper := [
  Fa 17 1 1,
  Ld 18 17,
  Ct 19 80 [18],
  Mv 3 19]
def f66x4 : List AOper := [
  Mv 20 3,
  Bc 21 .neq 20 0]
def f66x5 : List AOper := [
  Mv 22 3,
  Mv 2 22]
def f66x6 : List AOper := [
  Fa 24 2 1,
  Ld 25 24,
  Op 26 (.bin .eql (.t 25) (.c (.int .u32 0))),
  Mv 23 26]
def f66x7 : List AOper := [
  Mc 2 (.int .i64 1)]
def f66x8 : List AOper := [
  Fa 28 3 1,
  Ld 29 28,
  Mv 30 29,
  Gt 30 (Fa 31 4 1),
  Gt 30 (Ld 32 31),
  Gt 30 (Ct 33 81 [32]),
  Gt 30 (Un 34 .not 33),
  Pa 35 30 34,
  Mv 27 35]
def f66x9 : List AOper := [
  Mc 2 (.int .i64 5)]
def f66x10 : List AOper := [
  Fa 37 3 1,
  Ld 38 37,
  Un 39 .not 38,
  Mv 40 39,
  Gt 40 (Fa 41 4 1),
  Gt 40 (Ld 42 41),
  Gt 40 (Bc 43 .neq 42 0),
  Pa 44 40 43,
  Mv 36 44]
def f66x11 : List AOper := [
  Mc 2 (.int .i64 1)]
def f66x12 : List AOper := [
  Fa 46 5 1,
  Ld 47 46,
  Mv 48 47,
  Gt 48 (Fa 49 6 1),
  Gt 48 (Ld 50 49),
  Gt 48 (Ct 51 81 [50]),
  Gt 48 (Un 52 .not 51),
  Pa 53 48 52,
  Mv 45 53]
def f66x13 : List AOper := [
  Mc 2 (.int .i64 5)]
def f66x14 : List AOper := [
  Fa 55 5 1,
  Ld 56 55,
  Un 57 .not 56,
  Mv 58 57,
  Gt 58 (Fa 59 6 1),
  Gt 58 (Ld 60 59),
  Gt 58 (Bc 61 .neq 60 0),
  Pa 62 58 61,
  Mv 54 62]
def f66x15 : List AOper := [
  Mc 2 (.int .i64 1)]
def f66x16 : List AOper := [
  Fa 64 8 1,
  Ld 65 64,
  Mv 66 65,
  Gt 66 (Fa 67 9 1),
  Gt 66 (Ld 68 67),
  Gt 66 (Bc 69 .lss 68 1),
  Gt 66 (Mv 70 69),
  Gf 70 (Fa 71 9 1),
  Gf 70 (Ld 72 71),
  Gf 70 (Bc 73 .gtr 72 4294967295),
  Gt 66 (Po 74 70 73),
  Pa 75 66 74,
  Mv 63 75]
def f66x17 : List AOper := [
  Mc 2 (.int .i64 5)]
def f66x18 : List AOper := [
  Fa 77 8 1,
  Ld 78 77,
  Un 79 .not 78,
  Mv 80 79,
  Gt 80 (Fa 81 9 1),
  Gt 80 (Ld 82 81),
  Gt 80 (Bc 83 .neq 82 0),
  Gt 80 (Mv 84 83),
  Gf 84 (Fa 85 10 1),
  Gf 84 (Ld 86 85),
  Gf 84 (Op 87 (.bin .neq (.t 86) (.c (.int .u32 0)))),
  Gt 80 (Po 88 84 87),
  Pa 89 80 88,
  Mv 76 89]
def f66x19 : List AOper := [
  Mc 2 (.int .i64 1)]
def f66x20 : List AOper := [
  Fa 90 11 1,
  Ld 91 90,
  Ct 92 82 [91],
  Mv 4 92]
def f66x21 : List AOper := [
  Mv 93 4,
  Bc 94 .neq 93 0]
def f66x22 : List AOper := [
  Mv 95 4,
  Mv 2 95]
def f66x23 : List AOper := [
  Fa 96 12 1,
  Ld 97 96,
  Fa 98 13 1,
  Ld 99 98,
  Op 100 (.bin .neq (.t 99) (.c (.int .u32 0))),
  Op 101 (.eqb true (.t 97) (.t 100))]
def f66x24 : List AOper := [
  Mc 2 (.int .i64 1)]
def f66x25 : List AOper := [
  Fa 102 14 1,
  Ld 103 102,
  Ln 104 0 103,
  Bc 105 .gtr 104 64]
def f66x26 : List AOper := [
  Mc 2 (.int .i64 4)]
def f66x27 : List AOper := [
  Fa 106 14 1,
  Ld 107 106,
  Ln 108 0 107,
  Mc 109 (.int .i64 0)]
def f66x28 : List AOper := [
  Bi 110 .lss 109 108]
def f66x29 : List AOper := [
  Ia 111 1 107 109,
  Ld 112 111,
  Mv 6 112]
def f66x30 : List AOper := [
  Mv 113 6,
  Op 114 (.bin .eql (.t 113) (.c (.int .u32 0)))]
def f66x31 : List AOper := [
  Mc 2 (.int .i64 1)]
def f66x32 : List AOper := [
  Bc 115 .add 109 1,
  Mv 109 115]
def f66x33L : ACode := (.seq (.region f66x28 false) (.seq (.cond (.t 110) .skip (.exit 1)) (.seq (.block 2 (.seq (.region f66x29 false) (.seq (.region f66x30 false) (.cond (.t 114) (.seq (.region f66x31 false) .ret) .skip)))) (.region f66x32 false))))
def f66x34 : List AOper := [
  Fa 116 15 1,
  Ld 117 116,
  Ln 118 0 117,
  Bc 119 .gtr 118 64]
def f66x35 : List AOper := [
  Mc 2 (.int .i64 4)]
def f66x36 : List AOper := [
  Fa 120 15 1,
  Ld 121 120,
  Ln 122 0 121,
  Mc 123 (.int .i64 0)]
def f66x37 : List AOper := [
  Bi 124 .lss 123 122]
def f66x38 : List AOper := [
  Mv 125 123,
  Ia 126 2 121 123,
  Ls 127 2 126,
  Op 8 (.alloc (.agg [.int .i64 0, .con (.slice none 0 0)])),
  Mv 7 125,
  St 2 8 127]
def f66x39 : List AOper := [
  Fa 129 0 8,
  Ld 130 129,
  Bc 131 .lss 130 11,
  Mv 132 131,
  Gf 132 (Fa 133 0 8),
  Gf 132 (Ld 134 133),
  Gf 132 (Bc 135 .gtr 134 255),
  Po 136 132 135,
  Mv 128 136]
def f66x40 : List AOper := [
  Mc 2 (.int .i64 15)]
def f66x41 : List AOper := [
  Mv 138 7,
  Bc 139 .gtr 138 0,
  Mv 140 139,
  Gt 140 (Fa 141 0 8),
  Gt 140 (Ld 142 141),
  Gt 140 (Fa 143 15 1),
  Gt 140 (Ld 144 143),
  Gt 140 (Mv 145 7),
  Gt 140 (Bc 146 .sub 145 1),
  Af [6] (Gt 140 (Ia 147 2 144 146)),
  Gt 140 (Fa 148 0 147),
  Af [9, 6] (Gt 140 (Ld 149 148)),
  Gt 140 (Bi 150 .leq 142 149),
  Pa 151 140 150,
  Mv 137 151]
def f66x42 : List AOper := [
  Mc 2 (.int .i64 16)]
def f66x43 : List AOper := [
  Fa 153 1 8,
  Ld 154 153,
  Ln 155 0 154,
  Bc 156 .gtr 155 255,
  Mv 152 156]
def f66x44 : List AOper := [
  Mc 2 (.int .i64 4)]
def f66x45 : List AOper := [
  Bc 157 .add 123 1,
  Mv 123 157]
def f66x46L : ACode := (.seq (.region f66x37 false) (.seq (.cond (.t 124) .skip (.exit 3)) (.seq (.block 4 (.seq (.region f66x38 false) (.block 5 (.seq (.region f66x39 false) (.cond (.t 128) (.seq (.region f66x40 false) .ret) (.seq (.region f66x41 true) (.cond (.t 137) (.seq (.region f66x42 false) .ret) (.seq (.region f66x43 false) (.cond (.t 152) (.seq (.region f66x44 false) .ret) .skip))))))))) (.region f66x45 false))))
def f66x47 : List AOper := [
  Mc 2 (.int .i64 0)]
def f66 : AFunc := ⟨158, 1, false, [.t 2], (.seq (.region f66x0 false) (.seq (.seq (.region f66x1 false) (.cond (.t 16) (.seq (.region f66x2 false) .ret) .skip)) (.seq (.seq (.region f66x3 false) (.seq (.region f66x4 false) (.cond (.t 21) (.seq (.region f66x5 false) .ret) .skip))) (.seq (.block 0 (.seq (.region f66x6 false) (.cond (.t 23) (.seq (.region f66x7 false) .ret) (.seq (.region f66x8 false) (.cond (.t 27) (.seq (.region f66x9 false) .ret) (.seq (.region f66x10 false) (.cond (.t 36) (.seq (.region f66x11 false) .ret) (.seq (.region f66x12 false) (.cond (.t 45) (.seq (.region f66x13 false) .ret) (.seq (.region f66x14 false) (.cond (.t 54) (.seq (.region f66x15 false) .ret) (.seq (.region f66x16 false) (.cond (.t 63) (.seq (.region f66x17 false) .ret) (.seq (.region f66x18 false) (.cond (.t 76) (.seq (.region f66x19 false) .ret) .skip))))))))))))))) (.seq (.seq (.region f66x20 false) (.seq (.region f66x21 false) (.cond (.t 94) (.seq (.region f66x22 false) .ret) .skip))) (.seq (.seq (.region f66x23 false) (.cond (.t 101) (.seq (.region f66x24 false) .ret) .skip)) (.seq (.seq (.region f66x25 false) (.cond (.t 105) (.seq (.region f66x26 false) .ret) .skip)) (.seq (.seq (.region f66x27 false) (.block 1 (.loop f66x33L))) (.seq (.seq (.region f66x34 false) (.cond (.t 119) (.seq (.region f66x35 false) .ret) .skip)) (.seq (.seq (.region f66x36 false) (.block 3 (.loop f66x46L))) (.seq (.region f66x47 false) .ret)))))))))))⟩
def f176x0 : List AOper := [
  Op 2 (.box (.t 0))]
def f176x1 : List AOper := [
  Ld 3 1,
  Ld 4 1,
  Nc 5 4,
  Fa 6 10 5,
  Af [1] (Ld 7 6),
  Ls 8 27 2,
  Op 9 (.build [.int .i64 0, .int .i64 0, .int .i64 0, .int .i64 0, .int .i64 0, .int .u32 0, .con (.slice none 0 0), .con (.slice none 0 0), .int .i64 0, .con (.slice none 0 0), .int .u32 0, .bool false, .int .i64 0, .bool false, .int .i64 0, .bool false, .bool false, .int .i64 0, .int .u32 0, .con (.slice none 0 0), .bool false, .int .u32 0, .con (.slice none 0 0), .con (.slice none 0 0), .con (.slice none 0 0), .int .i64 0, .int .i64 0, .con (.slice none 0 0)] [(0, 1), (1, 27)] [(.c (.int .i64 3)), (.t 8)]),
  Af [5] (Op 10 (.bsl 28 [.int .i64 0, .int .i64 0, .int .i64 0, .int .i64 0, .int .i64 0, .int .u32 0, .con (.slice none 0 0), .con (.slice none 0 0), .int .i64 0, .con (.slice none 0 0), .int .u32 0, .bool false, .int .i64 0, .bool false, .int .i64 0, .bool false, .bool false, .int .i64 0, .int .u32 0, .con (.slice none 0 0), .bool false, .int .u32 0, .con (.slice none 0 0), .con (.slice none 0 0), .con (.slice none 0 0), .int .i64 0, .int .i64 0, .con (.slice none 0 0)] 1 [0] [(.t 9)])),
  Af [4, 7, 1, 5] (Ap 11 28 328 7 10),
  Nc 12 3,
  Fa 13 10 12,
  Af [0, 8, 4, 7, 1, 5] (St 1 13 11)]
def f176 : AFunc := ⟨14, 2, false, [], (.seq (.region f176x0 false) (.region f176x1 true))⟩
def f177x0 : List AOper := [
  Mv 2 0,
  Nc 3 2,
  Fa 4 0 3,
  Fa 5 4 4,
  Ld 6 5,
  Bc 7 .neq 6 0]
def f177x1 : List AOper := [
  Mv 8 0,
  Mv 9 0,
  Nc 10 9,
  Fa 11 9 10,
  Ld 12 11,
  Mv 13 0,
  Nc 14 13,
  Fa 15 0 14,
  Fa 16 4 15,
  Ld 17 16,
  Bi 18 .add 12 17,
  Nc 19 8,
  Fa 20 0 19,
  Fa 21 2 20,
  Af [4, 9] (St 1 21 18)]
def f177 : AFunc := ⟨22, 1, false, [], (.seq (.region f177x0 false) (.cond (.t 7) (.region f177x1 true) .skip))⟩
def f57x0 : List AOper := [
  Mc 2 (.con (.slice none 0 0))]
def f57x1 : List AOper := [
  Mc 3 (.con (.slice none 0 0))]
def f57x2 : List AOper := [
  Mv 6 0,
  Ln 7 0 6,
  Mc 8 (.int .i64 0)]
def f57x3 : List AOper := [
  Bi 9 .lss 8 7]
def f57x4 : List AOper := [
  Ia 10 2 6 8,
  Ls 11 2 10,
  Op 5 (.alloc (.agg [.int .i64 0, .con (.slice none 0 0)])),
  St 2 5 11]
def f57x5 : List AOper := [
  Mv 12 3,
  Fa 13 1 5,
  Ld 14 13,
  Ap 15 1 8 12 14,
  Mv 3 15]
def f57x6 : List AOper := [
  Bc 16 .add 8 1,
  Mv 8 16]
def f57x7L : ACode := (.seq (.region f57x3 false) (.seq (.cond (.t 9) .skip (.exit 0)) (.seq (.block 1 (.seq (.region f57x4 false) (.region f57x5 false))) (.region f57x6 false))))
def f57x8 : List AOper := [
  Mv 17 3,
  Mv 2 17]
def f57 : AFunc := ⟨18, 1, false, [.t 2], (.seq (.region f57x0 false) (.seq (.region f57x1 false) (.seq (.seq (.region f57x2 false) (.block 0 (.loop f57x7L))) (.seq (.region f57x8 false) .ret))))⟩
def f57x7LH : List AItem := [.inLoop f57x7L, .inBlock 0, .code (.seq (.region f57x8 false) .ret)]
def f103x0 : List AOper := [
  Mc 4 (.bool false)]
def f103x1 : List AOper := [
  Mv 7 0,
  Ln 8 0 7,
  Mv 9 1,
  Ln 10 0 9,
  Bi 11 .neq 8 10]
def f103x2 : List AOper := [
  Mc 4 (.bool false)]
def f103x3 : List AOper := [
  Mv 12 0,
  Ln 13 0 12,
  Mc 14 (.int .i64 0)]
def f103x4 : List AOper := [
  Bi 15 .lss 14 13]
def f103x5 : List AOper := [
  Mv 16 14,
  Mv 5 16]
def f103x6 : List AOper := [
  Mv 17 0,
  Mv 18 5,
  Ia 19 2 17 18,
  Fa 20 0 19,
  Af [2] (Ld 21 20),
  Mv 22 1,
  Mv 23 5,
  Ia 24 2 22 23,
  Fa 25 0 24,
  Af [7] (Ld 26 25),
  Bi 27 .neq 21 26,
  Mv 28 27,
  Gf 28 (Mv 29 0),
  Gf 28 (Mv 30 5),
  Af [4, 9, 2, 7] (Gf 28 (Ia 31 2 29 30)),
  Gf 28 (Fa 32 1 31),
  Af [14, 4, 9, 2, 7] (Gf 28 (Ld 33 32)),
  Af [16, 14, 4, 9, 2, 7] (Gf 28 (Ln 34 0 33)),
  Gf 28 (Mv 35 1),
  Gf 28 (Mv 36 5),
  Af [4, 9, 2, 7] (Gf 28 (Ia 37 2 35 36)),
  Gf 28 (Fa 38 1 37),
  Af [20, 4, 9, 2, 7] (Gf 28 (Ld 39 38)),
  Af [22, 20, 4, 9, 2, 7] (Gf 28 (Ln 40 0 39)),
  Gf 28 (Bi 41 .neq 34 40),
  Po 42 28 41]
def f103x7 : List AOper := [
  Mc 4 (.bool false)]
def f103x8 : List AOper := [
  Mv 43 0,
  Mv 44 5,
  Ia 45 2 43 44,
  Fa 46 1 45,
  Ld 47 46,
  Ln 48 0 47,
  Mc 49 (.int .i64 0)]
def f103x9 : List AOper := [
  Bi 50 .lss 49 48]
def f103x10 : List AOper := [
  Mv 51 49,
  Mv 6 51]
def f103x11 : List AOper := [
  Mv 52 0,
  Mv 53 5,
  Ia 54 2 52 53,
  Fa 55 1 54,
  Af [2] (Ld 56 55),
  Mv 57 6,
  Af [4, 2] (Ia 58 1 56 57),
  Af [6, 4, 2] (Ld 59 58),
  Mv 60 1,
  Mv 61 5,
  Ia 62 2 60 61,
  Fa 63 1 62,
  Af [10] (Ld 64 63),
  Mv 65 6,
  Af [12, 10] (Ia 66 1 64 65),
  Af [14, 12, 10] (Ld 67 66),
  Bi 68 .neq 59 67]
def f103x12 : List AOper := [
  Mc 4 (.bool false)]
def f103x13 : List AOper := [
  Bc 69 .add 49 1,
  Mv 49 69]
def f103x14L : ACode := (.seq (.region f103x9 false) (.seq (.cond (.t 50) .skip (.exit 2)) (.seq (.block 3 (.seq (.region f103x10 false) (.seq (.region f103x11 true) (.cond (.t 68) (.seq (.region f103x12 false) .ret) .skip)))) (.region f103x13 false))))
def f103x15 : List AOper := [
  Bc 70 .add 14 1,
  Mv 14 70]
def f103x16L : ACode := (.seq (.region f103x4 false) (.seq (.cond (.t 15) .skip (.exit 0)) (.seq (.block 1 (.seq (.region f103x5 false) (.seq (.seq (.region f103x6 true) (.cond (.t 42) (.seq (.region f103x7 false) .ret) .skip)) (.seq (.region f103x8 false) (.block 2 (.loop f103x14L)))))) (.region f103x15 false))))
def f103x17 : List AOper := [
  Mc 4 (.bool true)]
def f103 : AFunc := ⟨71, 2, false, [.t 4], (.seq (.region f103x0 false) (.seq (.seq (.region f103x1 false) (.cond (.t 11) (.seq (.region f103x2 false) .ret) .skip)) (.seq (.seq (.region f103x3 false) (.block 0 (.loop f103x16L))) (.seq (.region f103x17 false) .ret))))⟩
def f103x16LH : List AItem := [.inLoop f103x16L, .inBlock 0, .code (.seq (.region f103x17 false) .ret)]
def f103x14LH : List AItem := [.inLoop f103x14L, .inBlock 2, .inBlock 1, .code (.region f103x15 false), .inLoop f103x16L, .inBlock 0, .code (.seq (.region f103x17 false) .ret)]
def f104x0 : List AOper := [
  Mc 4 (.bool false)]
def f104x1 : List AOper := [
  Mv 6 0,
  Ln 7 0 6,
  Mv 8 1,
  Ln 9 0 8,
  Bi 10 .neq 7 9]
def f104x2 : List AOper := [
  Mc 4 (.bool false)]
def f104x3 : List AOper := [
  Mv 11 0,
  Ln 12 0 11,
  Mc 13 (.int .i64 0)]
def f104x4 : List AOper := [
  Bi 14 .lss 13 12]
def f104x5 : List AOper := [
  Mv 15 13,
  Mv 5 15]
def f104x6 : List AOper := [
  Mv 16 0,
  Mv 17 5,
  Ia 18 1 16 17,
  Af [2] (Ld 19 18),
  Mv 20 1,
  Mv 21 5,
  Ia 22 1 20 21,
  Af [6] (Ld 23 22),
  Bi 24 .neq 19 23]
def f104x7 : List AOper := [
  Mc 4 (.bool false)]
def f104x8 : List AOper := [
  Bc 25 .add 13 1,
  Mv 13 25]
def f104x9L : ACode := (.seq (.region f104x4 false) (.seq (.cond (.t 14) .skip (.exit 0)) (.seq (.block 1 (.seq (.region f104x5 false) (.seq (.region f104x6 true) (.cond (.t 24) (.seq (.region f104x7 false) .ret) .skip)))) (.region f104x8 false))))
def f104x10 : List AOper := [
  Mc 4 (.bool true)]
def f104 : AFunc := ⟨26, 2, false, [.t 4], (.seq (.region f104x0 false) (.seq (.seq (.region f104x1 false) (.cond (.t 10) (.seq (.region f104x2 false) .ret) .skip)) (.seq (.seq (.region f104x3 false) (.block 0 (.loop f104x9L))) (.seq (.region f104x10 false) .ret))))⟩
def f104x9LH : List AItem := [.inLoop f104x9L, .inBlock 0, .code (.seq (.region f104x10 false) .ret)]
def f178x0 : List AOper := [
  Op 1 (.box (.t 0)),
  Mc 2 (.bool false)]
def f178x1 : List AOper := [
  Fa 3 1 1,
  Ld 4 3,
  Bc 5 .geq 4 0,
  Mv 6 5,
  Gt 6 (Fa 7 1 1),
  Af [1] (Gt 6 (Ld 8 7)),
  Gt 6 (Bc 9 .leq 8 32),
  Pa 10 6 9,
  Mv 11 10,
  Gt 11 (Fa 12 0 1),
  Af [5, 1] (Gt 11 (Ld 13 12)),
  Gt 11 (Fa 14 1 1),
  Af [5, 1] (Gt 11 (Ld 15 14)),
  Af [10, 12, 5, 1] (Gt 11 (Ct 16 181 [13, 15])),
  Gt 11 (Fa 17 0 1),
  Af [5, 1] (Gt 11 (Ld 18 17)),
  Gt 11 (Bi 19 .eql 16 18),
  Pa 20 11 19,
  Mv 2 20]
def f178 : AFunc := ⟨21, 1, false, [.t 2], (.seq (.region f178x0 false) (.seq (.region f178x1 true) .ret))⟩
def f73x0 : List AOper := [
  Mc 2 (.int .i64 0)]
def f73x1 : List AOper := [
  Mv 5 0,
  Ln 6 0 5,
  Mc 7 (.int .i64 0)]
def f73x2 : List AOper := [
  Bi 8 .lss 7 6]
def f73x3 : List AOper := [
  Ia 9 1 5 7,
  Ld 10 9,
  Mv 4 10]
def f73x4 : List AOper := [
  Mv 11 4,
  Bc 12 .neq 11 0]
def f73x5 : List AOper := [
  Mv 13 4,
  Mv 2 13]
def f73x6 : List AOper := [
  Bc 14 .add 7 1,
  Mv 7 14]
def f73x7L : ACode := (.seq (.region f73x2 false) (.seq (.cond (.t 8) .skip (.exit 0)) (.seq (.block 1 (.seq (.region f73x3 false) (.seq (.region f73x4 false) (.cond (.t 12) (.seq (.region f73x5 false) .ret) .skip)))) (.region f73x6 false))))
def f73x8 : List AOper := [
  Mc 2 (.int .i64 0)]
def f73 : AFunc := ⟨15, 1, false, [.t 2], (.seq (.region f73x0 false) (.seq (.seq (.region f73x1 false) (.block 0 (.loop f73x7L))) (.seq (.region f73x8 false) .ret)))⟩
def f74x0 : List AOper := [
  Mc 4 (.int .i64 0)]
def f74x1 : List AOper := [
  Mv 5 0]
def f74x2 : List AOper := [
  Mv 6 1,
  Mv 4 6]
def f74x3 : List AOper := [
  Mc 4 (.int .i64 0)]
def f74 : AFunc := ⟨7, 2, false, [.t 4], (.seq (.region f74x0 false) (.seq (.seq (.region f74x1 false) (.cond (.t 5) (.seq (.region f74x2 false) .ret) .skip)) (.seq (.region f74x3 false) .ret)))⟩
def f75x0 : List AOper := [
  Mc 2 (.int .i64 0)]
def f75x1 : List AOper := [
  Mv 7 0,
  Ln 8 0 7,
  Bc 9 .gtr 8 64]
def f75x2 : List AOper := [
  Mc 2 (.int .i64 4)]
def f75x3 : List AOper := [
  Mc 3 (.bool false)]
def f75x4 : List AOper := [
  Mv 10 0,
  Ln 11 0 10,
  Mc 12 (.int .i64 0)]
def f75x5 : List AOper := [
  Bi 13 .lss 12 11]
def f75x6 : List AOper := [
  Mv 14 12,
  Ia 15 2 10 12,
  Ls 16 2 15,
  Op 5 (.alloc (.agg [.int .i64 0, .con (.slice none 0 0)])),
  Mv 4 14,
  St 2 5 16]
def f75x7 : List AOper := [
  Ls 17 2 5,
  Ct 18 105 [17],
  Mv 6 18]
def f75x8 : List AOper := [
  Mv 19 6,
  Bc 20 .neq 19 0]
def f75x9 : List AOper := [
  Mv 21 6,
  Mv 2 21]
def f75x10 : List AOper := [
  Fa 22 0 5,
  Ld 23 22,
  Ct 24 106 [23],
  Mv 25 24,
  Gt 25 (Mv 26 3),
  Pa 27 25 26]
def f75x11 : List AOper := [
  Mc 2 (.int .i64 1)]
def f75x12 : List AOper := [
  Mv 28 4,
  Bc 29 .gtr 28 0,
  Mv 30 29,
  Gt 30 (Fa 31 0 5),
  Gt 30 (Ld 32 31),
  Gt 30 (Op 33 (.bsl 1 [.int .i64 0] 2 [0, 1] [(.c (.int .i64 2)), (.c (.int .i64 3))])),
  Af [4, 5] (Gt 30 (Ct 34 107 [32, 33])),
  Pa 35 30 34,
  Mv 36 35,
  Gt 36 (Mv 37 0),
  Gt 36 (Mv 38 4),
  Gt 36 (Bc 39 .sub 38 1),
  Af [6, 4, 5] (Gt 36 (Ia 40 2 37 39)),
  Gt 36 (Fa 41 0 40),
  Af [12, 6, 4, 5] (Gt 36 (Ld 42 41)),
  Gt 36 (Fa 43 0 5),
  Af [6, 4, 5] (Gt 36 (Ld 44 43)),
  Gt 36 (Bi 45 .eql 42 44),
  Pa 46 36 45,
  Mv 47 46,
  Gt 47 (Mv 48 0),
  Gt 47 (Mv 49 4),
  Gt 47 (Bc 50 .sub 49 1),
  Af [14, 16, 12, 6, 4, 5] (Gt 47 (Ia 51 2 48 50)),
  Gt 47 (Fa 52 1 51),
  Af [23, 14, 16, 12, 6, 4, 5] (Gt 47 (Ld 53 52)),
  Af [25, 23, 14, 16, 12, 6, 4, 5] (Gt 47 (Ln 54 0 53)),
  Gt 47 (Bc 55 .lss 54 255),
  Pa 56 47 55]
def f75x13 : List AOper := [
  Mc 2 (.int .i64 1)]
def f75x14 : List AOper := [
  Mv 57 3,
  Mv 58 57,
  Gf 58 (Fa 59 0 5),
  Gf 58 (Ld 60 59),
  Gf 58 (Ct 61 106 [60]),
  Gf 58 (Un 62 .not 61),
  Po 63 58 62,
  Mv 3 63]
def f75x15 : List AOper := [
  Bc 64 .add 12 1,
  Mv 12 64]
def f75x16L : ACode := (.seq (.region f75x5 false) (.seq (.cond (.t 13) .skip (.exit 0)) (.seq (.block 1 (.seq (.region f75x6 false) (.seq (.seq (.region f75x7 false) (.seq (.region f75x8 false) (.cond (.t 20) (.seq (.region f75x9 false) .ret) .skip))) (.seq (.seq (.region f75x10 false) (.cond (.t 27) (.seq (.region f75x11 false) .ret) .skip)) (.seq (.seq (.region f75x12 true) (.cond (.t 56) (.seq (.region f75x13 false) .ret) .skip)) (.region f75x14 false)))))) (.region f75x15 false))))
def f75x17 : List AOper := [
  Mc 2 (.int .i64 0)]
def f75 : AFunc := ⟨65, 1, false, [.t 2], (.seq (.region f75x0 false) (.seq (.seq (.region f75x1 false) (.cond (.t 9) (.seq (.region f75x2 false) .ret) .skip)) (.seq (.region f75x3 false) (.seq (.seq (.region f75x4 false) (.block 0 (.loop f75x16L))) (.seq (.region f75x17 false) .ret)))))⟩
def f76x0 : List AOper := [
  Mc 6 (.int .i64 0)]
def f76x1 : List AOper := [
  Mv 8 0,
  Mv 9 8,
  Gt 9 (Mv 10 1),
  Gt 9 (Mv 11 2),
  Gt 9 (Bi 12 .lss 10 11),
  Gt 9 (Mv 13 12),
  Gf 13 (Mv 14 1),
  Gf 13 (Bc 15 .gtr 14 4294967295),
  Gt 9 (Po 16 13 15),
  Pa 17 9 16,
  Mv 7 17]
def f76x2 : List AOper := [
  Mc 6 (.int .i64 5)]
def f76x3 : List AOper := [
  Mv 19 0,
  Un 20 .not 19,
  Mv 21 20,
  Gt 21 (Mv 22 1),
  Gt 21 (Bc 23 .neq 22 0),
  Pa 24 21 23,
  Mv 18 24]
def f76x4 : List AOper := [
  Mc 6 (.int .i64 1)]
def f76x5 : List AOper := [
  Mc 6 (.int .i64 0)]
def f76 : AFunc := ⟨25, 3, false, [.t 6], (.seq (.region f76x0 false) (.seq (.block 0 (.seq (.region f76x1 false) (.cond (.t 7) (.seq (.region f76x2 false) .ret) (.seq (.region f76x3 false) (.cond (.t 18) (.seq (.region f76x4 false) .ret) .skip))))) (.seq (.region f76x5 false) .ret)))⟩
def f77x0 : List AOper := [
  Mc 2 (.int .i64 0)]
def f77x1 : List AOper := [
  Mv 4 0,
  Ln 5 0 4,
  Bc 6 .gtr 5 255]
def f77x2 : List AOper := [
  Mc 2 (.int .i64 4)]
def f77x3 : List AOper := [
  Mv 7 0,
  Ln 8 0 7,
  Mc 9 (.int .i64 0)]
def f77x4 : List AOper := [
  Bi 10 .lss 9 8]
def f77x5 : List AOper := [
  Mv 11 9,
  Mv 3 11]
def f77x6 : List AOper := [
  Mv 12 3,
  Bc 13 .gtr 12 0,
  Mv 14 13,
  Gt 14 (Mv 15 0),
  Gt 14 (Mv 16 3),
  Gt 14 (Ia 17 1 15 16),
  Af [5] (Gt 14 (Ld 18 17)),
  Gt 14 (Mv 19 0),
  Gt 14 (Mv 20 3),
  Gt 14 (Bc 21 .sub 20 1),
  Gt 14 (Ia 22 1 19 21),
  Af [10] (Gt 14 (Ld 23 22)),
  Gt 14 (Bi 24 .leq 18 23),
  Pa 25 14 24]
def f77x7 : List AOper := [
  Mc 2 (.int .i64 16)]
def f77x8 : List AOper := [
  Bc 26 .add 9 1,
  Mv 9 26]
def f77x9L : ACode := (.seq (.region f77x4 false) (.seq (.cond (.t 10) .skip (.exit 0)) (.seq (.block 1 (.seq (.region f77x5 false) (.seq (.region f77x6 true) (.cond (.t 25) (.seq (.region f77x7 false) .ret) .skip)))) (.region f77x8 false))))
def f77x10 : List AOper := [
  Mc 2 (.int .i64 0)]
def f77 : AFunc := ⟨27, 1, false, [.t 2], (.seq (.region f77x0 false) (.seq (.seq (.region f77x1 false) (.cond (.t 6) (.seq (.region f77x2 false) .ret) .skip)) (.seq (.seq (.region f77x3 false) (.block 0 (.loop f77x9L))) (.seq (.region f77x10 false) .ret))))⟩
def f78x0 : List AOper := [
  Mc 2 (.int .i64 0)]
def f78x1 : List AOper := [
  Mv 5 0,
  Ln 6 0 5,
  Bc 7 .gtr 6 64]
def f78x2 : List AOper := [
  Mc 2 (.int .i64 4)]
def f78x3 : List AOper := [
  Mv 8 0,
  Ln 9 0 8,
  Mc 10 (.int .i64 0)]
def f78x4 : List AOper := [
  Bi 11 .lss 10 9]
def f78x5 : List AOper := [
  Ia 12 1 8 10,
  Ld 13 12,
  Mv 4 13]
def f78x6 : List AOper := [
  Mv 14 4,
  Op 15 (.bin .eql (.t 14) (.c (.int .u32 0)))]
def f78x7 : List AOper := [
  Mc 2 (.int .i64 1)]
def f78x8 : List AOper := [
  Bc 16 .add 10 1,
  Mv 10 16]
def f78x9L : ACode := (.seq (.region f78x4 false) (.seq (.cond (.t 11) .skip (.exit 0)) (.seq (.block 1 (.seq (.region f78x5 false) (.seq (.region f78x6 false) (.cond (.t 15) (.seq (.region f78x7 false) .ret) .skip)))) (.region f78x8 false))))
def f78x10 : List AOper := [
  Mc 2 (.int .i64 0)]
def f78 : AFunc := ⟨17, 1, false, [.t 2], (.seq (.region f78x0 false) (.seq (.seq (.region f78x1 false) (.cond (.t 7) (.seq (.region f78x2 false) .ret) .skip)) (.seq (.seq (.region f78x3 false) (.block 0 (.loop f78x9L))) (.seq (.region f78x10 false) .ret))))⟩
def f79x0 : List AOper := [
  Mc 2 (.int .i64 0)]
def f79x1 : List AOper := [
  Mv 5 0,
  Ln 6 0 5,
  Bc 7 .gtr 6 64]
def f79x2 : List AOper := [
  Mc 2 (.int .i64 4)]
def f79x3 : List AOper := [
  Mv 8 0,
  Ln 9 0 8,
  Mc 10 (.int .i64 0)]
def f79x4 : List AOper := [
  Bi 11 .lss 10 9]
def f79x5 : List AOper := [
  Mv 12 10,
  Ia 13 2 8 10,
  Ls 14 2 13,
  Op 4 (.alloc (.agg [.int .i64 0, .con (.slice none 0 0)])),
  Mv 3 12,
  St 2 4 14]
def f79x6 : List AOper := [
  Fa 16 0 4,
  Ld 17 16,
  Bc 18 .leq 17 10,
  Mv 19 18,
  Gf 19 (Fa 20 0 4),
  Gf 19 (Ld 21 20),
  Gf 19 (Bc 22 .gtr 21 255),
  Po 23 19 22,
  Mv 15 23]
def f79x7 : List AOper := [
  Mc 2 (.int .i64 15)]
def f79x8 : List AOper := [
  Mv 25 3,
  Bc 26 .gtr 25 0,
  Mv 27 26,
  Gt 27 (Fa 28 0 4),
  Gt 27 (Ld 29 28),
  Gt 27 (Mv 30 0),
  Gt 27 (Mv 31 3),
  Gt 27 (Bc 32 .sub 31 1),
  Gt 27 (Ia 33 2 30 32),
  Gt 27 (Fa 34 0 33),
  Af [8] (Gt 27 (Ld 35 34)),
  Gt 27 (Bi 36 .leq 29 35),
  Pa 37 27 36,
  Mv 24 37]
def f79x9 : List AOper := [
  Mc 2 (.int .i64 16)]
def f79x10 : List AOper := [
  Fa 39 1 4,
  Ld 40 39,
  Ln 41 0 40,
  Bc 42 .gtr 41 255,
  Mv 38 42]
def f79x11 : List AOper := [
  Mc 2 (.int .i64 4)]
def f79x12 : List AOper := [
  Bc 43 .add 10 1,
  Mv 10 43]
def f79x13L : ACode := (.seq (.region f79x4 false) (.seq (.cond (.t 11) .skip (.exit 0)) (.seq (.block 1 (.seq (.region f79x5 false) (.block 2 (.seq (.region f79x6 false) (.cond (.t 15) (.seq (.region f79x7 false) .ret) (.seq (.region f79x8 true) (.cond (.t 24) (.seq (.region f79x9 false) .ret) (.seq (.region f79x10 false) (.cond (.t 38) (.seq (.region f79x11 false) .ret) .skip))))))))) (.region f79x12 false))))
def f79x14 : List AOper := [
  Mc 2 (.int .i64 0)]
def f79 : AFunc := ⟨44, 1, false, [.t 2], (.seq (.region f79x0 false) (.seq (.seq (.region f79x1 false) (.cond (.t 7) (.seq (.region f79x2 false) .ret) .skip)) (.seq (.seq (.region f79x3 false) (.block 0 (.loop f79x13L))) (.seq (.region f79x14 false) .ret))))⟩
def f179x0 : List AOper := [
  Op 1 (.box (.t 0)),
  Mc 2 (.bool false)]
def f179x1 : List AOper := [
  Fa 3 1 1,
  Ld 4 3,
  Bc 5 .geq 4 0,
  Mv 6 5,
  Gt 6 (Fa 7 1 1),
  Af [1] (Gt 6 (Ld 8 7)),
  Gt 6 (Bc 9 .leq 8 32),
  Pa 10 6 9,
  Mv 11 10,
  Gt 11 (Fa 12 0 1),
  Af [5, 1] (Gt 11 (Ld 13 12)),
  Gt 11 (Fa 14 1 1),
  Af [5, 1] (Gt 11 (Ld 15 14)),
  Af [10, 12, 5, 1] (Gt 11 (Ct 16 182 [13, 15])),
  Gt 11 (Fa 17 0 1),
  Af [5, 1] (Gt 11 (Ld 18 17)),
  Gt 11 (Bi 19 .eql 16 18),
  Pa 20 11 19,
  Mv 2 20]
def f179 : AFunc := ⟨21, 1, false, [.t 2], (.seq (.region f179x0 false) (.seq (.region f179x1 true) .ret))⟩
def f180x0 : List AOper := [
  Op 2 (.box (.t 0)),
  Op 3 (.box (.t 1)),
  Mc 4 (.int .i64 0)]
def f180x1 : List AOper := [
  Fa 5 0 2,
  Ld 6 5,
  Fa 7 0 3,
  Ld 8 7,
  Bi 9 .neq 6 8]
def f180x2 : List AOper := [
  Fa 10 0 2,
  Ld 11 10,
  Fa 12 0 3,
  Ld 13 12,
  Bi 14 .lss 11 13]
def f180x3 : List AOper := [
  Mc 4 (.int .i64 (-1))]
def f180x4 : List AOper := [
  Mc 4 (.int .i64 1)]
def f180x5 : List AOper := [
  Fa 15 1 2,
  Ld 16 15,
  Fa 17 1 3,
  Ld 18 17,
  Bi 19 .lss 16 18]
def f180x6 : List AOper := [
  Mc 4 (.int .i64 (-1))]
def f180x7 : List AOper := [
  Fa 20 1 2,
  Ld 21 20,
  Fa 22 1 3,
  Ld 23 22,
  Bi 24 .gtr 21 23]
def f180x8 : List AOper := [
  Mc 4 (.int .i64 1)]
def f180x9 : List AOper := [
  Mc 4 (.int .i64 0)]
def f180 : AFunc := ⟨25, 2, false, [.t 4], (.seq (.region f180x0 false) (.seq (.seq (.region f180x1 false) (.cond (.t 9) (.seq (.seq (.region f180x2 false) (.cond (.t 14) (.seq (.region f180x3 false) .ret) .skip)) (.seq (.region f180x4 false) .ret)) .skip)) (.seq (.seq (.region f180x5 false) (.cond (.t 19) (.seq (.region f180x6 false) .ret) .skip)) (.seq (.seq (.region f180x7 false) (.cond (.t 24) (.seq (.region f180x8 false) .ret) .skip)) (.seq (.region f180x9 false) .ret)))))⟩
def f80x0 : List AOper := [
  Mc 2 (.int .i64 0)]
def f80x1 : List AOper := [
  Mv 5 0,
  Ln 6 0 5,
  Bc 7 .gtr 6 64]
def f80x2 : List AOper := [
  Mc 2 (.int .i64 4)]
def f80x3 : List AOper := [
  Mv 8 0,
  Ln 9 0 8,
  Mc 10 (.int .i64 0)]
def f80x4 : List AOper := [
  Bi 11 .lss 10 9]
def f80x5 : List AOper := [
  Mv 12 10,
  Mv 3 12]
def f80x6 : List AOper := [
  Mv 13 0,
  Mv 14 3,
  Ct 15 108 [13, 14],
  Mv 4 15]
def f80x7 : List AOper := [
  Mv 16 4,
  Bc 17 .neq 16 0]
def f80x8 : List AOper := [
  Mv 18 4,
  Mv 2 18]
def f80x9 : List AOper := [
  Bc 19 .add 10 1,
  Mv 10 19]
def f80x10L : ACode := (.seq (.region f80x4 false) (.seq (.cond (.t 11) .skip (.exit 0)) (.seq (.block 1 (.seq (.region f80x5 false) (.seq (.region f80x6 false) (.seq (.region f80x7 false) (.cond (.t 17) (.seq (.region f80x8 false) .ret) .skip))))) (.region f80x9 false))))
def f80x11 : List AOper := [
  Mc 2 (.int .i64 0)]
def f80 : AFunc := ⟨20, 1, false, [.t 2], (.seq (.region f80x0 false) (.seq (.seq (.region f80x1 false) (.cond (.t 7) (.seq (.region f80x2 false) .ret) .skip)) (.seq (.seq (.region f80x3 false) (.block 0 (.loop f80x10L))) (.seq (.region f80x11 false) .ret))))⟩
def f81x0 : List AOper := [
  Mc 2 (.bool false)]
def f81x1 : List AOper := [
  Mv 3 0,
  Bc 4 .geq 3 0,
  Mv 5 4,
  Gt 5 (Mv 6 0),
  Gt 5 (Bc 7 .leq 6 4294967295),
  Pa 8 5 7,
  Mv 2 8]
def f81 : AFunc := ⟨9, 1, false, [.t 2], (.seq (.region f81x0 false) (.seq (.region f81x1 false) .ret))⟩
def f82x0 : List AOper := [
  Mc 2 (.int .i64 0)]
def f82x1 : List AOper := [
  Mv 4 0,
  Ln 5 0 4,
  Bc 6 .gtr 5 255]
def f82x2 : List AOper := [
  Mc 2 (.int .i64 4)]
def f82x3 : List AOper := [
  Mc 3 (.int .i64 1)]
def f82x4 : List AOper := [
  Mv 7 3,
  Mv 8 0,
  Ln 9 0 8,
  Bi 10 .lss 7 9]
def f82x5 : List AOper := [
  Mv 13 0,
  Mv 14 3,
  Ia 15 1 13 14,
  Af [2] (Ld 16 15),
  Mv 17 0,
  Mv 18 3,
  Bc 19 .sub 18 1,
  Ia 20 1 17 19,
  Af [7] (Ld 21 20),
  Bi 22 .leq 16 21]
def f82x6 : List AOper := [
  Mc 2 (.int .i64 16)]
def f82x7 : List AOper := [
  Mv 11 3,
  Bc 12 .add 11 1,
  Mv 3 12]
def f82x8L : ACode := (.seq (.seq (.region f82x4 false) (.cond (.t 10) .skip (.exit 0))) (.seq (.block 1 (.seq (.region f82x5 true) (.cond (.t 22) (.seq (.region f82x6 false) .ret) .skip))) (.region f82x7 false)))
def f82x9 : List AOper := [
  Mc 2 (.int .i64 0)]
def f82 : AFunc := ⟨23, 1, false, [.t 2], (.seq (.region f82x0 false) (.seq (.seq (.region f82x1 false) (.cond (.t 6) (.seq (.region f82x2 false) .ret) .skip)) (.seq (.seq (.region f82x3 false) (.block 0 (.loop f82x8L))) (.seq (.region f82x9 false) .ret))))⟩
def f181x0 : List AOper := [
  Mc 4 (.int .u32 0)]
def f181x1 : List AOper := [
  Mv 5 0,
  Mv 6 1,
  Ct 7 183 [6],
  Bi 8 .and 5 7,
  Mv 4 8]
def f181 : AFunc := ⟨9, 2, false, [.t 4], (.seq (.region f181x0 false) (.seq (.region f181x1 false) .ret))⟩
def f105x0 : List AOper := [
  Op 1 (.box (.t 0)),
  Mc 2 (.int .i64 0)]
def f105x1 : List AOper := [
  Fa 7 0 1,
  Ld 8 7,
  Op 9 (.bsl 1 [.int .i64 0] 4 [0, 1, 2, 3] [(.c (.int .i64 1)), (.c (.int .i64 2)), (.c (.int .i64 3)), (.c (.int .i64 4))]),
  Ct 10 107 [8, 9],
  Un 11 .not 10,
  Mv 6 11]
def f105x2 : List AOper := [
  Mc 2 (.int .i64 15)]
def f105x3 : List AOper := [
  Fa 13 1 1,
  Ld 14 13,
  Ln 15 0 14,
  Bc 16 .eql 15 0,
  Mv 12 16]
def f105x4 : List AOper := [
  Mc 2 (.int .i64 1)]
def f105x5 : List AOper := [
  Fa 18 1 1,
  Ld 19 18,
  Ln 20 0 19,
  Bc 21 .gtr 20 255,
  Mv 17 21]
def f105x6 : List AOper := [
  Mc 2 (.int .i64 4)]
def f105x7 : List AOper := [
  Fa 22 1 1,
  Ld 23 22,
  Ln 24 0 23,
  Mc 25 (.int .i64 0)]
def f105x8 : List AOper := [
  Bi 26 .lss 25 24]
def f105x9 : List AOper := [
  Ia 27 1 23 25,
  Ld 28 27,
  Mv 4 28]
def f105x10 : List AOper := [
  Mv 29 4,
  Bc 30 .lss 29 1,
  Mv 31 30,
  Gf 31 (Mv 32 4),
  Gf 31 (Bc 33 .gtr 32 4294967295),
  Po 34 31 33]
def f105x11 : List AOper := [
  Mc 2 (.int .i64 5)]
def f105x12 : List AOper := [
  Bc 35 .add 25 1,
  Mv 25 35]
def f105x13L : ACode := (.seq (.region f105x8 false) (.seq (.cond (.t 26) .skip (.exit 1)) (.seq (.block 2 (.seq (.region f105x9 false) (.seq (.region f105x10 false) (.cond (.t 34) (.seq (.region f105x11 false) .ret) .skip)))) (.region f105x12 false))))
def f105x14 : List AOper := [
  Fa 36 1 1,
  Ld 37 36,
  Ln 38 0 37,
  Mc 39 (.int .i64 0)]
def f105x15 : List AOper := [
  Bi 40 .lss 39 38]
def f105x16 : List AOper := [
  Mv 41 39,
  Mv 5 41]
def f105x17 : List AOper := [
  Mv 42 5,
  Bc 43 .gtr 42 0,
  Mv 44 43,
  Gt 44 (Fa 45 0 1),
  Gt 44 (Ld 46 45),
  Gt 44 (Op 47 (.bsl 1 [.int .i64 0] 2 [0, 1] [(.c (.int .i64 1)), (.c (.int .i64 4))])),
  Af [4, 5] (Gt 44 (Ct 48 107 [46, 47])),
  Pa 49 44 48,
  Mv 50 49,
  Gt 50 (Fa 51 1 1),
  Af [6, 4, 5] (Gt 50 (Ld 52 51)),
  Gt 50 (Mv 53 5),
  Af [10, 6, 4, 5] (Gt 50 (Ia 54 1 52 53)),
  Af [12, 10, 6, 4, 5] (Gt 50 (Ld 55 54)),
  Gt 50 (Fa 56 1 1),
  Af [6, 4, 5] (Gt 50 (Ld 57 56)),
  Gt 50 (Mv 58 5),
  Gt 50 (Bc 59 .sub 58 1),
  Af [15, 6, 4, 5] (Gt 50 (Ia 60 1 57 59)),
  Af [18, 15, 6, 4, 5] (Gt 50 (Ld 61 60)),
  Gt 50 (Bi 62 .leq 55 61),
  Pa 63 50 62]
def f105x18 : List AOper := [
  Mc 2 (.int .i64 16)]
def f105x19 : List AOper := [
  Bc 64 .add 39 1,
  Mv 39 64]
def f105x20L : ACode := (.seq (.region f105x15 false) (.seq (.cond (.t 40) .skip (.exit 3)) (.seq (.block 4 (.seq (.region f105x16 false) (.seq (.region f105x17 true) (.cond (.t 63) (.seq (.region f105x18 false) .ret) .skip)))) (.region f105x19 false))))
def f105x21 : List AOper := [
  Mc 2 (.int .i64 0)]
def f105 : AFunc := ⟨65, 1, false, [.t 2], (.seq (.region f105x0 false) (.seq (.block 0 (.seq (.region f105x1 false) (.cond (.t 6) (.seq (.region f105x2 false) .ret) (.seq (.region f105x3 false) (.cond (.t 12) (.seq (.region f105x4 false) .ret) (.seq (.region f105x5 false) (.cond (.t 17) (.seq (.region f105x6 false) .ret) .skip))))))) (.seq (.seq (.region f105x7 false) (.block 1 (.loop f105x13L))) (.seq (.seq (.region f105x14 false) (.block 3 (.loop f105x20L))) (.seq (.region f105x21 false) .ret)))))⟩
def f106x0 : List AOper := [
  Mc 2 (.bool false)]
def f106x1 : List AOper := [
  Mv 3 0,
  Op 4 (.bsl 1 [.int .i64 0] 2 [0, 1] [(.c (.int .i64 3)), (.c (.int .i64 4))]),
  Ct 5 107 [3, 4],
  Mv 2 5]
def f106 : AFunc := ⟨6, 1, false, [.t 2], (.seq (.region f106x0 false) (.seq (.region f106x1 false) .ret))⟩
def f107x0 : List AOper := [
  Mc 4 (.bool false)]
def f107x1 : List AOper := [
  Mv 7 1,
  Ln 8 0 7,
  Mc 9 (.int .i64 0)]
def f107x2 : List AOper := [
  Bi 10 .lss 9 8]
def f107x3 : List AOper := [
  Ia 11 1 7 9,
  Ld 12 11,
  Mv 6 12]
def f107x4 : List AOper := [
  Mv 13 6,
  Mv 14 0,
  Bi 15 .eql 13 14]
def f107x5 : List AOper := [
  Mc 4 (.bool true)]
def f107x6 : List AOper := [
  Bc 16 .add 9 1,
  Mv 9 16]
def f107x7L : ACode := (.seq (.region f107x2 false) (.seq (.cond (.t 10) .skip (.exit 0)) (.seq (.block 1 (.seq (.region f107x3 false) (.seq (.region f107x4 false) (.cond (.t 15) (.seq (.region f107x5 false) .ret) .skip)))) (.region f107x6 false))))
def f107x8 : List AOper := [
  Mc 4 (.bool false)]
def f107 : AFunc := ⟨17, 2, false, [.t 4], (.seq (.region f107x0 false) (.seq (.seq (.region f107x1 false) (.block 0 (.loop f107x7L))) (.seq (.region f107x8 false) .ret)))⟩
def f182x0 : List AOper := [
  Mc 4 (.int .u32 0)]
def f182x1 : List AOper := [
  Mc 5 (.int .u32 0)]
def f182x2 : List AOper := [
  Mv 7 1,
  Ca 8 184 [(.t 7), (.c (.int .i64 32))],
  Mc 9 (.int .i64 0)]
def f182x3 : List AOper := [
  Bi 10 .lss 9 8]
def f182x4 : List AOper := [
  Mv 11 9,
  Mv 6 11]
def f182x5 : List AOper := [
  Mv 12 5,
  Mv 13 0,
  Mv 14 6,
  Ct 15 185 [13, 14],
  Cv 16 .u32 15,
  Mv 17 6,
  Op 18 (.bin .sub (.c (.int .i64 31)) (.t 17)),
  Cv 19 .u64 18,
  Bi 20 .shl 16 19,
  Bi 21 .or 12 20,
  Mv 5 21]
def f182x6 : List AOper := [
  Bc 22 .add 9 1,
  Mv 9 22]
def f182x7L : ACode := (.seq (.region f182x3 false) (.seq (.cond (.t 10) .skip (.exit 0)) (.seq (.block 1 (.seq (.region f182x4 false) (.region f182x5 false))) (.region f182x6 false))))
def f182x8 : List AOper := [
  Mv 23 5,
  Mv 4 23]
def f182 : AFunc := ⟨24, 2, false, [.t 4], (.seq (.region f182x0 false) (.seq (.region f182x1 false) (.seq (.seq (.region f182x2 false) (.block 0 (.loop f182x7L))) (.seq (.region f182x8 false) .ret))))⟩
def f108x0 : List AOper := [
  Mc 4 (.int .i64 0)]
def f108x1 : List AOper := [
  Mv 11 0,
  Mv 12 1,
  Ia 13 2 11 12,
  Ls 14 2 13,
  Op 5 (.alloc (.agg [.int .i64 0, .con (.slice none 0 0)])),
  St 2 5 14]
def f108x2 : List AOper := [
  Fa 15 0 5,
  Ld 16 15,
  Bc 17 .lss 16 1,
  Mv 18 17,
  Gf 18 (Fa 19 0 5),
  Gf 18 (Ld 20 19),
  Gf 18 (Bc 21 .gtr 20 4),
  Po 22 18 21]
def f108x3 : List AOper := [
  Mc 4 (.int .i64 15)]
def f108x4 : List AOper := [
  Fa 23 1 5,
  Ld 24 23,
  Ln 25 0 24,
  Bc 26 .eql 25 0]
def f108x5 : List AOper := [
  Mc 4 (.int .i64 1)]
def f108x6 : List AOper := [
  Fa 27 1 5,
  Ld 28 27,
  Ln 29 0 28,
  Bc 30 .gtr 29 255]
def f108x7 : List AOper := [
  Mc 4 (.int .i64 4)]
def f108x8 : List AOper := [
  Fa 31 1 5,
  Ld 32 31,
  Ln 33 0 32,
  Mc 34 (.int .i64 0)]
def f108x9 : List AOper := [
  Bi 35 .lss 34 33]
def f108x10 : List AOper := [
  Ia 36 1 32 34,
  Ld 37 36,
  Mv 7 37]
def f108x11 : List AOper := [
  Mv 38 7,
  Bc 39 .lss 38 1,
  Mv 40 39,
  Gf 40 (Mv 41 7),
  Gf 40 (Bc 42 .gtr 41 4294967295),
  Po 43 40 42]
def f108x12 : List AOper := [
  Mc 4 (.int .i64 5)]
def f108x13 : List AOper := [
  Bc 44 .add 34 1,
  Mv 34 44]
def f108x14L : ACode := (.seq (.region f108x9 false) (.seq (.cond (.t 35) .skip (.exit 0)) (.seq (.block 1 (.seq (.region f108x10 false) (.seq (.region f108x11 false) (.cond (.t 43) (.seq (.region f108x12 false) .ret) .skip)))) (.region f108x13 false))))
def f108x15 : List AOper := [
  Mc 8 (.int .i64 1)]
def f108x16 : List AOper := [
  Mv 45 8,
  Fa 46 1 5,
  Ld 47 46,
  Ln 48 0 47,
  Bi 49 .lss 45 48]
def f108x17 : List AOper := [
  Fa 52 0 5,
  Ld 53 52,
  Af [1] (Ct 54 117 [53]),
  Mv 55 54,
  Gt 55 (Fa 56 1 5),
  Af [2, 1] (Gt 55 (Ld 57 56)),
  Gt 55 (Mv 58 8),
  Af [5, 2, 1] (Gt 55 (Ia 59 1 57 58)),
  Af [7, 5, 2, 1] (Gt 55 (Ld 60 59)),
  Gt 55 (Fa 61 1 5),
  Af [2, 1] (Gt 55 (Ld 62 61)),
  Gt 55 (Mv 63 8),
  Gt 55 (Bc 64 .sub 63 1),
  Af [10, 2, 1] (Gt 55 (Ia 65 1 62 64)),
  Af [13, 10, 2, 1] (Gt 55 (Ld 66 65)),
  Gt 55 (Bi 67 .leq 60 66),
  Pa 68 55 67]
def f108x18 : List AOper := [
  Mc 4 (.int .i64 16)]
def f108x19 : List AOper := [
  Mv 50 8,
  Bc 51 .add 50 1,
  Mv 8 51]
def f108x20L : ACode := (.seq (.seq (.region f108x16 false) (.cond (.t 49) .skip (.exit 2))) (.seq (.block 3 (.seq (.region f108x17 true) (.cond (.t 68) (.seq (.region f108x18 false) .ret) .skip))) (.region f108x19 false)))
def f108x21 : List AOper := [
  Fa 69 0 5,
  Ld 70 69,
  Ct 71 118 [70]]
def f108x22 : List AOper := [
  Mv 72 0,
  Mv 73 1,
  Op 74 (.slc 2 (.t 72) none (some (.t 73)) none),
  Ln 75 0 74,
  Mc 76 (.int .i64 0)]
def f108x23 : List AOper := [
  Bi 77 .lss 76 75]
def f108x24 : List AOper := [
  Ia 78 2 74 76,
  Ls 79 2 78,
  Op 10 (.alloc (.agg [.int .i64 0, .con (.slice none 0 0)])),
  St 2 10 79]
def f108x25 : List AOper := [
  Fa 80 0 10,
  Ld 81 80,
  Ct 82 118 [81],
  Un 83 .not 82]
def f108x26 : List AOper := [
  Mc 4 (.int .i64 1)]
def f108x27 : List AOper := [
  Bc 84 .add 76 1,
  Mv 76 84]
def f108x28L : ACode := (.seq (.region f108x23 false) (.seq (.cond (.t 77) .skip (.exit 4)) (.seq (.block 5 (.seq (.region f108x24 false) (.seq (.region f108x25 false) (.cond (.t 83) (.seq (.region f108x26 false) .ret) .skip)))) (.region f108x27 false))))
def f108x29 : List AOper := [
  Mv 85 1,
  Bc 86 .gtr 85 0,
  Mv 87 86,
  Gt 87 (Fa 88 0 5),
  Gt 87 (Ld 89 88),
  Af [4] (Gt 87 (Ct 90 117 [89])),
  Gt 87 (Un 91 .not 90),
  Pa 92 87 91,
  Mv 93 92,
  Gt 93 (Mv 94 0),
  Gt 93 (Mv 95 1),
  Gt 93 (Bc 96 .sub 95 1),
  Af [5, 4] (Gt 93 (Ia 97 2 94 96)),
  Gt 93 (Fa 98 0 97),
  Af [12, 5, 4] (Gt 93 (Ld 99 98)),
  Gt 93 (Fa 100 0 5),
  Af [5, 4] (Gt 93 (Ld 101 100)),
  Gt 93 (Bi 102 .eql 99 101),
  Pa 103 93 102,
  Mv 104 103,
  Gt 104 (Mv 105 0),
  Gt 104 (Mv 106 1),
  Gt 104 (Bc 107 .sub 106 1),
  Af [14, 16, 12, 5, 4] (Gt 104 (Ia 108 2 105 107)),
  Gt 104 (Fa 109 1 108),
  Af [23, 14, 16, 12, 5, 4] (Gt 104 (Ld 110 109)),
  Af [25, 23, 14, 16, 12, 5, 4] (Gt 104 (Ln 111 0 110)),
  Gt 104 (Bc 112 .lss 111 255),
  Pa 113 104 112]
def f108x30 : List AOper := [
  Mc 4 (.int .i64 1)]
def f108x31 : List AOper := [
  Mc 4 (.int .i64 0)]
def f108 : AFunc := ⟨114, 2, false, [.t 4], (.seq (.region f108x0 false) (.seq (.region f108x1 false) (.seq (.seq (.region f108x2 false) (.cond (.t 22) (.seq (.region f108x3 false) .ret) .skip)) (.seq (.seq (.region f108x4 false) (.cond (.t 26) (.seq (.region f108x5 false) .ret) .skip)) (.seq (.seq (.region f108x6 false) (.cond (.t 30) (.seq (.region f108x7 false) .ret) .skip)) (.seq (.seq (.region f108x8 false) (.block 0 (.loop f108x14L))) (.seq (.seq (.region f108x15 false) (.block 2 (.loop f108x20L))) (.seq (.seq (.region f108x21 false) (.cond (.t 71) (.seq (.region f108x22 false) (.block 4 (.loop f108x28L))) .skip)) (.seq (.seq (.region f108x29 true) (.cond (.t 113) (.seq (.region f108x30 false) .ret) .skip)) (.seq (.region f108x31 false) .ret))))))))))⟩
def f183x0 : List AOper := [
  Mc 2 (.int .u32 0)]
def f183x1 : List AOper := [
  Mv 3 0,
  Ca 4 186 [(.t 3), (.c (.int .i64 32))],
  Op 5 (.bin .sub (.c (.int .i64 32)) (.t 4)),
  Op 6 (.bin .shl (.c (.int .u32 4294967295)) (.t 5)),
  Mv 2 6]
def f183 : AFunc := ⟨7, 1, false, [.t 2], (.seq (.region f183x0 false) (.seq (.region f183x1 false) .ret))⟩
def f184x0 : List AOper := [
  Mc 4 (.int .i64 0)]
def f184x1 : List AOper := [
  Mv 5 0,
  Op 6 (.minmax true [(.t 5), (.c (.int .i64 0))]),
  Mv 7 1,
  Op 8 (.minmax false [(.t 6), (.t 7)]),
  Mv 4 8]
def f184 : AFunc := ⟨9, 2, false, [.t 4], (.seq (.region f184x0 false) (.seq (.region f184x1 false) .ret))⟩
def f185x0 : List AOper := [
  Mc 4 (.int .i64 0)]
def f185x1 : List AOper := [
  Mv 5 1,
  Bc 6 .lss 5 0,
  Mv 7 6,
  Gf 7 (Mv 8 1),
  Gf 7 (Bc 9 .gtr 8 31),
  Po 10 7 9]
def f185x2 : List AOper := [
  Mc 4 (.int .i64 0)]
def f185x3 : List AOper := [
  Mv 11 0,
  Mv 12 1,
  Op 13 (.bin .sub (.c (.int .i64 31)) (.t 12)),
  Cv 14 .u64 13,
  Bi 15 .shr 11 14,
  Op 16 (.bin .and (.t 15) (.c (.int .u32 1))),
  Cv 17 .i64 16,
  Mv 4 17]
def f185 : AFunc := ⟨18, 2, false, [.t 4], (.seq (.region f185x0 false) (.seq (.seq (.region f185x1 false) (.cond (.t 10) (.seq (.region f185x2 false) .ret) .skip)) (.seq (.region f185x3 false) .ret)))⟩
def f117x0 : List AOper := [
  Mc 2 (.bool false)]
def f117x1 : List AOper := [
  Mv 3 0,
  Bc 4 .eql 3 1,
  Mv 5 4,
  Gf 5 (Mv 6 0),
  Gf 5 (Bc 7 .eql 6 4),
  Po 8 5 7,
  Mv 2 8]
def f117 : AFunc := ⟨9, 1, false, [.t 2], (.seq (.region f117x0 false) (.seq (.region f117x1 false) .ret))⟩
def f118x0 : List AOper := [
  Mc 2 (.bool false)]
def f118x1 : List AOper := [
  Mv 3 0,
  Bc 4 .eql 3 3,
  Mv 5 4,
  Gf 5 (Mv 6 0),
  Gf 5 (Bc 7 .eql 6 4),
  Po 8 5 7,
  Mv 2 8]
def f118 : AFunc := ⟨9, 1, false, [.t 2], (.seq (.region f118x0 false) (.seq (.region f118x1 false) .ret))⟩
def f186x0 : List AOper := [
  Mc 4 (.int .i64 0)]
def f186x1 : List AOper := [
  Mv 5 0,
  Op 6 (.minmax true [(.t 5), (.c (.int .i64 0))]),
  Mv 7 1,
  Op 8 (.minmax false [(.t 6), (.t 7)]),
  Mv 4 8]
def f186 : AFunc := ⟨9, 2, false, [.t 4], (.seq (.region f186x0 false) (.seq (.region f186x1 false) .ret))⟩
end Go.AM.IR
namespace Go.AM.IR
def G (f : Nat) : Fun := bif Nat.blt f 136 then (bif Nat.blt f 106 then (bif Nat.blt f 77 then (bif Nat.blt f 70 then (bif Nat.blt f 57 then (bif Nat.blt f 26 then (bif Nat.beq f 21 then .code f21 else .none) else (bif Nat.blt f 54 then (bif Nat.beq f 26 then .code f26 else .none) else (bif Nat.beq f 54 then .code f54 else .none))) else (bif Nat.blt f 65 then (bif Nat.beq f 57 then .code f57 else .none) else (bif Nat.blt f 66 then (bif Nat.beq f 65 then .code f65 else .none) else (bif Nat.beq f 66 then .code f66 else .none)))) else (bif Nat.blt f 74 then (bif Nat.blt f 72 then (bif Nat.beq f 70 then .code f70 else .none) else (bif Nat.blt f 73 then (bif Nat.beq f 72 then .code f72 else .none) else (bif Nat.beq f 73 then .code f73 else .none))) else (bif Nat.blt f 75 then (bif Nat.beq f 74 then .code f74 else .none) else (bif Nat.blt f 76 then (bif Nat.beq f 75 then .code f75 else .none) else (bif Nat.beq f 76 then .code f76 else .none))))) else (bif Nat.blt f 91 then (bif Nat.blt f 80 then (bif Nat.blt f 78 then (bif Nat.beq f 77 then .code f77 else .none) else (bif Nat.blt f 79 then (bif Nat.beq f 78 then .code f78 else .none) else (bif Nat.beq f 79 then .code f79 else .none))) else (bif Nat.blt f 81 then (bif Nat.beq f 80 then .code f80 else .none) else (bif Nat.blt f 82 then (bif Nat.beq f 81 then .code f81 else .none) else (bif Nat.beq f 82 then .code f82 else .none)))) else (bif Nat.blt f 99 then (bif Nat.blt f 97 then (bif Nat.beq f 91 then .code f91 else .none) else (bif Nat.blt f 98 then (bif Nat.beq f 97 then .code f97 else .none) else (bif Nat.beq f 98 then .code f98 else .none))) else (bif Nat.blt f 104 then (bif Nat.blt f 103 then (bif Nat.beq f 99 then .code f99 else .none) else (bif Nat.beq f 103 then .code f103 else .none)) else (bif Nat.blt f 105 then (bif Nat.beq f 104 then .code f104 else .none) else (bif Nat.beq f 105 then .code f105 else .none)))))) else (bif Nat.blt f 123 then (bif Nat.blt f 117 then (bif Nat.blt f 109 then (bif Nat.blt f 107 then (bif Nat.beq f 106 then .code f106 else .none) else (bif Nat.blt f 108 then (bif Nat.beq f 107 then .code f107 else .none) else (bif Nat.beq f 108 then .code f108 else .none))) else (bif Nat.blt f 110 then (bif Nat.beq f 109 then .code f109 else .none) else (bif Nat.blt f 113 then (bif Nat.beq f 110 then .code f110 else .none) else (bif Nat.beq f 113 then .code f113 else .none)))) else (bif Nat.blt f 120 then (bif Nat.blt f 118 then (bif Nat.beq f 117 then .code f117 else .none) else (bif Nat.blt f 119 then (bif Nat.beq f 118 then .code f118 else .none) else (bif Nat.beq f 119 then .code f119 else .none))) else (bif Nat.blt f 121 then (bif Nat.beq f 120 then .code f120 else .none) else (bif Nat.blt f 122 then (bif Nat.beq f 121 then .code f121 else .none) else (bif Nat.beq f 122 then .code f122 else .none))))) else (bif Nat.blt f 129 then (bif Nat.blt f 126 then (bif Nat.blt f 124 then (bif Nat.beq f 123 then .code f123 else .none) else (bif Nat.blt f 125 then (bif Nat.beq f 124 then .code f124 else .none) else (bif Nat.beq f 125 then .code f125 else .none))) else (bif Nat.blt f 127 then (bif Nat.beq f 126 then .code f126 else .none) else (bif Nat.blt f 128 then (bif Nat.beq f 127 then .code f127 else .none) else (bif Nat.beq f 128 then .code f128 else .none)))) else (bif Nat.blt f 132 then (bif Nat.blt f 130 then (bif Nat.beq f 129 then .code f129 else .none) else (bif Nat.blt f 131 then (bif Nat.beq f 130 then .code f130 else .none) else (bif Nat.beq f 131 then .code f131 else .none))) else (bif Nat.blt f 134 then (bif Nat.blt f 133 then (bif Nat.beq f 132 then .code f132 else .none) else (bif Nat.beq f 133 then .code f133 else .none)) else (bif Nat.blt f 135 then (bif Nat.beq f 134 then .code f134 else .none) else (bif Nat.beq f 135 then .code f135 else .none))))))) else (bif Nat.blt f 161 then (bif Nat.blt f 148 then (bif Nat.blt f 142 then (bif Nat.blt f 139 then (bif Nat.blt f 137 then (bif Nat.beq f 136 then .code f136 else .none) else (bif Nat.blt f 138 then (bif Nat.beq f 137 then .code f137 else .none) else (bif Nat.beq f 138 then .code f138 else .none))) else (bif Nat.blt f 140 then (bif Nat.beq f 139 then .code f139 else .none) else (bif Nat.blt f 141 then (bif Nat.beq f 140 then .code f140 else .none) else (bif Nat.beq f 141 then .code f141 else .none)))) else (bif Nat.blt f 145 then (bif Nat.blt f 143 then (bif Nat.beq f 142 then .code f142 else .none) else (bif Nat.blt f 144 then (bif Nat.beq f 143 then .code f143 else .none) else (bif Nat.beq f 144 then .code f144 else .none))) else (bif Nat.blt f 146 then (bif Nat.beq f 145 then .code f145 else .none) else (bif Nat.blt f 147 then (bif Nat.beq f 146 then .code f146 else .none) else (bif Nat.beq f 147 then .code f147 else .none))))) else (bif Nat.blt f 154 then (bif Nat.blt f 151 then (bif Nat.blt f 149 then (bif Nat.beq f 148 then .code f148 else .none) else (bif Nat.blt f 150 then (bif Nat.beq f 149 then .code f149 else .none) else (bif Nat.beq f 150 then .code f150 else .none))) else (bif Nat.blt f 152 then (bif Nat.beq f 151 then .code f151 else .none) else (bif Nat.blt f 153 then (bif Nat.beq f 152 then .code f152 else .none) else (bif Nat.beq f 153 then .code f153 else .none)))) else (bif Nat.blt f 157 then (bif Nat.blt f 155 then (bif Nat.beq f 154 then .code f154 else .none) else (bif Nat.blt f 156 then (bif Nat.beq f 155 then .code f155 else .none) else (bif Nat.beq f 156 then .code f156 else .none))) else (bif Nat.blt f 159 then (bif Nat.blt f 158 then (bif Nat.beq f 157 then .code f157 else .none) else (bif Nat.beq f 158 then .code f158 else .none)) else (bif Nat.blt f 160 then (bif Nat.beq f 159 then .code f159 else .none) else (bif Nat.beq f 160 then .code f160 else .none)))))) else (bif Nat.blt f 174 then (bif Nat.blt f 167 then (bif Nat.blt f 164 then (bif Nat.blt f 162 then (bif Nat.beq f 161 then .code f161 else .none) else (bif Nat.blt f 163 then (bif Nat.beq f 162 then .code f162 else .none) else (bif Nat.beq f 163 then .code f163 else .none))) else (bif Nat.blt f 165 then (bif Nat.beq f 164 then .code f164 else .none) else (bif Nat.blt f 166 then (bif Nat.beq f 165 then .code f165 else .none) else (bif Nat.beq f 166 then .code f166 else .none)))) else (bif Nat.blt f 170 then (bif Nat.blt f 168 then (bif Nat.beq f 167 then .code f167 else .none) else (bif Nat.blt f 169 then (bif Nat.beq f 168 then .code f168 else .none) else (bif Nat.beq f 169 then .code f169 else .none))) else (bif Nat.blt f 172 then (bif Nat.blt f 171 then (bif Nat.beq f 170 then .code f170 else .none) else (bif Nat.beq f 171 then .code f171 else .none)) else (bif Nat.blt f 173 then (bif Nat.beq f 172 then .code f172 else .none) else (bif Nat.beq f 173 then .code f173 else .none))))) else (bif Nat.blt f 180 then (bif Nat.blt f 177 then (bif Nat.blt f 175 then (bif Nat.beq f 174 then .code f174 else .none) else (bif Nat.blt f 176 then (bif Nat.beq f 175 then .code f175 else .none) else (bif Nat.beq f 176 then .code f176 else .none))) else (bif Nat.blt f 178 then (bif Nat.beq f 177 then .code f177 else .none) else (bif Nat.blt f 179 then (bif Nat.beq f 178 then .code f178 else .none) else (bif Nat.beq f 179 then .code f179 else .none)))) else (bif Nat.blt f 183 then (bif Nat.blt f 181 then (bif Nat.beq f 180 then .code f180 else .none) else (bif Nat.blt f 182 then (bif Nat.beq f 181 then .code f181 else .none) else (bif Nat.beq f 182 then .code f182 else .none))) else (bif Nat.blt f 185 then (bif Nat.blt f 184 then (bif Nat.beq f 183 then .code f183 else .none) else (bif Nat.beq f 184 then .code f184 else .none)) else (bif Nat.blt f 186 then (bif Nat.beq f 185 then .code f185 else .none) else (bif Nat.beq f 186 then .code f186 else .none)))))))
end Go.AM.IR
namespace Go.AM.IR
def encI (x : Int) : List AV := [.int .i64 x]
def encU (x : Int) : List AV := [.int .u32 x]
structure Seg where
  kind : Int
  as : List Int
def Seg.enc (s : Seg) : List AV := [.int .i64 s.kind, .sl 1 (s.as.map encI)]
structure TLV where
  kind : Int
  value : List UInt8
def TLV.enc (s : TLV) : List AV := [.int .i64 s.kind, .sl 1 (byteCells s.value)]
structure Attrs where
  origin : Int
  path : List Seg
  nextHop : Int
  hasMED : Bool
  med : Int
  hasPref : Bool
  pref : Int
  atomic : Bool
  hasAggr : Bool
  aggrAS : Int
  aggrAddr : Int
  comms : List Int
  hasOrig : Bool
  orig : Int
  clusters : List Int
  unknown : List TLV
def Attrs.enc (a : Attrs) : List AV := [.int .i64 a.origin, .sl 2 (a.path.map Seg.enc), .int .u32 a.nextHop, .bool a.hasMED, .int .i64 a.med, .bool a.hasPref, .int .i64 a.pref, .bool a.atomic, .bool a.hasAggr, .int .i64 a.aggrAS, .int .u32 a.aggrAddr,
  .sl 1 (a.comms.map encU), .bool a.hasOrig, .int .u32 a.orig, .sl 1 (a.clusters.map encU), .sl 2 (a.unknown.map TLV.enc)]
structure PVRoute where
  paddr : Int
  plen : Int
  attrs : Attrs
  peer : Int
  kind : Int
  router : Int
  stale : Bool
def PVRoute.enc (r : PVRoute) : List AV := [.int .u32 r.paddr, .int .i64 r.plen,
  .int .i64 r.attrs.origin, .sl 2 (r.attrs.path.map Seg.enc), .int .u32 r.attrs.nextHop, .bool r.attrs.hasMED, .int .i64 r.attrs.med, .bool r.attrs.hasPref, .int .i64 r.attrs.pref, .bool r.attrs.atomic, .bool r.attrs.hasAggr, .int .i64 r.attrs.aggrAS, .int .u32 r.attrs.aggrAddr,
  .sl 1 (r.attrs.comms.map encU), .bool r.attrs.hasOrig, .int .u32 r.attrs.orig, .sl 1 (r.attrs.clusters.map encU), .sl 2 (r.attrs.unknown.map TLV.enc),
  .int .i64 r.peer, .int .i64 r.kind, .int .u32 r.router, .bool r.stale]
structure IGP where
  addr : Int
  cost : Int
def IGP.enc (c : IGP) : List AV := [.int .u32 c.addr, .int .i64 c.cost]
theorem pureLL_map {α : Type} {f : α → List AV} (h : ∀ x, pureL (f x) = true) : ∀ l : List α, pureLL (l.map f) = true
  | [] => rfl
  | x :: r => by simp only [List.map_cons, pureLL, h x, pureLL_map h r, Bool.and_self]
theorem pureLL_bytes : ∀ l : List UInt8, pureLL (byteCells l) = true := fun l => pureLL_map (f := fun b : UInt8 => [AV.int .u8 (b.toNat : Int)]) (fun _ => rfl) l
@[simp] theorem pure_encI (l : List Int) : pureLL (l.map encI) = true := pureLL_map (fun _ => rfl) l
@[simp] theorem pure_encU (l : List Int) : pureLL (l.map encU) = true := pureLL_map (fun _ => rfl) l
theorem Seg.pure (s : Seg) : pureL s.enc = true := by simp [Seg.enc, pureL, AV.pure]
@[simp] theorem pure_segs (l : List Seg) : pureLL (l.map Seg.enc) = true := pureLL_map Seg.pure l
theorem TLV.pure (s : TLV) : pureL s.enc = true := by simp [TLV.enc, pureL, AV.pure, pureLL_bytes]
@[simp] theorem pure_tlvs (l : List TLV) : pureLL (l.map TLV.enc) = true := pureLL_map TLV.pure l
@[simp] theorem Attrs.pure (s : Attrs) : pureL s.enc = true := by simp [Attrs.enc, pureL, AV.pure]
@[simp] theorem PVRoute.pure (s : PVRoute) : pureL s.enc = true := by simp [PVRoute.enc, pureL, AV.pure]
@[simp] theorem pure_routes (l : List PVRoute) : pureLL (l.map PVRoute.enc) = true := pureLL_map PVRoute.pure l
@[simp] theorem pure_igps (l : List IGP) : pureLL (l.map IGP.enc) = true := pureLL_map (fun _ => rfl) l
end Go.AM.IR
namespace Go.AM.IR
theorem lift_enc {α : Type} {e : List AV → Prop} {enc : α → List AV} {Q : α → Prop} (h : ∀ x, e x → ∃ a, x = enc a ∧ Q a) : ∀ es : List (List AV), (∀ x ∈ es, e x) → ∃ l : List α, es = l.map enc ∧ ∀ a ∈ l, Q a
  | [], _ => ⟨[], rfl, by simp⟩
  | x :: r, hx => by
    obtain ⟨a, rfl, ha⟩ := h x (hx x (by simp))
    obtain ⟨l, rfl, hl⟩ := lift_enc h r fun y hy => hx y (by simp [hy])
    exact ⟨a :: l, rfl, by simpa using ⟨ha, hl⟩⟩
def okI (x : Int) : Prop := -9223372036854775808 ≤ x ∧ x ≤ 9223372036854775807
def okU (x : Int) : Prop := 0 ≤ x ∧ x ≤ 4294967295
theorem T_i64 {as : List AV} (h : Ty.T (.int .i64) as) : ∃ x, as = encI x ∧ okI x := by
  obtain ⟨n, rfl, h1, h2⟩ := h
  exact ⟨n, rfl, by simpa [IntKind.min, IntKind.max, IntKind.signed, IntKind.bits, okI] using And.intro h1 h2⟩
theorem T_u32 {as : List AV} (h : Ty.T (.int .u32) as) : ∃ x, as = encU x ∧ okU x := by
  obtain ⟨n, rfl, h1, h2⟩ := h
  exact ⟨n, rfl, by simpa [IntKind.min, IntKind.max, IntKind.signed, IntKind.bits, okU] using And.intro h1 h2⟩
theorem T_u8 {as : List AV} (h : Ty.T (.int .u8) as) : ∃ b : UInt8, as = [.int .u8 b.toNat] ∧ True := by
  obtain ⟨n, rfl, h1, h2⟩ := h
  have h1 : 0 ≤ n := by simpa [IntKind.min, IntKind.signed] using h1
  have h2 : n ≤ 255 := by simpa [IntKind.max, IntKind.signed, IntKind.bits] using h2
  refine ⟨UInt8.ofNat n.toNat, ?_, trivial⟩
  have : ((UInt8.ofNat n.toNat).toNat : Int) = n := by simp; omega
  rw [this]
theorem T_sl {α : Type} {τ : Ty} {enc : α → List AV} {Q : α → Prop} (h : ∀ x, τ.T x → ∃ a, x = enc a ∧ Q a) {as : List AV} (hs : Ty.T (.sl τ) as) : ∃ l : List α, as = [.sl τ.cells (l.map enc)] ∧ ∀ a ∈ l, Q a := by
  obtain ⟨es, rfl, h1, _⟩ := hs
  obtain ⟨l, rfl, h2⟩ := lift_enc h es h1
  exact ⟨l, rfl, h2⟩
theorem T_bytes {as : List AV} (hs : Ty.T (.sl (.int .u8)) as) : ∃ l : List UInt8, as = [.sl 1 (byteCells l)] := by
  obtain ⟨l, rfl, _⟩ := T_sl (fun x => T_u8) hs
  exact ⟨l, rfl⟩
def tSeg : Ty := .st [.int .i64, .sl (.int .i64)]
def tTLV : Ty := .st [.int .i64, .sl (.int .u8)]
def tAttrs : Ty := .st [.int .i64, .sl tSeg, .int .u32, .bool, .int .i64, .bool, .int .i64, .bool, .bool, .int .i64, .int .u32, .sl (.int .u32), .bool, .int .u32, .sl (.int .u32), .sl tTLV]
structure Seg.ok (s : Seg) : Prop where
  kind : okI s.kind
  as : ∀ x ∈ s.as, okI x
theorem T_seg {as : List AV} (h : tSeg.T as) : ∃ s : Seg, as = s.enc ∧ s.ok := by
  simp only [tSeg, Ty.T.eq_5, TT] at h
  obtain ⟨a1, b1, rfl, h1, a2, b2, rfl, h2, rfl⟩ := h
  obtain ⟨x1, rfl, k1⟩ := T_i64 h1
  obtain ⟨x2, rfl, k2⟩ := T_sl (fun x => T_i64) h2
  exact ⟨⟨x1, x2⟩, rfl, k1, k2⟩
structure TLV.ok (s : TLV) : Prop where
  kind : okI s.kind
theorem T_tlv {as : List AV} (h : tTLV.T as) : ∃ s : TLV, as = s.enc ∧ s.ok := by
  simp only [tTLV, Ty.T.eq_5, TT] at h
  obtain ⟨a1, b1, rfl, h1, a2, b2, rfl, h2, rfl⟩ := h
  obtain ⟨x1, rfl, k1⟩ := T_i64 h1
  obtain ⟨x2, rfl⟩ := T_bytes h2
  exact ⟨⟨x1, x2⟩, rfl, ⟨k1⟩⟩
structure IGP.ok (s : IGP) : Prop where
  addr : okU s.addr
  cost : okI s.cost
structure Attrs.ok (a : Attrs) : Prop where
  origin : okI a.origin
  path : ∀ s ∈ a.path, s.ok
  nextHop : okU a.nextHop
  med : okI a.med
  pref : okI a.pref
  aggrAS : okI a.aggrAS
  aggrAddr : okU a.aggrAddr
  comms : ∀ x ∈ a.comms, okU x
  orig : okU a.orig
  clusters : ∀ x ∈ a.clusters, okU x
  unknown : ∀ x ∈ a.unknown, x.ok
theorem T_attrs {as : List AV} (h : tAttrs.T as) : ∃ s : Attrs, as = s.enc ∧ s.ok := by
  simp only [tAttrs, Ty.T.eq_5, TT] at h
  obtain ⟨a1, b1, rfl, h1, a2, b2, rfl, h2, a3, b3, rfl, h3, a4, b4, rfl, h4, a5, b5, rfl, h5, a6, b6, rfl, h6, a7, b7, rfl, h7, a8, b8, rfl, h8, a9, b9, rfl, h9, a10, b10, rfl, h10, a11, b11, rfl, h11, a12, b12, rfl, h12, a13, b13, rfl, h13, a14, b14, rfl, h14, a15, b15, rfl, h15, a16, b16, rfl, h16, rfl⟩ := h
  obtain ⟨x1, rfl, k1⟩ := T_i64 h1
  obtain ⟨x2, rfl, k2⟩ := T_sl (fun x => T_seg) h2
  obtain ⟨x3, rfl, k3⟩ := T_u32 h3
  obtain ⟨x4, rfl⟩ := h4
  obtain ⟨x5, rfl, k5⟩ := T_i64 h5
  obtain ⟨x6, rfl⟩ := h6
  obtain ⟨x7, rfl, k7⟩ := T_i64 h7
  obtain ⟨x8, rfl⟩ := h8
  obtain ⟨x9, rfl⟩ := h9
  obtain ⟨x10, rfl, k10⟩ := T_i64 h10
  obtain ⟨x11, rfl, k11⟩ := T_u32 h11
  obtain ⟨x12, rfl, k12⟩ := T_sl (fun x => T_u32) h12
  obtain ⟨x13, rfl⟩ := h13
  obtain ⟨x14, rfl, k14⟩ := T_u32 h14
  obtain ⟨x15, rfl, k15⟩ := T_sl (fun x => T_u32) h15
  obtain ⟨x16, rfl, k16⟩ := T_sl (fun x => T_tlv) h16
  exact ⟨⟨x1, x2, x3, x4, x5, x6, x7, x8, x9, x10, x11, x12, x13, x14, x15, x16⟩, rfl, k1, k2, k3, k5, k7, k10, k11, k12, k14, k15, k16⟩
structure PVRoute.ok (r : PVRoute) : Prop where
  paddr : okU r.paddr
  plen : okI r.plen
  attrs : r.attrs.ok
  peer : okI r.peer
  kind : okI r.kind
  router : okU r.router
end Go.AM.IR
namespace Go.AM.IR
structure Pfx where
  addr : Int
  len : Int
  deriving DecidableEq
def Pfx.enc (p : Pfx) : List AV := [.int .u32 p.addr, .int .i64 p.len]
structure Cap where
  code : Int
  value : List UInt8
  deriving DecidableEq
def Cap.enc (p : Cap) : List AV := [.int .i64 p.code, .sl 1 (byteCells p.value)]
structure PMsg where
  kind : Int
  version : Int
  as : Int
  hold : Int
  router : Int
  caps : List Cap
  withdrawn : List Pfx
  attrs : Attrs
  reach : List Pfx
  code : Int
  sub : Int
  data : List UInt8
def PMsg.enc (m : PMsg) : List AV := [.int .i64 m.kind, .int .i64 m.version, .int .i64 m.as, .int .i64 m.hold, .int .u32 m.router, .sl 2 (m.caps.map Cap.enc), .sl 2 (m.withdrawn.map Pfx.enc),
  .int .i64 m.attrs.origin, .sl 2 (m.attrs.path.map Seg.enc), .int .u32 m.attrs.nextHop, .bool m.attrs.hasMED, .int .i64 m.attrs.med, .bool m.attrs.hasPref, .int .i64 m.attrs.pref, .bool m.attrs.atomic, .bool m.attrs.hasAggr, .int .i64 m.attrs.aggrAS, .int .u32 m.attrs.aggrAddr,
  .sl 1 (m.attrs.comms.map encU), .bool m.attrs.hasOrig, .int .u32 m.attrs.orig, .sl 1 (m.attrs.clusters.map encU), .sl 2 (m.attrs.unknown.map TLV.enc),
  .sl 2 (m.reach.map Pfx.enc), .int .i64 m.code, .int .i64 m.sub, .sl 1 (byteCells m.data)]
structure Peer where
  kind : Int
  as : Int
  addr : Int
  loc : Int
  client : Bool
  hold : Int
  restart : Int
  imp : List UInt8
  exp : List UInt8
  nextSelf : Bool
  damp : Bool
def Peer.enc (p : Peer) : List AV := [.int .i64 p.kind, .int .i64 p.as, .int .u32 p.addr, .int .u32 p.loc, .bool p.client, .int .i64 p.hold, .int .i64 p.restart, .str p.imp, .str p.exp, .bool p.nextSelf, .bool p.damp]
structure Conf where
  as : Int
  confed : Int
  router : Int
  cluster : Int
  peers : List Peer
  nets : AV
  p1 : AV
  p2 : AV
  p3 : AV
  p4 : AV
  d1 : Int
  d2 : Int
  d3 : Int
  d4 : Int
  multi : Int
def Conf.enc (c : Conf) : List AV := [.int .i64 c.as, .int .i64 c.confed, .int .u32 c.router, .int .u32 c.cluster, .sl 11 (c.peers.map Peer.enc), c.nets, c.p1, c.p2, c.p3, c.p4, .int .i64 c.d1, .int .i64 c.d2, .int .i64 c.d3, .int .i64 c.d4, .int .i64 c.multi]
structure Ses where
  state : Int
  retry : Int
  hold : Int
  keep : Int
  holdTime : Int
  router : Int
  restart : Int
  refresh : Bool
  untl : Int
def Ses.enc (s : Ses) : List AV := [.int .i64 s.state, .int .i64 s.retry, .int .i64 s.hold, .int .i64 s.keep, .int .i64 s.holdTime, .int .u32 s.router, .int .i64 s.restart, .bool s.refresh, .int .i64 s.untl]
structure Act where
  kind : Int
  msg : PMsg
def Act.enc (a : Act) : List AV := .int .i64 a.kind :: a.msg.enc
theorem Pfx.pure (s : Pfx) : pureL s.enc = true := rfl
@[simp] theorem pure_pfxs (l : List Pfx) : pureLL (l.map Pfx.enc) = true := pureLL_map Pfx.pure l
theorem Cap.pure (s : Cap) : pureL s.enc = true := by simp [Cap.enc, pureL, AV.pure, pureLL_bytes]
@[simp] theorem pure_caps (l : List Cap) : pureLL (l.map Cap.enc) = true := pureLL_map Cap.pure l
@[simp] theorem PMsg.pure (s : PMsg) : pureL s.enc = true := by simp [PMsg.enc, pureL, AV.pure, pureLL_bytes]
theorem Peer.pure (s : Peer) : pureL s.enc = true := rfl
@[simp] theorem pure_peers (l : List Peer) : pureLL (l.map Peer.enc) = true := pureLL_map Peer.pure l
@[simp] theorem Ses.pure (s : Ses) : pureL s.enc = true := rfl
@[simp] theorem Act.pure (s : Act) : pureL s.enc = true := by simp [Act.enc, pureL, AV.pure]
@[simp] theorem pure_acts (l : List Act) : pureLL (l.map Act.enc) = true := pureLL_map Act.pure l
structure Conf.ok (c : Conf) : Prop where
  nets : c.nets.pure = true
  p1 : c.p1.pure = true
  p2 : c.p2.pure = true
  p3 : c.p3.pure = true
  p4 : c.p4.pure = true
  as : okI c.as
  confed : okI c.confed
  router : okU c.router
  peers : ∀ p ∈ c.peers, okI p.as ∧ okI p.hold ∧ okI p.restart ∧ okI p.kind
  len : c.peers.length ≤ maxLen
theorem Conf.pure {c : Conf} (h : c.ok) : pureL c.enc = true := by simp [Conf.enc, pureL, AV.pure, h.nets, h.p1, h.p2, h.p3, h.p4]
def tPfx : Ty := .st [.int .u32, .int .i64]
def tCap : Ty := .st [.int .i64, .sl (.int .u8)]
def tMsg : Ty := .st [.int .i64, .int .i64, .int .i64, .int .i64, .int .u32, .sl tCap, .sl tPfx, tAttrs, .sl tPfx, .int .i64, .int .i64, .sl (.int .u8)]
def tPeer : Ty := .st [.int .i64, .int .i64, .int .u32, .int .u32, .bool, .int .i64, .int .i64, .str, .str, .bool, .bool]
def tSes : Ty := .st [.int .i64, .int .i64, .int .i64, .int .i64, .int .i64, .int .u32, .int .i64, .bool, .int .i64]
structure Pfx.ok (p : Pfx) : Prop where
  addr : okU p.addr
  len : okI p.len
theorem T_pfx {as : List AV} (h : tPfx.T as) : ∃ s : Pfx, as = s.enc ∧ s.ok := by
  simp only [tPfx, Ty.T.eq_5, TT] at h
  obtain ⟨a1, b1, rfl, h1, a2, b2, rfl, h2, rfl⟩ := h
  obtain ⟨x1, rfl, k1⟩ := T_u32 h1
  obtain ⟨x2, rfl, k2⟩ := T_i64 h2
  exact ⟨⟨x1, x2⟩, rfl, k1, k2⟩
theorem T_cap {as : List AV} (h : tCap.T as) : ∃ s : Cap, as = s.enc ∧ okI s.code := by
  simp only [tCap, Ty.T.eq_5, TT] at h
  obtain ⟨a1, b1, rfl, h1, a2, b2, rfl, h2, rfl⟩ := h
  obtain ⟨x1, rfl, k1⟩ := T_i64 h1
  obtain ⟨x2, rfl⟩ := T_bytes h2
  exact ⟨⟨x1, x2⟩, rfl, k1⟩
structure PMsg.ok (m : PMsg) : Prop where
  kind : okI m.kind
  version : okI m.version
  as : okI m.as
  hold : okI m.hold
  router : okU m.router
  caps : ∀ c ∈ m.caps, okI c.code
  withdrawn : ∀ p ∈ m.withdrawn, p.ok
  attrs : m.attrs.ok
  reach : ∀ p ∈ m.reach, p.ok
  code : okI m.code
  sub : okI m.sub
theorem T_msg {as : List AV} (h : tMsg.T as) : ∃ s : PMsg, as = s.enc ∧ s.ok := by
  simp only [tMsg, Ty.T.eq_5, TT] at h
  obtain ⟨a1, b1, rfl, h1, a2, b2, rfl, h2, a3, b3, rfl, h3, a4, b4, rfl, h4, a5, b5, rfl, h5, a6, b6, rfl, h6, a7, b7, rfl, h7, a8, b8, rfl, h8, a9, b9, rfl, h9, a10, b10, rfl, h10, a11, b11, rfl, h11, a12, b12, rfl, h12, rfl⟩ := h
  obtain ⟨x1, rfl, k1⟩ := T_i64 h1
  obtain ⟨x2, rfl, k2⟩ := T_i64 h2
  obtain ⟨x3, rfl, k3⟩ := T_i64 h3
  obtain ⟨x4, rfl, k4⟩ := T_i64 h4
  obtain ⟨x5, rfl, k5⟩ := T_u32 h5
  obtain ⟨x6, rfl, k6⟩ := T_sl (fun x => T_cap) h6
  obtain ⟨x7, rfl, k7⟩ := T_sl (fun x => T_pfx) h7
  obtain ⟨x8, rfl, k8⟩ := T_attrs h8
  obtain ⟨x9, rfl, k9⟩ := T_sl (fun x => T_pfx) h9
  obtain ⟨x10, rfl, k10⟩ := T_i64 h10
  obtain ⟨x11, rfl, k11⟩ := T_i64 h11
  obtain ⟨x12, rfl⟩ := T_bytes h12
  exact ⟨⟨x1, x2, x3, x4, x5, x6, x7, x8, x9, x10, x11, x12⟩, rfl, k1, k2, k3, k4, k5, k6, k7, k8, k9, k10, k11⟩
theorem T_str {as : List AV} (h : Ty.T .str as) : ∃ s, as = [.str s] := by
  obtain ⟨s, rfl, _⟩ := h; exact ⟨s, rfl⟩
theorem T_peer {as : List AV} (h : tPeer.T as) : ∃ p : Peer, as = p.enc ∧ (okI p.as ∧ okI p.hold ∧ okI p.restart ∧ okI p.kind) := by
  simp only [tPeer, Ty.T.eq_5, TT] at h
  obtain ⟨a1, b1, rfl, h1, a2, b2, rfl, h2, a3, b3, rfl, h3, a4, b4, rfl, h4, a5, b5, rfl, h5, a6, b6, rfl, h6, a7, b7, rfl, h7, a8, b8, rfl, h8, a9, b9, rfl, h9, a10, b10, rfl, h10, a11, b11, rfl, h11, rfl⟩ := h
  obtain ⟨x1, rfl, k1⟩ := T_i64 h1
  obtain ⟨x2, rfl, k2⟩ := T_i64 h2
  obtain ⟨x3, rfl, _⟩ := T_u32 h3
  obtain ⟨x4, rfl, _⟩ := T_u32 h4
  obtain ⟨x5, rfl⟩ := h5
  obtain ⟨x6, rfl, k6⟩ := T_i64 h6
  obtain ⟨x7, rfl, k7⟩ := T_i64 h7
  obtain ⟨x8, rfl⟩ := T_str h8
  obtain ⟨x9, rfl⟩ := T_str h9
  obtain ⟨x10, rfl⟩ := h10
  obtain ⟨x11, rfl⟩ := h11
  exact ⟨⟨x1, x2, x3, x4, x5, x6, x7, x8, x9, x10, x11⟩, rfl, k2, k6, k7, k1⟩
structure Ses.ok (s : Ses) : Prop where
  state : okI s.state
  retry : okI s.retry
  hold : okI s.hold
  keep : okI s.keep
  holdTime : okI s.holdTime
  router : okU s.router
  restart : okI s.restart
  untl : okI s.untl
theorem T_ses {as : List AV} (h : tSes.T as) : ∃ s : Ses, as = s.enc ∧ s.ok := by
  simp only [tSes, Ty.T.eq_5, TT] at h
  obtain ⟨a1, b1, rfl, h1, a2, b2, rfl, h2, a3, b3, rfl, h3, a4, b4, rfl, h4, a5, b5, rfl, h5, a6, b6, rfl, h6, a7, b7, rfl, h7, a8, b8, rfl, h8, a9, b9, rfl, h9, rfl⟩ := h
  obtain ⟨x1, rfl, k1⟩ := T_i64 h1
  obtain ⟨x2, rfl, k2⟩ := T_i64 h2
  obtain ⟨x3, rfl, k3⟩ := T_i64 h3
  obtain ⟨x4, rfl, k4⟩ := T_i64 h4
  obtain ⟨x5, rfl, k5⟩ := T_i64 h5
  obtain ⟨x6, rfl, k6⟩ := T_u32 h6
  obtain ⟨x7, rfl, k7⟩ := T_i64 h7
  obtain ⟨x8, rfl⟩ := h8
  obtain ⟨x9, rfl, k9⟩ := T_i64 h9
  exact ⟨⟨x1, x2, x3, x4, x5, x6, x7, x8, x9⟩, rfl, k1, k2, k3, k4, k5, k6, k7, k9⟩
theorem T_slB {α : Type} {τ : Ty} {enc : α → List AV} {Q : α → Prop} (h : ∀ x, τ.T x → ∃ a, x = enc a ∧ Q a) {as : List AV} (hs : Ty.T (.sl τ) as) : ∃ l : List α, as = [.sl τ.cells (l.map enc)] ∧ (∀ a ∈ l, Q a) ∧ l.length ≤ maxLen := by
  obtain ⟨es, rfl, h1, h3⟩ := hs
  obtain ⟨l, rfl, h2⟩ := lift_enc h es h1
  exact ⟨l, rfl, h2, by simpa using h3⟩
def tConf (n p1 p2 p3 p4 : Ty) : Ty := .st [.int .i64, .int .i64, .int .u32, .int .u32, .sl tPeer, .sl n, .st [.sl p1, .sl p2, .sl p3, .sl p4], .st [.int .i64, .int .i64, .int .i64, .int .i64], .int .i64]
theorem T_conf {n q1 q2 q3 q4 : Ty} {as : List AV} (h : (tConf n q1 q2 q3 q4).T as) : ∃ c : Conf, as = c.enc ∧ c.ok := by
  simp only [tConf, Ty.T.eq_5, TT] at h
  obtain ⟨a1, b1, rfl, h1, a2, b2, rfl, h2, a3, b3, rfl, h3, a4, b4, rfl, h4, a5, b5, rfl, h5, a6, b6, rfl, h6, a7, b7, rfl, ⟨c1, e1, rfl, g1, c2, e2, rfl, g2, c3, e3, rfl, g3, c4, e4, rfl, g4, rfl⟩, a8, b8, rfl, ⟨d1, f1, rfl, i1, d2, f2, rfl, i2, d3, f3, rfl, i3, d4, f4, rfl, i4, rfl⟩, a9, b9, rfl, h9, rfl⟩ := h
  obtain ⟨x1, rfl, k1⟩ := T_i64 h1
  obtain ⟨x2, rfl, k2⟩ := T_i64 h2
  obtain ⟨x3, rfl, k3⟩ := T_u32 h3
  obtain ⟨x4, rfl, k4⟩ := T_u32 h4
  obtain ⟨x5, rfl, k5, kl⟩ := T_slB (fun x => T_peer) h5
  obtain ⟨x6, rfl, k6⟩ := T_one h6
  obtain ⟨y1, rfl, l1⟩ := T_one g1
  obtain ⟨y2, rfl, l2⟩ := T_one g2
  obtain ⟨y3, rfl, l3⟩ := T_one g3
  obtain ⟨y4, rfl, l4⟩ := T_one g4
  obtain ⟨z1, rfl, _⟩ := T_i64 i1
  obtain ⟨z2, rfl, _⟩ := T_i64 i2
  obtain ⟨z3, rfl, _⟩ := T_i64 i3
  obtain ⟨z4, rfl, _⟩ := T_i64 i4
  obtain ⟨x9, rfl, _⟩ := T_i64 h9
  exact ⟨⟨x1, x2, x3, x4, x5, x6, y1, y2, y3, y4, z1, z2, z3, z4, x9⟩, rfl, k6, l1, l2, l3, l4, k1, k2, k3, k5, kl⟩
end Go.AM.IR
set_option maxHeartbeats 4000000
set_option maxRecDepth 20000
namespace Go.AM.IR
theorem byte_step (acc : List UInt8) (x j : Nat) (i : Int) (hi : i = j) : byteCells acc ++ [[AV.int .u8 (UInt8.ofNat (x / 2 ^ (8 * i).toNat)).toNat]] = byteCells (acc ++ [UInt8.ofNat (x / 256 ^ j)]) := by
  subst hi
  rw [show (8 * (j : Int)).toNat = 8 * j from by omega, pow_256]
  simp [byteCells]
theorem num_loop120 (x : Nat) : ∀ (j : Nat) (acc : List UInt8) (T : List (Nat × AV)) (H : Heap) (c g m : Nat) (key : Nat) (es : List (List AV)) (i : Int) (hk : key = 69) (hi : i = (j : Int) - 1) (hj : j ≤ 8) (hm : m = acc.length) (hes : es = byteCells acc) (ha : acc.length + j < 2 ^ 40),
   Ev G ⟨f120x6LH, ⟨(6, .int .i64 i) :: (1, .int .u64 (x : Int)) :: (5, .vs 69 g m) :: T, (69, some (g, .vec 1 es)) :: H, c⟩, [.t 4], 0⟩ (rB (acc ++ be j x))
  | 0, acc, T, H, c, g, m, key, es, i, hk, hi, hj, hm, hes, ha => by
    refine ev_loop' (W_ok 300 _ _ _ _ ?_)
    repeat' ((conv => whnf); first | refine bslP (by first | rfl | (simp [pureL, pureLL, AV.pure]; done) | fail) rfl ?_ | refine TakeC.full (by first | rfl | omega | (simp; done) | (simp; omega) | fail) ?_ | refine zBs ?_ | refine zBn ?_ | refine zBv rfl rfl ?_ | refine zN ?_ | refine zC ?_ | refine zC4 ?_ | refine zOr16 ?_ | refine zC1 ?_ | refine zByte ?_ | refine zMaxL ?_ | refine zMaxR ?_ | refine zMinL ?_ | refine zMinR ?_ | refine zShr ?_ | refine zC8 ?_ | refine zQ ?_ | refine zR ?_ | refine zS ?_ | refine zA ?_ | refine zM ?_ | refine xr rfl ?_ | refine ai rfl ?_ | refine condT ?_ | refine condF ?_ | refine condG1 ?_ | refine condG0 ?_ | refine cD ?_ | refine dD ?_ | refine cB ?_ | refine dB ?_ | refine cN ?_ | refine dN ?_ | refine cV ?_ | refine dV ?_ | refine cE ?_ | refine dE ?_ | refine condX0 ?_ | refine condX1 ?_ | refine condNot ?_ | refine condAnd ?_ | refine condOr ?_ | refine aO ?_ | refine aB ?_ | refine aR ?_ | refine aR ?_ (by simp; omega) | refine xr (by assumption) ?_ | refine ai (by assumption) ?_ | refine condD (fun h => ?_) (fun h => ?_) | refine condB (fun h => ?_) (fun h => ?_) | refine condN (fun h => ?_) (fun h => ?_) | refine condE (fun h => ?_) (fun h => ?_) | refine condV (fun h => ?_) (fun h => ?_))
    refine ev_retB 69 ⟨_, _, _, rfl, rfl, ?_, ?_⟩
    · simp [hm, be]
    · simp [hes, be]
  | j + 1, acc, T, H, c, g, m, key, es, i, hk, hi, hj, hm, hes, ha => by
    have hel : es.length = acc.length := by simp [hes]
    rw [show acc ++ be (j + 1) x = acc ++ [UInt8.ofNat (x / 256 ^ j)] ++ be j x from by simp [be]]
    refine ev_loop' (W_ok 300 _ _ _ _ ?_)
    repeat' ((conv => whnf); first | refine bslP (by first | rfl | (simp [pureL, pureLL, AV.pure]; done) | fail) rfl ?_ | refine TakeC.full (by first | rfl | omega | (simp; done) | (simp; omega) | fail) ?_ | refine zBs ?_ | refine zBn ?_ | refine zBv rfl rfl ?_ | refine zN ?_ | refine zC ?_ | refine zC4 ?_ | refine zOr16 ?_ | refine zC1 ?_ | refine zByte ?_ | refine zMaxL ?_ | refine zMaxR ?_ | refine zMinL ?_ | refine zMinR ?_ | refine zShr ?_ | refine zC8 ?_ | refine zQ ?_ | refine zR ?_ | refine zS ?_ | refine zA ?_ | refine zM ?_ | refine xr rfl ?_ | refine ai rfl ?_ | refine condT ?_ | refine condF ?_ | refine condG1 ?_ | refine condG0 ?_ | refine cD ?_ | refine dD ?_ | refine cB ?_ | refine dB ?_ | refine cN ?_ | refine dN ?_ | refine cV ?_ | refine dV ?_ | refine cE ?_ | refine dE ?_ | refine condX0 ?_ | refine condX1 ?_ | refine condNot ?_ | refine condAnd ?_ | refine condOr ?_ | refine aO ?_ | refine aB ?_ | refine aR ?_ | refine aR ?_ (by simp; omega) | refine xr (by assumption) ?_ | refine ai (by assumption) ?_ | refine condD (fun h => ?_) (fun h => ?_) | refine condB (fun h => ?_) (fun h => ?_) | refine condN (fun h => ?_) (fun h => ?_) | refine condE (fun h => ?_) (fun h => ?_) | refine condV (fun h => ?_) (fun h => ?_))
    refine ev_keep [6, 1, 5] [69] ?_
    refine num_loop120 x j (acc ++ [UInt8.ofNat (x / 256 ^ j)]) _ _ _ _ _ key _ (i - 1) hk (by omega) (by omega) ?_ ?_ ?_
    · simp [hm]
    · rw [hes]; exact byte_step acc x j i (by omega)
    · simp; omega
theorem number_gives120 (n x : Nat) (hn : n ≤ 8) : Gives G 120 [.int .i64 n, .int .u64 (x : Int)] [] (rB (be n x)) := by
  refine gives_code (F := f120) rfl rfl (W_ok 300 _ _ _ _ ?_)
  repeat' ((conv => whnf); first | refine bslP (by first | rfl | (simp [pureL, pureLL, AV.pure]; done) | fail) rfl ?_ | refine TakeC.full (by first | rfl | omega | (simp; done) | (simp; omega) | fail) ?_ | refine zBs ?_ | refine zBn ?_ | refine zBv rfl rfl ?_ | refine zN ?_ | refine zC ?_ | refine zC4 ?_ | refine zOr16 ?_ | refine zC1 ?_ | refine zByte ?_ | refine zMaxL ?_ | refine zMaxR ?_ | refine zMinL ?_ | refine zMinR ?_ | refine zShr ?_ | refine zC8 ?_ | refine zQ ?_ | refine zR ?_ | refine zS ?_ | refine zA ?_ | refine zM ?_ | refine xr rfl ?_ | refine ai rfl ?_ | refine condT ?_ | refine condF ?_ | refine condG1 ?_ | refine condG0 ?_ | refine cD ?_ | refine dD ?_ | refine cB ?_ | refine dB ?_ | refine cN ?_ | refine dN ?_ | refine cV ?_ | refine dV ?_ | refine cE ?_ | refine dE ?_ | refine condX0 ?_ | refine condX1 ?_ | refine condNot ?_ | refine condAnd ?_ | refine condOr ?_ | refine aO ?_ | refine aB ?_ | refine aR ?_ | refine aR ?_ (by simp; omega) | refine xr (by assumption) ?_ | refine ai (by assumption) ?_ | refine condD (fun h => ?_) (fun h => ?_) | refine condB (fun h => ?_) (fun h => ?_) | refine condN (fun h => ?_) (fun h => ?_) | refine condE (fun h => ?_) (fun h => ?_) | refine condV (fun h => ?_) (fun h => ?_))
  refine ev_nil 69 1 [(5, .vs 69 _ 0)] [] ⟨LeP.nilV _ _ _, trivial⟩ trivial ?_
  refine ev_keep [6, 1, 5] [69] ?_
  exact num_loop120 x n [] _ _ _ _ _ 69 _ _ rfl rfl hn rfl rfl (by simp; omega)
def cat (l : List (List UInt8)) : List UInt8 := l.flatMap id
def bEnc (l : List UInt8) : List AV := [.sl 1 (byteCells l)]
theorem app_loop119 (l : List (List UInt8)) (hc : (cat l).length < 2 ^ 40) (hl : l.length < 2 ^ 40) (ln : Int) (hln : ln = l.length) : ∀ (rest done : List (List UInt8)) (g m : Nat) (es : List (List AV)) (T : List (Nat × AV)) (H : Heap) (c : Nat) (n : Int) (e : l = done ++ rest) (hn : n = done.length) (hm : m = (cat done).length) (hes : es = byteCells (cat done)), Ev G ⟨f119x14LH, ⟨(22, .sl 1 (l.map bEnc)) :: (23, .int .i64 ln) :: (24, .int .i64 n) :: (6, .vs 85 g m) :: T, (85, some (g, .vec 1 es)) :: H, c⟩, [.t 2], 0⟩ (rB (cat l))
  | [], done, g, m, es, T, H, c, n, e, hn, hm, hes => by
    have hd : l.length = done.length := by simp [e]
    have hll : (l.map bEnc).length = l.length := by simp
    obtain rfl : l = done := by simpa using e
    refine ev_loop' (W_ok 300 _ _ _ _ ?_)
    repeat' ((conv => whnf); first | refine bslP (by first | rfl | (simp [pureL, pureLL, AV.pure]; done) | fail) rfl ?_ | refine TakeC.full (by first | rfl | omega | (simp; done) | (simp; omega) | fail) ?_ | refine zBs ?_ | refine zBn ?_ | refine zBv rfl rfl ?_ | refine zN ?_ | refine zC ?_ | refine zC4 ?_ | refine zOr16 ?_ | refine zC1 ?_ | refine zByte ?_ | refine zMaxL ?_ | refine zMaxR ?_ | refine zMinL ?_ | refine zMinR ?_ | refine zShr ?_ | refine zC8 ?_ | refine zQ ?_ | refine zR ?_ | refine zS ?_ | refine zA ?_ | refine zM ?_ | refine xr rfl ?_ | refine ai rfl ?_ | refine condT ?_ | refine condF ?_ | refine condG1 ?_ | refine condG0 ?_ | refine cD ?_ | refine dD ?_ | refine cB ?_ | refine dB ?_ | refine cN ?_ | refine dN ?_ | refine cV ?_ | refine dV ?_ | refine cE ?_ | refine dE ?_ | refine condX0 ?_ | refine condX1 ?_ | refine condNot ?_ | refine condAnd ?_ | refine condOr ?_ | refine aO ?_ | refine aB ?_ | refine aR ?_ | refine aR ?_ (by simp; omega) | refine xr (by assumption) ?_ | refine ai (by assumption) ?_ | refine condD (fun h => ?_) (fun h => ?_) | refine condB (fun h => ?_) (fun h => ?_) | refine condN (fun h => ?_) (fun h => ?_) | refine condE (fun h => ?_) (fun h => ?_) | refine condV (fun h => ?_) (fun h => ?_))
    exact ev_retB 85 ⟨_, _, _, rfl, rfl, hm, hes⟩
  | x :: r, done, g, m, es, T, H, c, n, e, hn, hm, hes => by
    have hd : l.length = done.length + (r.length + 1) := by simp [e]
    have hll : (l.map bEnc).length = l.length := by simp
    have hx : (l.map bEnc)[n.toNat]? = some (bEnc x) := by simp [e, hn]
    have hcl : (cat l).length = (cat done).length + (x.length + (cat r).length) := by rw [e]; simp [cat]
    have hbl := byteCells_length x
    have hel : m = es.length := by rw [hm, hes]; simp
    refine ev_loop' (W_ok 300 _ _ _ _ ?_)
    repeat' ((conv => whnf); first | refine bslP (by first | rfl | (simp [pureL, pureLL, AV.pure]; done) | fail) rfl ?_ | refine TakeC.full (by first | rfl | omega | (simp; done) | (simp; omega) | fail) ?_ | refine zBs ?_ | refine zBn ?_ | refine zBv rfl rfl ?_ | refine zN ?_ | refine zC ?_ | refine zC4 ?_ | refine zOr16 ?_ | refine zC1 ?_ | refine zByte ?_ | refine zMaxL ?_ | refine zMaxR ?_ | refine zMinL ?_ | refine zMinR ?_ | refine zShr ?_ | refine zC8 ?_ | refine zQ ?_ | refine zR ?_ | refine zS ?_ | refine zA ?_ | refine zM ?_ | refine xr rfl ?_ | refine ai rfl ?_ | refine condT ?_ | refine condF ?_ | refine condG1 ?_ | refine condG0 ?_ | refine cD ?_ | refine dD ?_ | refine cB ?_ | refine dB ?_ | refine cN ?_ | refine dN ?_ | refine cV ?_ | refine dV ?_ | refine cE ?_ | refine dE ?_ | refine condX0 ?_ | refine condX1 ?_ | refine condNot ?_ | refine condAnd ?_ | refine condOr ?_ | refine aO ?_ | refine aB ?_ | refine aR ?_ | refine aR ?_ (by simp; omega) | refine xr (by assumption) ?_ | refine ai (by assumption) ?_ | refine condD (fun h => ?_) (fun h => ?_) | refine condB (fun h => ?_) (fun h => ?_) | refine condN (fun h => ?_) (fun h => ?_) | refine condE (fun h => ?_) (fun h => ?_) | refine condV (fun h => ?_) (fun h => ?_))
    refine ev_keep [22, 23, 24, 6] [85] ?_; exact app_loop119 l hc hl ln hln r (done ++ [x]) _ _ _ _ _ _ (n + 1) (by simp [e]) (by simp [hn] <;> omega) (by simp [hm, cat]) (by rw [hes]; simp [cat])
theorem len_loop119 (l : List (List UInt8)) (hc : (cat l).length < 2 ^ 40) (hl : l.length < 2 ^ 40) (ln : Int) (hln : ln = l.length) : ∀ (rest done : List (List UInt8)) (s : Int) (T : List (Nat × AV)) (H : Heap) (c : Nat) (n : Int) (e : l = done ++ rest) (hn : n = done.length) (hs : s = (cat done).length), Ev G ⟨f119x7LH, ⟨(9, .sl 1 (l.map bEnc)) :: (10, .int .i64 ln) :: (11, .int .i64 n) :: (3, .int .i64 s) :: (0, .sl 1 (l.map bEnc)) :: T, H, c⟩, [.t 2], 0⟩ (rB (cat l))
  | [], done, s, T, H, c, n, e, hn, hs => by
    have hd : l.length = done.length := by simp [e]
    have hll : (l.map bEnc).length = l.length := by simp
    obtain rfl : l = done := by simpa using e
    refine ev_loop' (W_ok 300 _ _ _ _ ?_)
    repeat' ((conv => whnf); first | refine bslP (by first | rfl | (simp [pureL, pureLL, AV.pure]; done) | fail) rfl ?_ | refine TakeC.full (by first | rfl | omega | (simp; done) | (simp; omega) | fail) ?_ | refine zBs ?_ | refine zBn ?_ | refine zBv rfl rfl ?_ | refine zN ?_ | refine zC ?_ | refine zC4 ?_ | refine zOr16 ?_ | refine zC1 ?_ | refine zByte ?_ | refine zMaxL ?_ | refine zMaxR ?_ | refine zMinL ?_ | refine zMinR ?_ | refine zShr ?_ | refine zC8 ?_ | refine zQ ?_ | refine zR ?_ | refine zS ?_ | refine zA ?_ | refine zM ?_ | refine xr rfl ?_ | refine ai rfl ?_ | refine condT ?_ | refine condF ?_ | refine condG1 ?_ | refine condG0 ?_ | refine cD ?_ | refine dD ?_ | refine cB ?_ | refine dB ?_ | refine cN ?_ | refine dN ?_ | refine cV ?_ | refine dV ?_ | refine cE ?_ | refine dE ?_ | refine condX0 ?_ | refine condX1 ?_ | refine condNot ?_ | refine condAnd ?_ | refine condOr ?_ | refine aO ?_ | refine aB ?_ | refine aR ?_ | refine aR ?_ (by simp; omega) | refine xr (by assumption) ?_ | refine ai (by assumption) ?_ | refine condD (fun h => ?_) (fun h => ?_) | refine condB (fun h => ?_) (fun h => ?_) | refine condN (fun h => ?_) (fun h => ?_) | refine condE (fun h => ?_) (fun h => ?_) | refine condV (fun h => ?_) (fun h => ?_))
    refine ev_keep [22, 23, 24, 6] [85] ?_
    exact app_loop119 l hc hl _ (by simp) l [] _ 0 _ _ _ _ 0 rfl rfl rfl rfl
  | x :: r, done, s, T, H, c, n, e, hn, hs => by
    have hd : l.length = done.length + (r.length + 1) := by simp [e]
    have hll : (l.map bEnc).length = l.length := by simp
    have hx : (l.map bEnc)[n.toNat]? = some (bEnc x) := by simp [e, hn]
    have hcl : (cat l).length = (cat done).length + (x.length + (cat r).length) := by rw [e]; simp [cat]
    have hbl := byteCells_length x
    refine ev_loop' (W_ok 300 _ _ _ _ ?_)
    repeat' ((conv => whnf); first | refine bslP (by first | rfl | (simp [pureL, pureLL, AV.pure]; done) | fail) rfl ?_ | refine TakeC.full (by first | rfl | omega | (simp; done) | (simp; omega) | fail) ?_ | refine zBs ?_ | refine zBn ?_ | refine zBv rfl rfl ?_ | refine zN ?_ | refine zC ?_ | refine zC4 ?_ | refine zOr16 ?_ | refine zC1 ?_ | refine zByte ?_ | refine zMaxL ?_ | refine zMaxR ?_ | refine zMinL ?_ | refine zMinR ?_ | refine zShr ?_ | refine zC8 ?_ | refine zQ ?_ | refine zR ?_ | refine zS ?_ | refine zA ?_ | refine zM ?_ | refine xr rfl ?_ | refine ai rfl ?_ | refine condT ?_ | refine condF ?_ | refine condG1 ?_ | refine condG0 ?_ | refine cD ?_ | refine dD ?_ | refine cB ?_ | refine dB ?_ | refine cN ?_ | refine dN ?_ | refine cV ?_ | refine dV ?_ | refine cE ?_ | refine dE ?_ | refine condX0 ?_ | refine condX1 ?_ | refine condNot ?_ | refine condAnd ?_ | refine condOr ?_ | refine aO ?_ | refine aB ?_ | refine aR ?_ | refine aR ?_ (by simp; omega) | refine xr (by assumption) ?_ | refine ai (by assumption) ?_ | refine condD (fun h => ?_) (fun h => ?_) | refine condB (fun h => ?_) (fun h => ?_) | refine condN (fun h => ?_) (fun h => ?_) | refine condE (fun h => ?_) (fun h => ?_) | refine condV (fun h => ?_) (fun h => ?_))
    refine ev_keep [9, 10, 11, 3, 0] [] ?_; exact len_loop119 l hc hl ln hln r (done ++ [x]) _ _ _ _ (n + 1) (by simp [e]) (by simp [hn] <;> omega) (by rw [hs]; simp [cat])
theorem join_gives119 (l : List (List UInt8)) (hl : l.length < 2 ^ 40) (hc : (cat l).length < 2 ^ 40) : Gives G 119 [.sl 1 (l.map bEnc)] [] (rB (cat l)) := by
  refine gives_code (F := f119) rfl rfl (W_ok 300 _ _ _ _ ?_)
  repeat' ((conv => whnf); first | refine bslP (by first | rfl | (simp [pureL, pureLL, AV.pure]; done) | fail) rfl ?_ | refine TakeC.full (by first | rfl | omega | (simp; done) | (simp; omega) | fail) ?_ | refine zBs ?_ | refine zBn ?_ | refine zBv rfl rfl ?_ | refine zN ?_ | refine zC ?_ | refine zC4 ?_ | refine zOr16 ?_ | refine zC1 ?_ | refine zByte ?_ | refine zMaxL ?_ | refine zMaxR ?_ | refine zMinL ?_ | refine zMinR ?_ | refine zShr ?_ | refine zC8 ?_ | refine zQ ?_ | refine zR ?_ | refine zS ?_ | refine zA ?_ | refine zM ?_ | refine xr rfl ?_ | refine ai rfl ?_ | refine condT ?_ | refine condF ?_ | refine condG1 ?_ | refine condG0 ?_ | refine cD ?_ | refine dD ?_ | refine cB ?_ | refine dB ?_ | refine cN ?_ | refine dN ?_ | refine cV ?_ | refine dV ?_ | refine cE ?_ | refine dE ?_ | refine condX0 ?_ | refine condX1 ?_ | refine condNot ?_ | refine condAnd ?_ | refine condOr ?_ | refine aO ?_ | refine aB ?_ | refine aR ?_ | refine aR ?_ (by simp; omega) | refine xr (by assumption) ?_ | refine ai (by assumption) ?_ | refine condD (fun h => ?_) (fun h => ?_) | refine condB (fun h => ?_) (fun h => ?_) | refine condN (fun h => ?_) (fun h => ?_) | refine condE (fun h => ?_) (fun h => ?_) | refine condV (fun h => ?_) (fun h => ?_))
  refine ev_keep [9, 10, 11, 3, 0] [] ?_
  exact len_loop119 l hc hl _ (by simp) l [] _ _ _ _ 0 rfl rfl rfl
theorem put_gives109 (b : List UInt8) (hb : b.length < 2 ^ 39) (n x : Nat) (hn : n ≤ 8) : Gives G 109 [.sl 1 (byteCells b), .int .i64 n, .int .u64 (x : Int)] [] (rB (b ++ be n x)) := by
  have hj := join_gives119 [b, be n x] (by simp) (by simp [cat, be_length]; omega)
  rw [show cat [b, be n x] = b ++ be n x from by simp [cat]] at hj
  refine gives_code (F := f109) rfl rfl (W_ok 300 _ _ _ _ ?_)
  repeat' ((conv => whnf); first | refine bslP (by first | rfl | (simp [pureL, pureLL, AV.pure]; done) | fail) rfl ?_ | refine TakeC.full (by first | rfl | omega | (simp; done) | (simp; omega) | fail) ?_ | refine zBs ?_ | refine zBn ?_ | refine zBv rfl rfl ?_ | refine zN ?_ | refine zC ?_ | refine zC4 ?_ | refine zOr16 ?_ | refine zC1 ?_ | refine zByte ?_ | refine zMaxL ?_ | refine zMaxR ?_ | refine zMinL ?_ | refine zMinR ?_ | refine zShr ?_ | refine zC8 ?_ | refine zQ ?_ | refine zR ?_ | refine zS ?_ | refine zA ?_ | refine zM ?_ | refine xr rfl ?_ | refine ai rfl ?_ | refine condT ?_ | refine condF ?_ | refine condG1 ?_ | refine condG0 ?_ | refine cD ?_ | refine dD ?_ | refine cB ?_ | refine dB ?_ | refine cN ?_ | refine dN ?_ | refine cV ?_ | refine dV ?_ | refine cE ?_ | refine dE ?_ | refine condX0 ?_ | refine condX1 ?_ | refine condNot ?_ | refine condAnd ?_ | refine condOr ?_ | refine aO ?_ | refine aB ?_ | refine aR ?_ | refine aR ?_ (by simp; omega) | refine xr (by assumption) ?_ | refine ai (by assumption) ?_ | refine kN (number_gives120 n x hn) ?_ | refine kB [(76, _, _)] ⟨rfl, pz trivial⟩ ?_ | refine kX [] [(77, _, _)] trivial ⟨rfl, pz trivial⟩ (hj) ?_ | refine condD (fun h => ?_) (fun h => ?_) | refine condB (fun h => ?_) (fun h => ?_) | refine condN (fun h => ?_) (fun h => ?_) | refine condE (fun h => ?_) (fun h => ?_) | refine condV (fun h => ?_) (fun h => ?_))
  exact ev_retB 78 ⟨_, _, _, rfl, rfl, rfl, rfl⟩
end Go.AM.IR
set_option maxHeartbeats 4000000
set_option maxRecDepth 20000
namespace Go.AM.IR
def flatS (l : List Seg) : List Int := l.flatMap (·.as)
theorem flat_loop57 (l : List Seg) (hs : (flatS l).length < 2 ^ 40) (hl : l.length < 2 ^ 62) (ln : Int) (hln : ln = l.length) : ∀ (rest done : List Seg) (g m : Nat) (es : List (List AV)) (T : List (Nat × AV)) (H : Heap) (c : Nat) (n : Int) (e : l = done ++ rest) (hn : n = done.length) (hm : m = es.length) (hes : es = (flatS done).map encI), Ev G ⟨f57x7LH, ⟨(6, .sl 2 (l.map Seg.enc)) :: (7, .int .i64 ln) :: (8, .int .i64 n) :: (3, .vs 79 g m) :: T, (79, some (g, .vec 1 es)) :: H, c⟩, [.t 2], 0⟩ ⟨.vs 0 0 (flatS l).length, [(false, .vec 1 ((flatS l).map encI))]⟩
  | [], done, g, m, es, T, H, c, n, e, hn, hm, hes => by
    have hd : l.length = done.length := by simp [e]
    have hll : (l.map Seg.enc).length = l.length := by simp
    obtain rfl : l = done := by simpa using e
    refine ev_loop' (W_ok 300 _ _ _ _ ?_)
    repeat ((conv => whnf); first | refine bslP (by first | rfl | (simp [pureL, pureLL, AV.pure]; done) | fail) rfl ?_ | refine TakeC.full (by first | rfl | omega | (simp; done) | (simp; omega) | fail) ?_ | refine zBs ?_ | refine zBn ?_ | refine zBv rfl rfl ?_ | refine zN ?_ | refine zC ?_ | refine zC4 ?_ | refine zOr16 ?_ | refine zC1 ?_ | refine zByte ?_ | refine zMaxL ?_ | refine zMaxR ?_ | refine zMinL ?_ | refine zMinR ?_ | refine zShr ?_ | refine zC8 ?_ | refine zQ ?_ | refine zR ?_ | refine zS ?_ | refine zA ?_ | refine zM ?_ | refine xr rfl ?_ | refine ai rfl ?_ | refine condT ?_ | refine condF ?_ | refine condG1 ?_ | refine condG0 ?_ | refine cD ?_ | refine dD ?_ | refine cB ?_ | refine dB ?_ | refine cN ?_ | refine dN ?_ | refine cV ?_ | refine dV ?_ | refine cE ?_ | refine dE ?_ | refine condX0 ?_ | refine condX1 ?_ | refine condNot ?_ | refine condAnd ?_ | refine condOr ?_ | refine aO ?_ | refine aB ?_ | refine aR ?_ | refine aR ?_ (by simp; omega) | refine xr (by assumption) ?_ | refine ai (by assumption) ?_)
    refine ev_retV 79 g m _ rfl rfl (by simp [Blk.pure, hes]) ?_
    simp [hm, hes]
  | x :: r, done, g, m, es, T, H, c, n, e, hn, hm, hes => by
    have hd : l.length = done.length + (r.length + 1) := by simp [e]
    have hll : (l.map Seg.enc).length = l.length := by simp
    have hx : (l.map Seg.enc)[n.toNat]? = some (Seg.enc x) := by simp [e, hn]
    have hsz : es.length + (x.as.map encI).length < 2 ^ 40 := by
      rw [e] at hs; simp [flatS] at hs; simp [hes, flatS]; omega
    refine ev_loop' (W_ok 300 _ _ _ _ ?_)
    repeat ((conv => whnf); first | refine bslP (by first | rfl | (simp [pureL, pureLL, AV.pure]; done) | fail) rfl ?_ | refine TakeC.full (by first | rfl | omega | (simp; done) | (simp; omega) | fail) ?_ | refine zBs ?_ | refine zBn ?_ | refine zBv rfl rfl ?_ | refine zN ?_ | refine zC ?_ | refine zC4 ?_ | refine zOr16 ?_ | refine zC1 ?_ | refine zByte ?_ | refine zMaxL ?_ | refine zMaxR ?_ | refine zMinL ?_ | refine zMinR ?_ | refine zShr ?_ | refine zC8 ?_ | refine zQ ?_ | refine zR ?_ | refine zS ?_ | refine zA ?_ | refine zM ?_ | refine xr rfl ?_ | refine ai rfl ?_ | refine condT ?_ | refine condF ?_ | refine condG1 ?_ | refine condG0 ?_ | refine cD ?_ | refine dD ?_ | refine cB ?_ | refine dB ?_ | refine cN ?_ | refine dN ?_ | refine cV ?_ | refine dV ?_ | refine cE ?_ | refine dE ?_ | refine condX0 ?_ | refine condX1 ?_ | refine condNot ?_ | refine condAnd ?_ | refine condOr ?_ | refine aO ?_ | refine aB ?_ | refine aR ?_ | refine aR ?_ (by simp; omega) | refine xr (by assumption) ?_ | refine ai (by assumption) ?_)
    refine ev_keep [6, 7, 8, 3] [79] ?_; exact flat_loop57 l hs hl ln hln r (done ++ [x]) _ _ _ _ _ _ (n + 1) (by simp [e]) (by simp [hn] <;> omega) (by simp [hm]) (by rw [hes]; simp [flatS])
theorem flat_gives57 (l : List Seg) (hl : l.length < 2 ^ 62) (hs : (flatS l).length < 2 ^ 40) : Gives G 57 [.sl 2 (l.map Seg.enc)] [] ⟨.vs 0 0 (flatS l).length, [(false, .vec 1 ((flatS l).map encI))]⟩ := by
  refine gives_code (F := f57) rfl rfl (W_ok 300 _ _ _ _ ?_)
  repeat ((conv => whnf); first | refine bslP (by first | rfl | (simp [pureL, pureLL, AV.pure]; done) | fail) rfl ?_ | refine TakeC.full (by first | rfl | omega | (simp; done) | (simp; omega) | fail) ?_ | refine zBs ?_ | refine zBn ?_ | refine zBv rfl rfl ?_ | refine zN ?_ | refine zC ?_ | refine zC4 ?_ | refine zOr16 ?_ | refine zC1 ?_ | refine zByte ?_ | refine zMaxL ?_ | refine zMaxR ?_ | refine zMinL ?_ | refine zMinR ?_ | refine zShr ?_ | refine zC8 ?_ | refine zQ ?_ | refine zR ?_ | refine zS ?_ | refine zA ?_ | refine zM ?_ | refine xr rfl ?_ | refine ai rfl ?_ | refine condT ?_ | refine condF ?_ | refine condG1 ?_ | refine condG0 ?_ | refine cD ?_ | refine dD ?_ | refine cB ?_ | refine dB ?_ | refine cN ?_ | refine dN ?_ | refine cV ?_ | refine dV ?_ | refine cE ?_ | refine dE ?_ | refine condX0 ?_ | refine condX1 ?_ | refine condNot ?_ | refine condAnd ?_ | refine condOr ?_ | refine aO ?_ | refine aB ?_ | refine aR ?_ | refine aR ?_ (by simp; omega) | refine xr (by assumption) ?_ | refine ai (by assumption) ?_)
  refine ev_nil 79 1 [(3, .vs 79 _ 0)] [] ⟨LeP.nilV _ _ _, trivial⟩ trivial ?_
  refine ev_keep [6, 7, 8, 3] [79] ?_
  exact flat_loop57 l hs hl _ (by simp) l [] _ _ _ _ _ _ 0 rfl rfl rfl rfl
theorem size_gives54 (l : List Seg) (hl : l.length < 2 ^ 40) (hs : (flatS l).length < 2 ^ 40) : Gives G 54 [.sl 2 (l.map Seg.enc)] [] ⟨.int .i64 (l.length + (flatS l).length), []⟩ := by
  have hlm : (l.map Seg.enc).length = l.length := by simp
  refine gives_code (F := f54) rfl rfl (W_ok 300 _ _ _ _ ?_)
  repeat ((conv => whnf); first | refine bslP (by first | rfl | (simp [pureL, pureLL, AV.pure]; done) | fail) rfl ?_ | refine TakeC.full (by first | rfl | omega | (simp; done) | (simp; omega) | fail) ?_ | refine zBs ?_ | refine zBn ?_ | refine zBv rfl rfl ?_ | refine zN ?_ | refine zC ?_ | refine zC4 ?_ | refine zOr16 ?_ | refine zC1 ?_ | refine zByte ?_ | refine zMaxL ?_ | refine zMaxR ?_ | refine zMinL ?_ | refine zMinR ?_ | refine zShr ?_ | refine zC8 ?_ | refine zQ ?_ | refine zR ?_ | refine zS ?_ | refine zA ?_ | refine zM ?_ | refine xr rfl ?_ | refine ai rfl ?_ | refine condT ?_ | refine condF ?_ | refine condG1 ?_ | refine condG0 ?_ | refine cD ?_ | refine dD ?_ | refine cB ?_ | refine dB ?_ | refine cN ?_ | refine dN ?_ | refine cV ?_ | refine dV ?_ | refine cE ?_ | refine dE ?_ | refine condX0 ?_ | refine condX1 ?_ | refine condNot ?_ | refine condAnd ?_ | refine condOr ?_ | refine aO ?_ | refine aB ?_ | refine aR ?_ | refine aR ?_ (by simp; omega) | refine xr (by assumption) ?_ | refine ai (by assumption) ?_)
  refine callN (flat_gives57 l (by omega) hs) (by simp [pureL, AV.pure]) rfl (by simp [pureBs, Blk.pure]) rfl ?_
  repeat ((conv => whnf); first | refine bslP (by first | rfl | (simp [pureL, pureLL, AV.pure]; done) | fail) rfl ?_ | refine TakeC.full (by first | rfl | omega | (simp; done) | (simp; omega) | fail) ?_ | refine zBs ?_ | refine zBn ?_ | refine zBv rfl rfl ?_ | refine zN ?_ | refine zC ?_ | refine zC4 ?_ | refine zOr16 ?_ | refine zC1 ?_ | refine zByte ?_ | refine zMaxL ?_ | refine zMaxR ?_ | refine zMinL ?_ | refine zMinR ?_ | refine zShr ?_ | refine zC8 ?_ | refine zQ ?_ | refine zR ?_ | refine zS ?_ | refine zA ?_ | refine zM ?_ | refine xr rfl ?_ | refine ai rfl ?_ | refine condT ?_ | refine condF ?_ | refine condG1 ?_ | refine condG0 ?_ | refine cD ?_ | refine dD ?_ | refine cB ?_ | refine dB ?_ | refine cN ?_ | refine dN ?_ | refine cV ?_ | refine dV ?_ | refine cE ?_ | refine dE ?_ | refine condX0 ?_ | refine condX1 ?_ | refine condNot ?_ | refine condAnd ?_ | refine condOr ?_ | refine aO ?_ | refine aB ?_ | refine aR ?_ | refine aR ?_ (by simp; omega) | refine xr (by assumption) ?_ | refine ai (by assumption) ?_)
  (first | refine ev_fin (And.intro (by first | rfl | (simp [AV.pure, pureL]; done) | fail) ?_) | refine ev_fin0 (And.intro (by first | rfl | (simp [AV.pure, pureL]; done) | fail) ?_))
  simp
def unkS (l : List TLV) : Int := (l.map fun t => (t.value.length : Int) / 8).sum
def sizeS (a : Attrs) : Int := a.path.length + (flatS a.path).length + a.comms.length + a.clusters.length + a.unknown.length + unkS a.unknown
structure AB (a : Attrs) : Prop where
  path : a.path.length < 2 ^ 40
  flat : (flatS a.path).length < 2 ^ 40
  comms : a.comms.length < 2 ^ 40
  clusters : a.clusters.length < 2 ^ 40
  unknown : a.unknown.length < 2 ^ 40
  vals : ∀ t ∈ a.unknown, t.value.length < 2 ^ 40
  unk : unkS a.unknown < 2 ^ 40
theorem unk_nonneg : ∀ l : List TLV, 0 ≤ unkS l
  | [] => by simp [unkS]
  | t :: r => by
    have := unk_nonneg r
    simp only [unkS, List.map_cons, List.sum_cons] at this ⊢
    have h2 : 0 ≤ (t.value.length : Int) / 8 := by omega
    omega
theorem size_loop26 (l : List TLV) (s0 : Int) (hv : ∀ t ∈ l, t.value.length < 2 ^ 40) (hu : unkS l < 2 ^ 40) (hs0 : 0 ≤ s0) (hs1 : s0 < 2 ^ 50) (hl : l.length < 2 ^ 40) (ln : Int) (hln : ln = l.length) : ∀ (rest done : List TLV) (s : Int) (T : List (Nat × AV)) (H : Heap) (c : Nat) (n : Int) (e : l = done ++ rest) (hn : n = done.length) (hs : s = s0 + unkS done), Ev G ⟨f26x7LH, ⟨(22, .sl 2 (l.map TLV.enc)) :: (23, .int .i64 ln) :: (24, .int .i64 n) :: (3, .int .i64 s) :: T, H, c⟩, [.t 2], 0⟩ ⟨.int .i64 (s0 + unkS l), []⟩
  | [], done, s, T, H, c, n, e, hn, hs => by
    have hd : l.length = done.length := by simp [e]
    have hll : (l.map TLV.enc).length = l.length := by simp
    obtain rfl : l = done := by simpa using e
    refine ev_loop' (W_ok 300 _ _ _ _ ?_)
    repeat ((conv => whnf); first | refine bslP (by first | rfl | (simp [pureL, pureLL, AV.pure]; done) | fail) rfl ?_ | refine TakeC.full (by first | rfl | omega | (simp; done) | (simp; omega) | fail) ?_ | refine zBs ?_ | refine zBn ?_ | refine zBv rfl rfl ?_ | refine zN ?_ | refine zC ?_ | refine zC4 ?_ | refine zOr16 ?_ | refine zC1 ?_ | refine zByte ?_ | refine zMaxL ?_ | refine zMaxR ?_ | refine zMinL ?_ | refine zMinR ?_ | refine zShr ?_ | refine zC8 ?_ | refine zQ ?_ | refine zR ?_ | refine zS ?_ | refine zA ?_ | refine zM ?_ | refine xr rfl ?_ | refine ai rfl ?_ | refine condT ?_ | refine condF ?_ | refine condG1 ?_ | refine condG0 ?_ | refine cD ?_ | refine dD ?_ | refine cB ?_ | refine dB ?_ | refine cN ?_ | refine dN ?_ | refine cV ?_ | refine dV ?_ | refine cE ?_ | refine dE ?_ | refine condX0 ?_ | refine condX1 ?_ | refine condNot ?_ | refine condAnd ?_ | refine condOr ?_ | refine aO ?_ | refine aB ?_ | refine aR ?_ | refine aR ?_ (by simp; omega) | refine xr (by assumption) ?_ | refine ai (by assumption) ?_)
    rw [hs]
    first | exact ev_ret rfl | exact ev_end rfl
  | x :: r, done, s, T, H, c, n, e, hn, hs => by
    have hd : l.length = done.length + (r.length + 1) := by simp [e]
    have hll : (l.map TLV.enc).length = l.length := by simp
    have hx : (l.map TLV.enc)[n.toNat]? = some (TLV.enc x) := by simp [e, hn]
    have hxv : x.value.length < 2 ^ 40 := hv x (by simp [e])
    have hbl : (byteCells x.value).length = x.value.length := by simp [byteCells]
    have hsum : unkS l = unkS done + ((x.value.length : Int) / 8 + unkS r) := by rw [e]; simp [unkS]
    have hr := unk_nonneg r
    have hdn := unk_nonneg done
    refine ev_loop' (W_ok 300 _ _ _ _ ?_)
    repeat ((conv => whnf); first | refine bslP (by first | rfl | (simp [pureL, pureLL, AV.pure]; done) | fail) rfl ?_ | refine TakeC.full (by first | rfl | omega | (simp; done) | (simp; omega) | fail) ?_ | refine zBs ?_ | refine zBn ?_ | refine zBv rfl rfl ?_ | refine zN ?_ | refine zC ?_ | refine zC4 ?_ | refine zOr16 ?_ | refine zC1 ?_ | refine zByte ?_ | refine zMaxL ?_ | refine zMaxR ?_ | refine zMinL ?_ | refine zMinR ?_ | refine zShr ?_ | refine zC8 ?_ | refine zQ ?_ | refine zR ?_ | refine zS ?_ | refine zA ?_ | refine zM ?_ | refine xr rfl ?_ | refine ai rfl ?_ | refine condT ?_ | refine condF ?_ | refine condG1 ?_ | refine condG0 ?_ | refine cD ?_ | refine dD ?_ | refine cB ?_ | refine dB ?_ | refine cN ?_ | refine dN ?_ | refine cV ?_ | refine dV ?_ | refine cE ?_ | refine dE ?_ | refine condX0 ?_ | refine condX1 ?_ | refine condNot ?_ | refine condAnd ?_ | refine condOr ?_ | refine aO ?_ | refine aB ?_ | refine aR ?_ | refine aR ?_ (by simp; omega) | refine xr (by assumption) ?_ | refine ai (by assumption) ?_)
    refine ev_keep [22, 23, 24, 3] [] ?_; exact size_loop26 l s0 hv hu hs0 hs1 hl ln hln r (done ++ [x]) _ _ _ _ (n + 1) (by simp [e]) (by simp [hn] <;> omega) (by rw [hs, hbl]; simp [unkS]; omega)
theorem size_gives26 (a : Attrs) (h : AB a) : Gives G 26 [.agg a.enc] [] ⟨.int .i64 (sizeS a), []⟩ := by
  obtain ⟨h1, h2, h3, h4, h5, h6, h7⟩ := h
  have l3 : (a.comms.map encU).length = a.comms.length := by simp
  have l4 : (a.clusters.map encU).length = a.clusters.length := by simp
  have l5 : (a.unknown.map TLV.enc).length = a.unknown.length := by simp
  refine gives_code (F := f26) rfl rfl (W_ok 300 _ _ _ _ ?_)
  repeat ((conv => whnf); first | refine bslP (by first | rfl | (simp [pureL, pureLL, AV.pure]; done) | fail) rfl ?_ | refine TakeC.full (by first | rfl | omega | (simp; done) | (simp; omega) | fail) ?_ | refine zBs ?_ | refine zBn ?_ | refine zBv rfl rfl ?_ | refine zN ?_ | refine zC ?_ | refine zC4 ?_ | refine zOr16 ?_ | refine zC1 ?_ | refine zByte ?_ | refine zMaxL ?_ | refine zMaxR ?_ | refine zMinL ?_ | refine zMinR ?_ | refine zShr ?_ | refine zC8 ?_ | refine zQ ?_ | refine zR ?_ | refine zS ?_ | refine zA ?_ | refine zM ?_ | refine xr rfl ?_ | refine ai rfl ?_ | refine condT ?_ | refine condF ?_ | refine condG1 ?_ | refine condG0 ?_ | refine cD ?_ | refine dD ?_ | refine cB ?_ | refine dB ?_ | refine cN ?_ | refine dN ?_ | refine cV ?_ | refine dV ?_ | refine cE ?_ | refine dE ?_ | refine condX0 ?_ | refine condX1 ?_ | refine condNot ?_ | refine condAnd ?_ | refine condOr ?_ | refine aO ?_ | refine aB ?_ | refine aR ?_ | refine aR ?_ (by simp; omega) | refine xr (by assumption) ?_ | refine ai (by assumption) ?_)
  refine callV (size_gives54 a.path h1 h2) (by first | rfl | (simp [pureL, pureLL, AV.pure]; done) | fail) (by first | rfl | (simp [AV.dry, dryL]; done) | fail) ?_
  repeat ((conv => whnf); first | refine bslP (by first | rfl | (simp [pureL, pureLL, AV.pure]; done) | fail) rfl ?_ | refine TakeC.full (by first | rfl | omega | (simp; done) | (simp; omega) | fail) ?_ | refine zBs ?_ | refine zBn ?_ | refine zBv rfl rfl ?_ | refine zN ?_ | refine zC ?_ | refine zC4 ?_ | refine zOr16 ?_ | refine zC1 ?_ | refine zByte ?_ | refine zMaxL ?_ | refine zMaxR ?_ | refine zMinL ?_ | refine zMinR ?_ | refine zShr ?_ | refine zC8 ?_ | refine zQ ?_ | refine zR ?_ | refine zS ?_ | refine zA ?_ | refine zM ?_ | refine xr rfl ?_ | refine ai rfl ?_ | refine condT ?_ | refine condF ?_ | refine condG1 ?_ | refine condG0 ?_ | refine cD ?_ | refine dD ?_ | refine cB ?_ | refine dB ?_ | refine cN ?_ | refine dN ?_ | refine cV ?_ | refine dV ?_ | refine cE ?_ | refine dE ?_ | refine condX0 ?_ | refine condX1 ?_ | refine condNot ?_ | refine condAnd ?_ | refine condOr ?_ | refine aO ?_ | refine aB ?_ | refine aR ?_ | refine aR ?_ (by simp; omega) | refine xr (by assumption) ?_ | refine ai (by assumption) ?_)
  refine ev_keep [22, 23, 24, 3] [] ?_
  rw [l3, l4, l5]
  refine size_loop26 a.unknown (a.path.length + (flatS a.path).length + a.comms.length + a.clusters.length + a.unknown.length) h6 h7 (by omega) (by omega) h5 _ (by simp) a.unknown [] _ _ _ _ 0 rfl rfl ?_
  simp [unkS]
theorem large_gives21 (a : Attrs) (h : AB a) : Gives G 21 [.agg a.enc] [] ⟨.bool (decide (sizeS a > 3000)), []⟩ := by
  refine gives_code (F := f21) rfl rfl (W_ok 60 _ _ _ _ ?_)
  repeat ((conv => whnf); first | refine bslP (by first | rfl | (simp [pureL, pureLL, AV.pure]; done) | fail) rfl ?_ | refine TakeC.full (by first | rfl | omega | (simp; done) | (simp; omega) | fail) ?_ | refine zBs ?_ | refine zBn ?_ | refine zBv rfl rfl ?_ | refine zN ?_ | refine zC ?_ | refine zC4 ?_ | refine zOr16 ?_ | refine zC1 ?_ | refine zByte ?_ | refine zMaxL ?_ | refine zMaxR ?_ | refine zMinL ?_ | refine zMinR ?_ | refine zShr ?_ | refine zC8 ?_ | refine zQ ?_ | refine zR ?_ | refine zS ?_ | refine zA ?_ | refine zM ?_ | refine xr rfl ?_ | refine ai rfl ?_ | refine condT ?_ | refine condF ?_ | refine condG1 ?_ | refine condG0 ?_ | refine cD ?_ | refine dD ?_ | refine cB ?_ | refine dB ?_ | refine cN ?_ | refine dN ?_ | refine cV ?_ | refine dV ?_ | refine cE ?_ | refine dE ?_ | refine condX0 ?_ | refine condX1 ?_ | refine condNot ?_ | refine condAnd ?_ | refine condOr ?_ | refine aO ?_ | refine aB ?_ | refine aR ?_ | refine aR ?_ (by simp; omega) | refine xr (by assumption) ?_ | refine ai (by assumption) ?_)
  refine callV (size_gives26 a h) (by first | rfl | (simp [pureL, pureLL, AV.pure]; done) | fail) (by first | rfl | (simp [AV.dry, dryL]; done) | fail) ?_
  repeat ((conv => whnf); first | refine bslP (by first | rfl | (simp [pureL, pureLL, AV.pure]; done) | fail) rfl ?_ | refine TakeC.full (by first | rfl | omega | (simp; done) | (simp; omega) | fail) ?_ | refine zBs ?_ | refine zBn ?_ | refine zBv rfl rfl ?_ | refine zN ?_ | refine zC ?_ | refine zC4 ?_ | refine zOr16 ?_ | refine zC1 ?_ | refine zByte ?_ | refine zMaxL ?_ | refine zMaxR ?_ | refine zMinL ?_ | refine zMinR ?_ | refine zShr ?_ | refine zC8 ?_ | refine zQ ?_ | refine zR ?_ | refine zS ?_ | refine zA ?_ | refine zM ?_ | refine xr rfl ?_ | refine ai rfl ?_ | refine condT ?_ | refine condF ?_ | refine condG1 ?_ | refine condG0 ?_ | refine cD ?_ | refine dD ?_ | refine cB ?_ | refine dB ?_ | refine cN ?_ | refine dN ?_ | refine cV ?_ | refine dV ?_ | refine cE ?_ | refine dE ?_ | refine condX0 ?_ | refine condX1 ?_ | refine condNot ?_ | refine condAnd ?_ | refine condOr ?_ | refine aO ?_ | refine aB ?_ | refine aR ?_ | refine aR ?_ (by simp; omega) | refine xr (by assumption) ?_ | refine ai (by assumption) ?_)
  first | exact ev_ret rfl | exact ev_end rfl
end Go.AM.IR
set_option maxHeartbeats 4000000
set_option maxRecDepth 20000
namespace Go.AM.IR
@[irreducible] def setK (k : Int) : Bool := k == 1 || k == 4
@[irreducible] def confK (k : Int) : Bool := k == 3 || k == 4
end Go.AM.IR
set_option maxHeartbeats 4000000
set_option maxRecDepth 20000
namespace Go.AM.IR
end Go.AM.IR
set_option maxHeartbeats 4000000
set_option maxRecDepth 20000
namespace Go.AM.IR
end Go.AM.IR
set_option maxHeartbeats 4000000
set_option maxRecDepth 20000
namespace Go.AM.IR
end Go.AM.IR
set_option maxHeartbeats 4000000
set_option maxRecDepth 20000
namespace Go.AM.IR
end Go.AM.IR
set_option maxHeartbeats 4000000
set_option maxRecDepth 20000
namespace Go.AM.IR
end Go.AM.IR
set_option maxHeartbeats 4000000
set_option maxRecDepth 20000
namespace Go.AM.IR
end Go.AM.IR
set_option maxHeartbeats 4000000
set_option maxRecDepth 20000
namespace Go.AM.IR
structure LenB (a : Attrs) : Prop where
  path : a.path.length < 2 ^ 40
  segs : ∀ s ∈ a.path, s.as.length < 2 ^ 40
  comms : a.comms.length < 2 ^ 40
  clusters : a.clusters.length < 2 ^ 40
  unknown : a.unknown.length < 2 ^ 40
  vals : ∀ t ∈ a.unknown, t.value.length < 2 ^ 40
end Go.AM.IR
set_option maxHeartbeats 4000000
set_option maxRecDepth 20000
namespace Go.AM.IR
def u64 (n : Int) : Nat := (n % 18446744073709551616).toNat
theorem zCU {k : Eff → Prop} {x : Opd} {g key : Nat} {hg : Nat → Option (Nat × Blk)} {n : Int} (h : k { res := .int .u64 ((u64 n : Nat) : Int) }) : ∃ e, aopV (.conv .u64 x) g key [.int .i64 n] hg = some e ∧ k e :=
  ⟨_, by
    show some (({ res := .int .u64 (IntKind.wrap .u64 n) } : Eff)) = _
    have : IntKind.wrap .u64 n = ((u64 n : Nat) : Int) := by
      simp [IntKind.wrap, IntKind.signed, IntKind.bits, u64]; omega
    rw [this], h⟩
theorem put0_gives109 (n x : Nat) (hn : n ≤ 8) : Gives G 109 [.con (.slice none 0 0), .int .i64 n, .int .u64 (x : Int)] [] (rB (be n x)) :=
  gives_le rfl (put_gives109 [] (by simp) n x hn) ⟨LeP.nil 1, .refl _, .refl _, trivial⟩
def zeroA : Attrs := ⟨0, [], 0, false, 0, false, 0, false, false, 0, 0, [], false, 0, [], []⟩
def zeroM : PMsg := ⟨0, 0, 0, 0, 0, [], [], zeroA, [], 0, 0, []⟩
def knownS (c : Conf) (peer : Int) : Bool := decide (0 ≤ peer ∧ peer < c.peers.length)
theorem rBl {p q : Bool} (h : p = q) : (⟨.bool p, []⟩ : Ret) = ⟨.bool q, []⟩ := by rw [h]
theorem known_gives140 (c : Conf) (hc : c.ok) (hl : c.peers.length ≤ maxLen) (peer : Int) : Gives G 140 [.agg c.enc, .int .i64 peer] [] ⟨.bool (knownS c peer), []⟩ := by
  have hp := hc.nets; have h1 := hc.p1; have h2 := hc.p2; have h3 := hc.p3; have h4 := hc.p4
  have hll : (c.peers.map Peer.enc).length = c.peers.length := by simp
  refine gives_code (F := f140) rfl rfl (W_ok 300 _ _ _ _ ?_)
  repeat' ((conv => whnf); first | refine bslP (by first | rfl | (simp [pureL, pureLL, AV.pure]; done) | fail) rfl ?_ | refine TakeC.full (by first | rfl | omega | (simp; done) | (simp; omega) | fail) ?_ | refine zBs ?_ | refine zBn ?_ | refine zBv rfl rfl ?_ | refine zN ?_ | refine zC ?_ | refine zC4 ?_ | refine zOr16 ?_ | refine zC1 ?_ | refine zByte ?_ | refine zMaxL ?_ | refine zMaxR ?_ | refine zMinL ?_ | refine zMinR ?_ | refine zShr ?_ | refine zC8 ?_ | refine zQ ?_ | refine zR ?_ | refine zS ?_ | refine zA ?_ | refine zM ?_ | refine xr rfl ?_ | refine ai rfl ?_ | refine condT ?_ | refine condF ?_ | refine condG1 ?_ | refine condG0 ?_ | refine cD ?_ | refine dD ?_ | refine cB ?_ | refine dB ?_ | refine cN ?_ | refine dN ?_ | refine cV ?_ | refine dV ?_ | refine cE ?_ | refine dE ?_ | refine condX0 ?_ | refine condX1 ?_ | refine condNot ?_ | refine condAnd ?_ | refine condOr ?_ | refine aO ?_ | refine aB ?_ | refine aR ?_ | refine aR ?_ (by simp; omega) | refine xr (by assumption) ?_ | refine ai (by assumption) ?_ | refine condD (fun h => ?_) (fun h => ?_) | refine condB (fun h => ?_) (fun h => ?_) | refine condN (fun h => ?_) (fun h => ?_) | refine condE (fun h => ?_) (fun h => ?_) | refine condV (fun h => ?_) (fun h => ?_))
  all_goals ((first | refine ev_fin (And.intro (by first | rfl | (simp [AV.pure, pureL]; done) | fail) ?_) | refine ev_fin0 (And.intro (by first | rfl | (simp [AV.pure, pureL]; done) | fail) ?_)); exact rBl (by rw [knownS, Bool.eq_iff_iff]; simp only [decide_eq_true_eq, Bool.false_eq_true, false_iff, hll]; omega))
def ownS (c : Conf) (p : Peer) : Int := if c.confed ≠ 0 ∧ p.kind = 1 then c.confed else c.as
theorem own_gives141 (c : Conf) (hc : c.ok) (p : Peer) : Gives G 141 [.agg c.enc, .agg p.enc] [] ⟨.int .i64 (ownS c p), []⟩ := by
  have hp := hc.nets; have h1 := hc.p1; have h2 := hc.p2; have h3 := hc.p3; have h4 := hc.p4
  refine gives_code (F := f141) rfl rfl (W_ok 300 _ _ _ _ ?_)
  repeat' ((conv => whnf); first | refine bslP (by first | rfl | (simp [pureL, pureLL, AV.pure]; done) | fail) rfl ?_ | refine TakeC.full (by first | rfl | omega | (simp; done) | (simp; omega) | fail) ?_ | refine zBs ?_ | refine zBn ?_ | refine zBv rfl rfl ?_ | refine zN ?_ | refine zC ?_ | refine zC4 ?_ | refine zOr16 ?_ | refine zC1 ?_ | refine zByte ?_ | refine zMaxL ?_ | refine zMaxR ?_ | refine zMinL ?_ | refine zMinR ?_ | refine zShr ?_ | refine zC8 ?_ | refine zQ ?_ | refine zR ?_ | refine zS ?_ | refine zA ?_ | refine zM ?_ | refine xr rfl ?_ | refine ai rfl ?_ | refine condT ?_ | refine condF ?_ | refine condG1 ?_ | refine condG0 ?_ | refine cD ?_ | refine dD ?_ | refine cB ?_ | refine dB ?_ | refine cN ?_ | refine dN ?_ | refine cV ?_ | refine dV ?_ | refine cE ?_ | refine dE ?_ | refine condX0 ?_ | refine condX1 ?_ | refine condNot ?_ | refine condAnd ?_ | refine condOr ?_ | refine aO ?_ | refine aB ?_ | refine aR ?_ | refine aR ?_ (by simp; omega) | refine xr (by assumption) ?_ | refine ai (by assumption) ?_ | refine condD (fun h => ?_) (fun h => ?_) | refine condB (fun h => ?_) (fun h => ?_) | refine condN (fun h => ?_) (fun h => ?_) | refine condE (fun h => ?_) (fun h => ?_) | refine condV (fun h => ?_) (fun h => ?_))
  all_goals try ((first | refine ev_fin (And.intro (by first | rfl | (simp [AV.pure, pureL]; done) | fail) ?_) | refine ev_fin0 (And.intro (by first | rfl | (simp [AV.pure, pureL]; done) | fail) ?_)); first | rfl | (simp [ownS, Bool.cond_eq_ite, *]; done) | (simp [ownS, Bool.cond_eq_ite, *]; omega) | (unfold ownS; repeat' split; all_goals first | rfl | (exfalso; omega) | (simp_all; done) | (simp_all; omega)))
def capsS (as restart : Int) : List Cap := ⟨2, []⟩ :: (if restart > 0 then [⟨64, be 2 (u64 restart)⟩] else []) ++ [⟨65, be 4 (u64 as)⟩]
def openP (c : Conf) (p : Peer) : PMsg := { zeroM with kind := 1, version := 4, as := ownS c p, hold := p.hold, router := c.router, caps := capsS (ownS c p) p.restart }
def openS (c : Conf) (peer : Int) : PMsg := match bif knownS c peer then c.peers[peer.toNat]? else none with
  | none => zeroM
  | some p => openP c p
theorem open_gives127 (c : Conf) (hc : c.ok) (hl : c.peers.length ≤ maxLen) (peer : Int) : Gives G 127 [.agg c.enc, .int .i64 peer] [] ⟨.agg (openS c peer).enc, []⟩ := by
  have hp := hc.nets; have h1 := hc.p1; have h2 := hc.p2; have h3 := hc.p3; have h4 := hc.p4
  have hll : (c.peers.map Peer.enc).length = c.peers.length := by simp
  have hk := known_gives140 c hc hl peer
  cases hkn : knownS c peer
  · rw [hkn] at hk
    rw [show openS c peer = zeroM from by simp [openS, hkn]]
    refine gives_code (F := f127) rfl rfl (W_ok 300 _ _ _ _ ?_)
    repeat' ((conv => whnf); first | refine kV hk ?_ (by simp [pureL, AV.pure, hp, h1, h2, h3, h4]) | refine bslP (by first | rfl | (simp [pureL, pureLL, AV.pure]; done) | fail) rfl ?_ | refine TakeC.full (by first | rfl | omega | (simp; done) | (simp; omega) | fail) ?_ | refine zBs ?_ | refine zBn ?_ | refine zBv rfl rfl ?_ | refine zN ?_ | refine zC ?_ | refine zC4 ?_ | refine zOr16 ?_ | refine zC1 ?_ | refine zByte ?_ | refine zMaxL ?_ | refine zMaxR ?_ | refine zMinL ?_ | refine zMinR ?_ | refine zShr ?_ | refine zC8 ?_ | refine zQ ?_ | refine zR ?_ | refine zS ?_ | refine zA ?_ | refine zM ?_ | refine xr rfl ?_ | refine ai rfl ?_ | refine condT ?_ | refine condF ?_ | refine condG1 ?_ | refine condG0 ?_ | refine cD ?_ | refine dD ?_ | refine cB ?_ | refine dB ?_ | refine cN ?_ | refine dN ?_ | refine cV ?_ | refine dV ?_ | refine cE ?_ | refine dE ?_ | refine condX0 ?_ | refine condX1 ?_ | refine condNot ?_ | refine condAnd ?_ | refine condOr ?_ | refine aO ?_ | refine aB ?_ | refine aR ?_ | refine aR ?_ (by simp; omega) | refine xr (by assumption) ?_ | refine ai (by assumption) ?_ | refine condD (fun h => ?_) (fun h => ?_) | refine condB (fun h => ?_) (fun h => ?_) | refine condN (fun h => ?_) (fun h => ?_) | refine condE (fun h => ?_) (fun h => ?_) | refine condV (fun h => ?_) (fun h => ?_))
    refine ev_le [] [(68, some (_, .cells (zeroM.enc)))] trivial ⟨⟨rfl, (by repeat' (first | exact trivial | exact LeP.refl _ | exact LeP.nil _ | refine LeP.sl ?_ | refine ⟨?_, ?_⟩))⟩, trivial⟩ ?_
    (first | refine ev_fin (And.intro (by first | rfl | (simp [AV.pure, pureL]; done) | fail) ?_) | refine ev_fin0 (And.intro (by first | rfl | (simp [AV.pure, pureL]; done) | fail) ?_)); (conv => whnf); refine And.intro (by first | rfl | (simp [AV.pure, pureL, pureLL, *]; done) | fail) ?_
    rfl
  · have h0 : 0 ≤ peer ∧ peer < c.peers.length := by simpa [knownS] using hkn
    have hlt : peer.toNat < c.peers.length := by omega
    generalize hpe : c.peers[peer.toNat] = p
    have hx : (c.peers.map Peer.enc)[peer.toNat]? = some p.enc := by simp [hlt, hpe]
    rw [show openS c peer = openP c p from by simp [openS, hkn, hlt, hpe]]
    rw [hkn] at hk
    have ho := own_gives141 c hc p
    by_cases hr : p.restart > 0
    · have hcaps : capsS (ownS c p) p.restart = [⟨2, []⟩, ⟨64, be 2 (u64 p.restart)⟩, ⟨65, be 4 (u64 (ownS c p))⟩] := by simp [capsS, hr]
      rw [openP, hcaps]
      refine gives_code (F := f127) rfl rfl (W_ok 300 _ _ _ _ ?_)
      repeat' ((conv => whnf); first | refine zCU ?_ | refine kV hk ?_ (by simp [pureL, AV.pure, hp, h1, h2, h3, h4]) | refine kV ho ?_ (by simp [pureL, AV.pure, hp, h1, h2, h3, h4]) | refine bslP (by first | rfl | (simp [pureL, pureLL, AV.pure]; done) | fail) rfl ?_ | refine TakeC.full (by first | rfl | omega | (simp; done) | (simp; omega) | fail) ?_ | refine zBs ?_ | refine zBn ?_ | refine zBv rfl rfl ?_ | refine zN ?_ | refine zC ?_ | refine zC4 ?_ | refine zOr16 ?_ | refine zC1 ?_ | refine zByte ?_ | refine zMaxL ?_ | refine zMaxR ?_ | refine zMinL ?_ | refine zMinR ?_ | refine zShr ?_ | refine zC8 ?_ | refine zQ ?_ | refine zR ?_ | refine zS ?_ | refine zA ?_ | refine zM ?_ | refine xr rfl ?_ | refine ai rfl ?_ | refine condT ?_ | refine condF ?_ | refine condG1 ?_ | refine condG0 ?_ | refine cD ?_ | refine dD ?_ | refine cB ?_ | refine dB ?_ | refine cN ?_ | refine dN ?_ | refine cV ?_ | refine dV ?_ | refine cE ?_ | refine dE ?_ | refine condX0 ?_ | refine condX1 ?_ | refine condNot ?_ | refine condAnd ?_ | refine condOr ?_ | refine aO ?_ | refine aB ?_ | refine aR ?_ | refine aR ?_ (by simp; omega) | refine xr (by assumption) ?_ | refine ai (by assumption) ?_ | refine kN (put0_gives109 2 (u64 p.restart) (by omega)) ?_ | refine kN (put0_gives109 4 (u64 (ownS c p)) (by omega)) ?_ | refine kB [(105, _, _)] ⟨rfl, pz trivial⟩ ?_ | refine kB [(114, _, _)] ⟨rfl, pz trivial⟩ ?_ | refine condD (fun h => ?_) (fun h => ?_) | refine condB (fun h => ?_) (fun h => ?_) | refine condN (fun h => ?_) (fun h => ?_) | refine condE (fun h => ?_) (fun h => ?_) | refine condV (fun h => ?_) (fun h => ?_))
      refine ev_frzk [(95, _, _)] [4] [68] ⟨rfl, (by first | rfl | (simp [Blk.pure, pureL, pureLL, AV.pure, *]; done) | fail), trivial⟩ ?_; repeat ((conv => whnf); first | refine And.intro (by first | rfl | omega | (simp [pureL, pureLL, AV.pure]; done) | (simp; omega) | (simp [pureL, pureLL, AV.pure, *]; done) | assumption | fail) ?_ | intro T H)
      refine ev_le [] [(68, some (_, .cells ((PMsg.enc { zeroM with kind := 1, version := 4, as := ownS c p, hold := p.hold, router := c.router, caps := [⟨2, []⟩, ⟨64, be 2 (u64 p.restart)⟩, ⟨65, be 4 (u64 (ownS c p))⟩] }))))] trivial ⟨⟨rfl, (by repeat' (first | exact trivial | exact LeP.refl _ | exact LeP.nil _ | refine LeP.sl ?_ | refine ⟨?_, ?_⟩))⟩, trivial⟩ ?_
      (first | refine ev_fin (And.intro (by first | rfl | (simp [AV.pure, pureL]; done) | fail) ?_) | refine ev_fin0 (And.intro (by first | rfl | (simp [AV.pure, pureL]; done) | fail) ?_)); (conv => whnf); refine And.intro (by first | rfl | (simp [AV.pure, pureL, pureLL, *]; done) | fail) ?_
      rfl
    · have hcaps : capsS (ownS c p) p.restart = [⟨2, []⟩, ⟨65, be 4 (u64 (ownS c p))⟩] := by simp [capsS, hr]
      rw [openP, hcaps]
      refine gives_code (F := f127) rfl rfl (W_ok 300 _ _ _ _ ?_)
      repeat' ((conv => whnf); first | refine zCU ?_ | refine kV hk ?_ (by simp [pureL, AV.pure, hp, h1, h2, h3, h4]) | refine kV ho ?_ (by simp [pureL, AV.pure, hp, h1, h2, h3, h4]) | refine bslP (by first | rfl | (simp [pureL, pureLL, AV.pure]; done) | fail) rfl ?_ | refine TakeC.full (by first | rfl | omega | (simp; done) | (simp; omega) | fail) ?_ | refine zBs ?_ | refine zBn ?_ | refine zBv rfl rfl ?_ | refine zN ?_ | refine zC ?_ | refine zC4 ?_ | refine zOr16 ?_ | refine zC1 ?_ | refine zByte ?_ | refine zMaxL ?_ | refine zMaxR ?_ | refine zMinL ?_ | refine zMinR ?_ | refine zShr ?_ | refine zC8 ?_ | refine zQ ?_ | refine zR ?_ | refine zS ?_ | refine zA ?_ | refine zM ?_ | refine xr rfl ?_ | refine ai rfl ?_ | refine condT ?_ | refine condF ?_ | refine condG1 ?_ | refine condG0 ?_ | refine cD ?_ | refine dD ?_ | refine cB ?_ | refine dB ?_ | refine cN ?_ | refine dN ?_ | refine cV ?_ | refine dV ?_ | refine cE ?_ | refine dE ?_ | refine condX0 ?_ | refine condX1 ?_ | refine condNot ?_ | refine condAnd ?_ | refine condOr ?_ | refine aO ?_ | refine aB ?_ | refine aR ?_ | refine aR ?_ (by simp; omega) | refine xr (by assumption) ?_ | refine ai (by assumption) ?_ | refine kN (put0_gives109 4 (u64 (ownS c p)) (by omega)) ?_ | refine kB [(114, _, _)] ⟨rfl, pz trivial⟩ ?_ | refine condD (fun h => ?_) (fun h => ?_) | refine condB (fun h => ?_) (fun h => ?_) | refine condN (fun h => ?_) (fun h => ?_) | refine condE (fun h => ?_) (fun h => ?_) | refine condV (fun h => ?_) (fun h => ?_))
      refine ev_frzk [(95, _, _)] [4] [68] ⟨rfl, (by first | rfl | (simp [Blk.pure, pureL, pureLL, AV.pure, *]; done) | fail), trivial⟩ ?_; repeat ((conv => whnf); first | refine And.intro (by first | rfl | omega | (simp [pureL, pureLL, AV.pure]; done) | (simp; omega) | (simp [pureL, pureLL, AV.pure, *]; done) | assumption | fail) ?_ | intro T H)
      refine ev_le [] [(68, some (_, .cells ((PMsg.enc { zeroM with kind := 1, version := 4, as := ownS c p, hold := p.hold, router := c.router, caps := [⟨2, []⟩, ⟨65, be 4 (u64 (ownS c p))⟩] }))))] trivial ⟨⟨rfl, (by repeat' (first | exact trivial | exact LeP.refl _ | exact LeP.nil _ | refine LeP.sl ?_ | refine ⟨?_, ?_⟩))⟩, trivial⟩ ?_
      (first | refine ev_fin (And.intro (by first | rfl | (simp [AV.pure, pureL]; done) | fail) ?_) | refine ev_fin0 (And.intro (by first | rfl | (simp [AV.pure, pureL]; done) | fail) ?_)); (conv => whnf); refine And.intro (by first | rfl | (simp [AV.pure, pureL, pureLL, *]; done) | fail) ?_
      rfl
end Go.AM.IR
set_option maxHeartbeats 4000000
set_option maxRecDepth 20000
namespace Go.AM.IR
end Go.AM.IR
