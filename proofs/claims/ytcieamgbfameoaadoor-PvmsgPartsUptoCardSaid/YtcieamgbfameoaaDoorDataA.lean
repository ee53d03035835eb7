/- What the functions of this program give, on the abstract machine. -/
import Derived.Test.YtcieamgbfameoaaDoorMachineC
import Derived.Test.YtcieamgbfameoaaDoorMachineB
set_option linter.unusedVariables false
set_option linter.unusedSimpArgs false
set_option maxRecDepth 100000
namespace Go.AM.IR
open Go Go.AM
def f190x0 : List AOper := [
  Op 2 (.box (.t 0)),
  Mc 4 (.bool false)]
def f190x1 : List AOper := [
  Ls 13 27 2,
  Ct 14 130 [13]]
def f190x2 : List AOper := [
  Ct 15 192 [],
  Mv 4 15]
def f190x3 : List AOper := [
  Ls 17 27 2,
  Mv 18 1,
  Ct 19 195 [17, 18],
  Mv 16 19,
  Ex 20 16 0,
  Ex 21 16 1,
  Mv 5 20,
  Mv 6 21]
def f190x4 : List AOper := [
  Mv 22 6,
  Bc 23 .neq 22 0]
def f190x5 : List AOper := [
  Ct 24 192 [],
  Mv 4 24]
def f190x6 : List AOper := [
  Mc 7 (.con (.slice none 0 0)),
  Mc 8 (.con (.slice none 0 0))]
def f190x7 : List AOper := [
  Mv 25 5,
  Ln 26 0 25,
  Mc 27 (.int .i64 0)]
def f190x8 : List AOper := [
  Bi 28 .lss 27 26]
def f190x9 : List AOper := [
  Ia 29 27 25 27,
  Ls 30 27 29,
  Op 10 (.alloc (.agg [.int .i64 0, .int .i64 0, .int .i64 0, .int .i64 0, .int .u32 0, .con (.slice none 0 0), .con (.slice none 0 0), .int .i64 0, .con (.slice none 0 0), .int .u32 0, .bool false, .int .i64 0, .bool false, .int .i64 0, .bool false, .bool false, .int .i64 0, .int .u32 0, .con (.slice none 0 0), .bool false, .int .u32 0, .con (.slice none 0 0), .con (.slice none 0 0), .con (.slice none 0 0), .int .i64 0, .int .i64 0, .con (.slice none 0 0)])),
  St 27 10 30]
def f190x10 : List AOper := [
  Ls 32 27 10,
  Mv 33 1,
  Ct 34 193 [32, 33],
  Mv 31 34,
  Ex 35 31 0,
  Ex 36 31 1,
  Mv 11 35,
  Mv 12 36]
def f190x11 : List AOper := [
  Mv 37 12,
  Bc 38 .neq 37 0,
  Mv 39 38,
  Gf 39 (Mv 40 11),
  Gf 39 (Ln 41 0 40),
  Gf 39 (Bc 42 .gtr 41 65535),
  Po 43 39 42]
def f190x12 : List AOper := [
  Mc 4 (.bool false)]
def f190x13 : List AOper := [
  Mv 44 7,
  Fa 45 6 10,
  Ld 46 45,
  Ap 47 2 16 44 46,
  Mv 7 47]
def f190x14 : List AOper := [
  Mv 48 8,
  Fa 49 23 10,
  Ld 50 49,
  Ap 51 2 16 48 50,
  Mv 8 51]
def f190x15 : List AOper := [
  Bc 52 .add 27 1,
  Mv 27 52]
def f190x16L : ACode := (.seq (.region f190x8 false) (.seq (.cond (.t 28) .skip (.exit 0)) (.seq (.block 1 (.seq (.region f190x9 false) (.seq (.seq (.region f190x10 false) (.seq (.region f190x11 false) (.cond (.t 43) (.seq (.region f190x12 false) .ret) .skip))) (.seq (.region f190x13 false) (.region f190x14 false))))) (.region f190x15 false))))
def f190x17 : List AOper := [
  Mv 53 5,
  Ln 54 0 53,
  Bc 55 .gtr 54 0,
  Mv 56 55,
  Gt 56 (Mv 57 7),
  Gt 56 (Fa 58 6 2),
  Gt 56 (Ld 59 58),
  Gt 56 (Ct 60 139 [57, 59]),
  Pa 61 56 60,
  Mv 62 61,
  Gt 62 (Mv 63 8),
  Gt 62 (Fa 64 23 2),
  Gt 62 (Ld 65 64),
  Gt 62 (Ct 66 139 [63, 65]),
  Pa 67 62 66,
  Mv 68 67,
  Gt 68 (Ct 69 192 []),
  Pa 70 68 69,
  Mv 4 70]
def f190 : AFunc := ⟨71, 2, false, [.t 4], (.seq (.region f190x0 false) (.seq (.seq (.region f190x1 false) (.cond (.t 14) (.seq (.region f190x2 false) .ret) .skip)) (.seq (.region f190x3 false) (.seq (.seq (.region f190x4 false) (.cond (.t 23) (.seq (.region f190x5 false) .ret) .skip)) (.seq (.region f190x6 false) (.seq (.seq (.region f190x7 false) (.block 0 (.loop f190x16L))) (.seq (.region f190x17 false) .ret)))))))⟩
def f190x16LH : List AItem := [.inLoop f190x16L, .inBlock 0, .code (.seq (.region f190x17 false) .ret)]
def f130x0 : List AOper := [
  Op 1 (.box (.t 0)),
  Mc 2 (.bool false)]
def f130x1 : List AOper := [
  Fa 3 7 1,
  Ls 4 16 3,
  Ct 5 21 [4],
  Mv 6 5,
  Gf 6 (Fa 7 6 1),
  Gf 6 (Ld 8 7),
  Gf 6 (Ln 9 0 8),
  Gf 6 (Bc 10 .gtr 9 30000),
  Po 11 6 10,
  Mv 12 11,
  Gf 12 (Fa 13 23 1),
  Gf 12 (Ld 14 13),
  Gf 12 (Ln 15 0 14),
  Gf 12 (Bc 16 .gtr 15 30000),
  Po 17 12 16,
  Mv 18 17,
  Gf 18 (Fa 19 5 1),
  Gf 18 (Ld 20 19),
  Gf 18 (Ln 21 0 20),
  Gf 18 (Bc 22 .gtr 21 400),
  Po 23 18 22,
  Mv 24 23,
  Gf 24 (Fa 25 26 1),
  Gf 24 (Ld 26 25),
  Gf 24 (Ln 27 0 26),
  Gf 24 (Bc 28 .gtr 27 70000),
  Po 29 24 28,
  Mv 2 29]
def f130 : AFunc := ⟨30, 1, false, [.t 2], (.seq (.region f130x0 false) (.seq (.region f130x1 false) .ret))⟩
def f192x0 : List AOper := [
  Mc 0 (.bool false)]
def f192x1 : List AOper := [
  Op 24 (.build [.int .i64 0, .int .i64 0, .int .i64 0, .int .i64 0, .int .u32 0, .con (.slice none 0 0), .con (.slice none 0 0), .int .i64 0, .con (.slice none 0 0), .int .u32 0, .bool false, .int .i64 0, .bool false, .int .i64 0, .bool false, .bool false, .int .i64 0, .int .u32 0, .con (.slice none 0 0), .bool false, .int .u32 0, .con (.slice none 0 0), .con (.slice none 0 0), .con (.slice none 0 0), .int .i64 0, .int .i64 0, .con (.slice none 0 0)] [(0, 1)] [(.c (.int .i64 4))]),
  Ca 25 193 [(.t 24), (.c (.bool true))],
  Mv 23 25,
  Ex 26 23 0,
  Ex 27 23 1,
  Mv 1 26,
  Mv 2 27]
def f192x2 : List AOper := [
  Op 29 (.build [.int .i64 0, .int .i64 0, .int .i64 0, .int .i64 0, .int .u32 0, .con (.slice none 0 0), .con (.slice none 0 0), .int .i64 0, .con (.slice none 0 0), .int .u32 0, .bool false, .int .i64 0, .bool false, .int .i64 0, .bool false, .bool false, .int .i64 0, .int .u32 0, .con (.slice none 0 0), .bool false, .int .u32 0, .con (.slice none 0 0), .con (.slice none 0 0), .con (.slice none 0 0), .int .i64 0, .int .i64 0, .con (.slice none 0 0)] [(0, 1)] [(.c (.int .i64 2))]),
  Ca 30 193 [(.t 29), (.c (.bool true))],
  Mv 28 30,
  Ex 31 28 0,
  Ex 32 28 1,
  Mv 3 31,
  Mv 4 32]
def f192x3 : List AOper := [
  Mv 33 2,
  Bc 34 .neq 33 0,
  Mv 35 34,
  Gf 35 (Mv 36 4),
  Gf 35 (Bc 37 .neq 36 0),
  Po 38 35 37,
  Mv 39 38,
  Gf 39 (Mv 40 1),
  Gf 39 (Ln 41 0 40),
  Gf 39 (Bc 42 .neq 41 19),
  Po 43 39 42,
  Mv 44 43,
  Gf 44 (Mv 45 1),
  Gf 44 (Op 46 (.iadr 1 (.t 45) (.c (.int .i64 17)))),
  Gf 44 (Ld 47 46),
  Gf 44 (Op 48 (.bin .neq (.t 47) (.c (.int .u8 19)))),
  Po 49 44 48,
  Mv 50 49,
  Gf 50 (Mv 51 1),
  Gf 50 (Op 52 (.iadr 1 (.t 51) (.c (.int .i64 18)))),
  Gf 50 (Ld 53 52),
  Gf 50 (Op 54 (.bin .neq (.t 53) (.c (.int .u8 4)))),
  Po 55 50 54,
  Mv 56 55,
  Gf 56 (Mv 57 3),
  Gf 56 (Ln 58 0 57),
  Gf 56 (Bc 59 .neq 58 23),
  Po 60 56 59,
  Mv 61 60,
  Gf 61 (Mv 62 3),
  Gf 61 (Op 63 (.iadr 1 (.t 62) (.c (.int .i64 18)))),
  Gf 61 (Ld 64 63),
  Gf 61 (Op 65 (.bin .neq (.t 64) (.c (.int .u8 2)))),
  Po 66 61 65]
def f192x4 : List AOper := [
  Mc 0 (.bool false)]
def f192x5 : List AOper := [
  Op 67 (.bsl 1 [.int .u8 0] 0 [] []),
  Mv 68 1,
  Ap 69 1 1 67 68,
  Mv 5 69]
def f192x6 : List AOper := [
  Mv 70 5,
  Op 71 (.bsl 1 [.int .u8 0] 1 [0] [(.c (.int .u8 7))]),
  Ap 72 1 1 70 71,
  Mv 5 72]
def f192x7 : List AOper := [
  Mv 74 5,
  Ca 75 194 [(.t 74), (.c (.bool true))],
  Mv 73 75,
  Ex 76 73 0,
  Ex 77 73 1,
  Ex 78 73 2,
  Ex 79 73 3,
  Op 6 (.alloc (.agg [.int .i64 0, .int .i64 0, .int .i64 0, .int .i64 0, .int .u32 0, .con (.slice none 0 0), .con (.slice none 0 0), .int .i64 0, .con (.slice none 0 0), .int .u32 0, .bool false, .int .i64 0, .bool false, .int .i64 0, .bool false, .bool false, .int .i64 0, .int .u32 0, .con (.slice none 0 0), .bool false, .int .u32 0, .con (.slice none 0 0), .con (.slice none 0 0), .con (.slice none 0 0), .int .i64 0, .int .i64 0, .con (.slice none 0 0)])),
  Op 8 (.alloc (.agg [.int .i64 0, .int .i64 0, .int .i64 0, .int .i64 0, .int .u32 0, .con (.slice none 0 0), .con (.slice none 0 0), .int .i64 0, .con (.slice none 0 0), .int .u32 0, .bool false, .int .i64 0, .bool false, .int .i64 0, .bool false, .bool false, .int .i64 0, .int .u32 0, .con (.slice none 0 0), .bool false, .int .u32 0, .con (.slice none 0 0), .con (.slice none 0 0), .con (.slice none 0 0), .int .i64 0, .int .i64 0, .con (.slice none 0 0)])),
  St 27 6 76,
  Mv 7 77,
  St 27 8 78,
  Mv 9 79]
def f192x8 : List AOper := [
  Mv 81 3,
  Op 82 (.slc 1 (.t 81) (some (.c (.int .i64 1))) none none),
  Ca 83 194 [(.t 82), (.c (.bool true))],
  Mv 80 83,
  Ex 84 80 0,
  Ex 85 80 1,
  Ex 86 80 2,
  Ex 87 80 3,
  Op 10 (.alloc (.agg [.int .i64 0, .int .i64 0, .int .i64 0, .int .i64 0, .int .u32 0, .con (.slice none 0 0), .con (.slice none 0 0), .int .i64 0, .con (.slice none 0 0), .int .u32 0, .bool false, .int .i64 0, .bool false, .int .i64 0, .bool false, .bool false, .int .i64 0, .int .u32 0, .con (.slice none 0 0), .bool false, .int .u32 0, .con (.slice none 0 0), .con (.slice none 0 0), .con (.slice none 0 0), .int .i64 0, .int .i64 0, .con (.slice none 0 0)])),
  Op 12 (.alloc (.agg [.int .i64 0, .int .i64 0, .int .i64 0, .int .i64 0, .int .u32 0, .con (.slice none 0 0), .con (.slice none 0 0), .int .i64 0, .con (.slice none 0 0), .int .u32 0, .bool false, .int .i64 0, .bool false, .int .i64 0, .bool false, .bool false, .int .i64 0, .int .u32 0, .con (.slice none 0 0), .bool false, .int .u32 0, .con (.slice none 0 0), .con (.slice none 0 0), .con (.slice none 0 0), .int .i64 0, .int .i64 0, .con (.slice none 0 0)])),
  St 27 10 84,
  Mv 11 85,
  St 27 12 86,
  Mv 13 87]
def f192x9 : List AOper := [
  Op 89 (.mksl 1 1 [.int .u8 0] (.c (.int .i64 19)) (.c (.int .i64 19))),
  Ca 90 194 [(.t 89), (.c (.bool true))],
  Mv 88 90,
  Ex 91 88 0,
  Ex 92 88 1,
  Ex 93 88 2,
  Ex 94 88 3,
  Op 14 (.alloc (.agg [.int .i64 0, .int .i64 0, .int .i64 0, .int .i64 0, .int .u32 0, .con (.slice none 0 0), .con (.slice none 0 0), .int .i64 0, .con (.slice none 0 0), .int .u32 0, .bool false, .int .i64 0, .bool false, .int .i64 0, .bool false, .bool false, .int .i64 0, .int .u32 0, .con (.slice none 0 0), .bool false, .int .u32 0, .con (.slice none 0 0), .con (.slice none 0 0), .con (.slice none 0 0), .int .i64 0, .int .i64 0, .con (.slice none 0 0)])),
  Op 16 (.alloc (.agg [.int .i64 0, .int .i64 0, .int .i64 0, .int .i64 0, .int .u32 0, .con (.slice none 0 0), .con (.slice none 0 0), .int .i64 0, .con (.slice none 0 0), .int .u32 0, .bool false, .int .i64 0, .bool false, .int .i64 0, .bool false, .bool false, .int .i64 0, .int .u32 0, .con (.slice none 0 0), .bool false, .int .u32 0, .con (.slice none 0 0), .con (.slice none 0 0), .con (.slice none 0 0), .int .i64 0, .int .i64 0, .con (.slice none 0 0)])),
  St 27 14 91,
  Mv 15 92,
  St 27 16 93,
  Mv 17 94]
def f192x10 : List AOper := [
  Mv 95 9,
  Bc 96 .neq 95 0,
  Mv 97 96,
  Gf 97 (Mv 98 7),
  Gf 97 (Bc 99 .neq 98 19),
  Po 100 97 99,
  Mv 101 100,
  Gf 101 (Fa 102 0 6),
  Gf 101 (Ld 103 102),
  Gf 101 (Bc 104 .neq 103 4),
  Po 105 101 104,
  Mv 106 105,
  Gf 106 (Mv 107 13),
  Gf 106 (Bc 108 .neq 107 2),
  Gf 106 (Mv 109 108),
  Gt 109 (Mv 110 13),
  Gt 109 (Bc 111 .neq 110 3),
  Gf 106 (Pa 112 109 111),
  Po 113 106 112,
  Mv 114 113,
  Gf 114 (Fa 115 0 12),
  Gf 114 (Ld 116 115),
  Gf 114 (Bc 117 .neq 116 3),
  Po 118 114 117,
  Mv 119 118,
  Gf 119 (Mv 120 17),
  Gf 119 (Bc 121 .neq 120 2),
  Po 122 119 121,
  Mv 123 122,
  Gf 123 (Fa 124 24 16),
  Gf 123 (Ld 125 124),
  Gf 123 (Bc 126 .neq 125 1),
  Po 127 123 126,
  Mv 128 127,
  Gf 128 (Fa 129 25 16),
  Gf 128 (Ld 130 129),
  Gf 128 (Bc 131 .neq 130 1),
  Po 132 128 131]
def f192x11 : List AOper := [
  Mc 0 (.bool false)]
def f192x12 : List AOper := [
  Op 133 (.build [.int .u32 0, .int .i64 0] [(0, 1), (1, 1)] [(.c (.int .u32 167837696)), (.c (.int .i64 20))]),
  Op 134 (.bsl 2 [.int .u32 0, .int .i64 0] 1 [0] [(.t 133)]),
  Op 135 (.build [.int .i64 0, .int .i64 0, .int .i64 0, .int .i64 0, .int .u32 0, .con (.slice none 0 0), .con (.slice none 0 0), .int .i64 0, .con (.slice none 0 0), .int .u32 0, .bool false, .int .i64 0, .bool false, .int .i64 0, .bool false, .bool false, .int .i64 0, .int .u32 0, .con (.slice none 0 0), .bool false, .int .u32 0, .con (.slice none 0 0), .con (.slice none 0 0), .con (.slice none 0 0), .int .i64 0, .int .i64 0, .con (.slice none 0 0)] [(0, 1), (6, 1)] [(.c (.int .i64 2)), (.t 134)]),
  Op 18 (.alloc (.agg [.int .i64 0, .int .i64 0, .int .i64 0, .int .i64 0, .int .u32 0, .con (.slice none 0 0), .con (.slice none 0 0), .int .i64 0, .con (.slice none 0 0), .int .u32 0, .bool false, .int .i64 0, .bool false, .int .i64 0, .bool false, .bool false, .int .i64 0, .int .u32 0, .con (.slice none 0 0), .bool false, .int .u32 0, .con (.slice none 0 0), .con (.slice none 0 0), .con (.slice none 0 0), .int .i64 0, .int .i64 0, .con (.slice none 0 0)])),
  St 27 18 135]
def f192x13 : List AOper := [
  Ls 137 27 18,
  Ca 138 193 [(.t 137), (.c (.bool false))],
  Mv 136 138,
  Ex 139 136 0,
  Ex 140 136 1,
  Mv 19 139,
  Mv 20 140]
def f192x14 : List AOper := [
  Ls 142 27 18,
  Ca 143 195 [(.t 142), (.c (.bool false))],
  Mv 141 143,
  Ex 144 141 0,
  Ex 145 141 1,
  Mv 21 144,
  Mv 22 145]
def f192x15 : List AOper := [
  Mv 146 20,
  Bc 147 .eql 146 0,
  Mv 148 147,
  Gt 148 (Mv 149 19),
  Gt 148 (Ln 150 0 149),
  Gt 148 (Bc 151 .eql 150 27),
  Pa 152 148 151,
  Mv 153 152,
  Gt 153 (Mv 154 19),
  Af [4] (Gt 153 (Op 155 (.iadr 1 (.t 154) (.c (.int .i64 21))))),
  Af [9, 4] (Gt 153 (Ld 156 155)),
  Gt 153 (Op 157 (.bin .eql (.t 156) (.c (.int .u8 20)))),
  Pa 158 153 157,
  Mv 159 158,
  Gt 159 (Mv 160 19),
  Af [10, 9, 4] (Gt 159 (Op 161 (.iadr 1 (.t 160) (.c (.int .i64 24))))),
  Af [15, 10, 9, 4] (Gt 159 (Ld 162 161)),
  Gt 159 (Op 163 (.bin .eql (.t 162) (.c (.int .u8 0)))),
  Pa 164 159 163,
  Mv 165 164,
  Gt 165 (Mv 166 22),
  Gt 165 (Bc 167 .eql 166 0),
  Pa 168 165 167,
  Mv 169 168,
  Gt 169 (Mv 170 21),
  Af [16, 15, 10, 9, 4] (Gt 169 (Ln 171 0 170)),
  Gt 169 (Bc 172 .eql 171 1),
  Pa 173 169 172,
  Mv 174 173,
  Gt 174 (Mv 175 21),
  Af [25, 16, 15, 10, 9, 4] (Gt 174 (Op 176 (.iadr 27 (.t 175) (.c (.int .i64 0))))),
  Af [30, 25, 16, 15, 10, 9, 4] (Gt 174 (Ls 177 27 176)),
  Af [25, 16, 15, 10, 9, 4] (Gt 174 (Ls 178 27 18)),
  Af [31, 32, 30, 25, 16, 15, 10, 9, 4] (Gt 174 (Ct 179 156 [177, 178])),
  Pa 180 174 179,
  Mv 181 180,
  Af [33, 31, 32, 30, 25, 16, 15, 10, 9, 4] (Gt 181 (Ls 182 27 18)),
  Af [33, 31, 32, 30, 25, 16, 15, 10, 9, 4] (Gt 181 (Ls 183 27 6)),
  Af [36, 37, 33, 31, 32, 30, 25, 16, 15, 10, 9, 4] (Gt 181 (Ct 184 156 [182, 183])),
  Gt 181 (Un 185 .not 184),
  Pa 186 181 185,
  Mv 187 186,
  Af [38, 36, 37, 33, 31, 32, 30, 25, 16, 15, 10, 9, 4] (Gt 187 (Ls 188 27 18)),
  Af [42, 38, 36, 37, 33, 31, 32, 30, 25, 16, 15, 10, 9, 4] (Gt 187 (Ct 189 144 [188])),
  Gt 187 (Bc 190 .eql 189 0),
  Pa 191 187 190,
  Mv 192 191,
  Gt 192 (Op 193 (.build [.int .i64 0, .int .i64 0, .int .i64 0, .int .i64 0, .int .u32 0, .con (.slice none 0 0), .con (.slice none 0 0), .int .i64 0, .con (.slice none 0 0), .int .u32 0, .bool false, .int .i64 0, .bool false, .int .i64 0, .bool false, .bool false, .int .i64 0, .int .u32 0, .con (.slice none 0 0), .bool false, .int .u32 0, .con (.slice none 0 0), .con (.slice none 0 0), .con (.slice none 0 0), .int .i64 0, .int .i64 0, .con (.slice none 0 0)] [] [])),
  Af [43, 42, 38, 36, 37, 33, 31, 32, 30, 25, 16, 15, 10, 9, 4] (Gt 192 (Ct 194 144 [193])),
  Gt 192 (Bc 195 .eql 194 15),
  Pa 196 192 195,
  Mv 0 196]
def f192 : AFunc := ⟨197, 0, false, [.t 0], (.seq (.region f192x0 false) (.seq (.region f192x1 false) (.seq (.region f192x2 false) (.seq (.seq (.region f192x3 false) (.cond (.t 66) (.seq (.region f192x4 false) .ret) .skip)) (.seq (.region f192x5 false) (.seq (.region f192x6 false) (.seq (.region f192x7 false) (.seq (.region f192x8 false) (.seq (.region f192x9 false) (.seq (.seq (.region f192x10 false) (.cond (.t 132) (.seq (.region f192x11 false) .ret) .skip)) (.seq (.region f192x12 false) (.seq (.region f192x13 false) (.seq (.region f192x14 false) (.seq (.region f192x15 true) .ret))))))))))))))⟩
def f144x0 : List AOper := [
  Op 1 (.box (.t 0)),
  Mc 2 (.int .i64 0)]
def f144x1 : List AOper := [
  Fa 3 0 1,
  Ld 4 3,
  Bc 5 .lss 4 1,
  Mv 6 5,
  Gf 6 (Fa 7 0 1),
  Gf 6 (Ld 8 7),
  Gf 6 (Bc 9 .gtr 8 5),
  Po 10 6 9]
def f144x2 : List AOper := [
  Mc 2 (.int .i64 15)]
def f144x3 : List AOper := [
  Ls 11 27 1,
  Ls 12 27 1,
  Af [1] (Ct 13 157 [12]),
  Af [0, 2, 1] (Ct 14 156 [11, 13]),
  Un 15 .not 14]
def f144x4 : List AOper := [
  Mc 2 (.int .i64 1)]
def f144x5 : List AOper := [
  Fa 16 0 1,
  Ld 17 16]
def f144x6 : List AOper := [
  Bc 19 .eql 17 1,
  Mv 18 19]
def f144x7 : List AOper := [
  Ls 20 27 1,
  Ct 21 158 [20],
  Mv 2 21]
def f144x8 : List AOper := [
  Bc 23 .eql 17 2,
  Mv 22 23]
def f144x9 : List AOper := [
  Ls 24 27 1,
  Ct 25 159 [24],
  Mv 2 25]
def f144x10 : List AOper := [
  Bc 27 .eql 17 3,
  Mv 26 27]
def f144x11 : List AOper := [
  Fa 29 24 1,
  Ld 30 29,
  Bc 31 .lss 30 1,
  Mv 32 31,
  Gf 32 (Fa 33 24 1),
  Gf 32 (Ld 34 33),
  Gf 32 (Bc 35 .gtr 34 6),
  Po 36 32 35,
  Mv 37 36,
  Gf 37 (Fa 38 25 1),
  Gf 37 (Ld 39 38),
  Gf 37 (Bc 40 .lss 39 0),
  Po 41 37 40,
  Mv 42 41,
  Gf 42 (Fa 43 25 1),
  Gf 42 (Ld 44 43),
  Gf 42 (Bc 45 .gtr 44 255),
  Po 46 42 45,
  Mv 28 46]
def f144x12 : List AOper := [
  Mc 2 (.int .i64 5)]
def f144x13 : List AOper := [
  Fa 48 26 1,
  Ld 49 48,
  Ln 50 0 49,
  Bc 51 .gtr 50 65514,
  Mv 47 51]
def f144x14 : List AOper := [
  Mc 2 (.int .i64 4)]
def f144x15 : List AOper := [
  Mc 2 (.int .i64 0)]
def f144 : AFunc := ⟨52, 1, false, [.t 2], (.seq (.region f144x0 false) (.seq (.seq (.region f144x1 false) (.cond (.t 10) (.seq (.region f144x2 false) .ret) .skip)) (.seq (.seq (.region f144x3 true) (.cond (.t 15) (.seq (.region f144x4 false) .ret) .skip)) (.seq (.seq (.region f144x5 false) (.block 0 (.seq (.region f144x6 false) (.cond (.t 18) (.seq (.region f144x7 false) .ret) (.seq (.region f144x8 false) (.cond (.t 22) (.seq (.region f144x9 false) .ret) (.seq (.region f144x10 false) (.cond (.t 26) (.block 1 (.seq (.region f144x11 false) (.cond (.t 28) (.seq (.region f144x12 false) .ret) (.seq (.region f144x13 false) (.cond (.t 47) (.seq (.region f144x14 false) .ret) .skip))))) .skip)))))))) (.seq (.region f144x15 false) .ret)))))⟩
def f193x0 : List AOper := [
  Op 2 (.box (.t 0)),
  Mc 4 (.con (.slice none 0 0)),
  Mc 5 (.int .i64 0)]
def f193x1 : List AOper := [
  Ls 12 27 2,
  Ct 13 144 [12],
  Mv 6 13]
def f193x2 : List AOper := [
  Mv 14 6,
  Bc 15 .neq 14 0]
def f193x3 : List AOper := [
  Mv 16 6,
  Mc 4 (.con (.slice none 0 0)),
  Mv 5 16]
def f193x4 : List AOper := [
  Mc 7 (.con (.slice none 0 0))]
def f193x5 : List AOper := [
  Fa 17 0 2,
  Ld 18 17]
def f193x6 : List AOper := [
  Bc 20 .eql 18 1,
  Mv 19 20]
def f193x7 : List AOper := [
  Ls 21 27 2,
  Ct 22 196 [21],
  Mv 7 22]
def f193x8 : List AOper := [
  Bc 24 .eql 18 2,
  Mv 23 24]
def f193x9 : List AOper := [
  Ls 26 27 2,
  Mv 27 1,
  Ct 28 197 [26, 27],
  Mv 25 28,
  Ex 29 25 0,
  Ex 30 25 1,
  Mv 8 29,
  Mv 9 30]
def f193x10 : List AOper := [
  Mv 31 9,
  Bc 32 .neq 31 0]
def f193x11 : List AOper := [
  Mv 33 9,
  Mc 4 (.con (.slice none 0 0)),
  Mv 5 33]
def f193x12 : List AOper := [
  Mv 34 8,
  Mv 7 34]
def f193x13 : List AOper := [
  Bc 36 .eql 18 3,
  Mv 35 36]
def f193x14 : List AOper := [
  Fa 37 24 2,
  Ld 38 37,
  Cv 39 .u8 38,
  Fa 40 25 2,
  Ld 41 40,
  Cv 42 .u8 41,
  Op 43 (.bsl 1 [.int .u8 0] 2 [0, 1] [(.t 39), (.t 42)]),
  Fa 44 26 2,
  Ld 45 44,
  Ap 46 1 1 43 45,
  Mv 7 46]
def f193x15 : List AOper := [
  Bc 48 .eql 18 5,
  Mv 47 48]
def f193x16 : List AOper := [
  Op 49 (.bsl 1 [.int .u8 0] 4 [0, 1, 2, 3] [(.c (.int .u8 0)), (.c (.int .u8 1)), (.c (.int .u8 0)), (.c (.int .u8 1))]),
  Mv 7 49]
def f193x17 : List AOper := [
  Mv 50 7,
  Ln 51 0 50,
  Op 52 (.bin .add (.c (.int .i64 19)) (.t 51)),
  Bc 53 .gtr 52 65535]
def f193x18 : List AOper := [
  Mc 4 (.con (.slice none 0 0)),
  Mc 5 (.int .i64 4)]
def f193x19 : List AOper := [
  Mv 54 7,
  Ln 55 0 54,
  Op 56 (.bin .add (.c (.int .i64 19)) (.t 55)),
  Op 57 (.mksl 1 1 [.int .u8 0] (.c (.int .i64 16)) (.t 56)),
  Mv 10 57]
def f193x20 : List AOper := [
  Mv 58 10,
  Ln 59 0 58,
  Mc 60 (.int .i64 0)]
def f193x21 : List AOper := [
  Bi 61 .lss 60 59]
def f193x22 : List AOper := [
  Mv 62 60,
  Mv 11 62]
def f193x23 : List AOper := [
  Mv 63 10,
  Mv 64 11,
  Ia 65 1 63 64,
  ⟨none, .store 1 (.t 65) (.c (.int .u8 255)), none, []⟩]
def f193x24 : List AOper := [
  Bc 66 .add 60 1,
  Mv 60 66]
def f193x25L : ACode := (.seq (.region f193x21 false) (.seq (.cond (.t 61) .skip (.exit 1)) (.seq (.block 2 (.seq (.region f193x22 false) (.region f193x23 false))) (.region f193x24 false))))
def f193x26 : List AOper := [
  Mv 67 10,
  Mv 68 7,
  Ln 69 0 68,
  Op 70 (.bin .add (.c (.int .i64 19)) (.t 69)),
  Cv 71 .u64 70,
  Ca 72 109 [(.t 67), (.c (.int .i64 2)), (.t 71)],
  Mv 10 72]
def f193x27 : List AOper := [
  Mv 73 10,
  Fa 74 0 2,
  Ld 75 74,
  Cv 76 .u8 75,
  Op 77 (.bsl 1 [.int .u8 0] 1 [0] [(.t 76)]),
  Ap 78 1 1 73 77,
  Mv 10 78]
def f193x28 : List AOper := [
  Mv 79 10,
  Mv 80 7,
  Ap 81 1 1 79 80,
  Mv 4 81,
  Mc 5 (.int .i64 0)]
def f193 : AFunc := ⟨82, 2, false, [.t 4, .t 5], (.seq (.region f193x0 false) (.seq (.seq (.region f193x1 false) (.seq (.region f193x2 false) (.cond (.t 15) (.seq (.region f193x3 false) .ret) .skip))) (.seq (.region f193x4 false) (.seq (.seq (.region f193x5 false) (.block 0 (.seq (.region f193x6 false) (.cond (.t 19) (.region f193x7 false) (.seq (.region f193x8 false) (.cond (.t 23) (.seq (.region f193x9 false) (.seq (.seq (.region f193x10 false) (.cond (.t 32) (.seq (.region f193x11 false) .ret) .skip)) (.region f193x12 false))) (.seq (.region f193x13 false) (.cond (.t 35) (.region f193x14 false) (.seq (.region f193x15 false) (.cond (.t 47) (.region f193x16 false) .skip)))))))))) (.seq (.seq (.region f193x17 false) (.cond (.t 53) (.seq (.region f193x18 false) .ret) .skip)) (.seq (.region f193x19 false) (.seq (.seq (.region f193x20 false) (.block 1 (.loop f193x25L))) (.seq (.region f193x26 false) (.seq (.region f193x27 false) (.seq (.region f193x28 false) .ret))))))))))⟩
def f193x25LH : List AItem := [.inLoop f193x25L, .inBlock 1, .code (.seq (.region f193x26 false) (.seq (.region f193x27 false) (.seq (.region f193x28 false) .ret)))]
def f194x0 : List AOper := [
  Op 4 (.alloc (.agg [.int .i64 0, .int .i64 0, .int .i64 0, .int .i64 0, .int .u32 0, .con (.slice none 0 0), .con (.slice none 0 0), .int .i64 0, .con (.slice none 0 0), .int .u32 0, .bool false, .int .i64 0, .bool false, .int .i64 0, .bool false, .bool false, .int .i64 0, .int .u32 0, .con (.slice none 0 0), .bool false, .int .u32 0, .con (.slice none 0 0), .con (.slice none 0 0), .con (.slice none 0 0), .int .i64 0, .int .i64 0, .con (.slice none 0 0)])),
  Mc 5 (.int .i64 0),
  Op 6 (.alloc (.agg [.int .i64 0, .int .i64 0, .int .i64 0, .int .i64 0, .int .u32 0, .con (.slice none 0 0), .con (.slice none 0 0), .int .i64 0, .con (.slice none 0 0), .int .u32 0, .bool false, .int .i64 0, .bool false, .int .i64 0, .bool false, .bool false, .int .i64 0, .int .u32 0, .con (.slice none 0 0), .bool false, .int .u32 0, .con (.slice none 0 0), .con (.slice none 0 0), .con (.slice none 0 0), .int .i64 0, .int .i64 0, .con (.slice none 0 0)])),
  Mc 7 (.int .i64 0)]
def f194x1 : List AOper := [
  Mv 15 0,
  Ln 16 0 15,
  Bc 17 .lss 16 19]
def f194x2 : List AOper := [
  Op 18 (.build [.int .i64 0, .int .i64 0, .int .i64 0, .int .i64 0, .int .u32 0, .con (.slice none 0 0), .con (.slice none 0 0), .int .i64 0, .con (.slice none 0 0), .int .u32 0, .bool false, .int .i64 0, .bool false, .int .i64 0, .bool false, .bool false, .int .i64 0, .int .u32 0, .con (.slice none 0 0), .bool false, .int .u32 0, .con (.slice none 0 0), .con (.slice none 0 0), .con (.slice none 0 0), .int .i64 0, .int .i64 0, .con (.slice none 0 0)] [] []),
  Op 19 (.build [.int .i64 0, .int .i64 0, .int .i64 0, .int .i64 0, .int .u32 0, .con (.slice none 0 0), .con (.slice none 0 0), .int .i64 0, .con (.slice none 0 0), .int .u32 0, .bool false, .int .i64 0, .bool false, .int .i64 0, .bool false, .bool false, .int .i64 0, .int .u32 0, .con (.slice none 0 0), .bool false, .int .u32 0, .con (.slice none 0 0), .con (.slice none 0 0), .con (.slice none 0 0), .int .i64 0, .int .i64 0, .con (.slice none 0 0)] [] []),
  St 27 4 18,
  Mc 5 (.int .i64 0),
  St 27 6 19,
  Mc 7 (.int .i64 3)]
def f194x3 : List AOper := [
  Mv 20 0,
  Op 21 (.slc 1 (.t 20) none (some (.c (.int .i64 16))) none),
  Ln 22 0 21,
  Mc 23 (.int .i64 0)]
def f194x4 : List AOper := [
  Bi 24 .lss 23 22]
def f194x5 : List AOper := [
  Ia 25 1 21 23,
  Ld 26 25,
  Mv 9 26]
def f194x6 : List AOper := [
  Mv 27 9,
  Op 28 (.bin .neq (.t 27) (.c (.int .u8 255)))]
def f194x7 : List AOper := [
  Op 29 (.build [.int .i64 0, .int .i64 0, .int .i64 0, .int .i64 0, .int .u32 0, .con (.slice none 0 0), .con (.slice none 0 0), .int .i64 0, .con (.slice none 0 0), .int .u32 0, .bool false, .int .i64 0, .bool false, .int .i64 0, .bool false, .bool false, .int .i64 0, .int .u32 0, .con (.slice none 0 0), .bool false, .int .u32 0, .con (.slice none 0 0), .con (.slice none 0 0), .con (.slice none 0 0), .int .i64 0, .int .i64 0, .con (.slice none 0 0)] [] []),
  Ca 30 198 [(.c (.int .i64 1)), (.c (.int .i64 1)), (.c (.con (.slice none 0 0)))],
  St 27 4 29,
  Mc 5 (.int .i64 0),
  St 27 6 30,
  Mc 7 (.int .i64 2)]
def f194x8 : List AOper := [
  Bc 31 .add 23 1,
  Mv 23 31]
def f194x9L : ACode := (.seq (.region f194x4 false) (.seq (.cond (.t 24) .skip (.exit 0)) (.seq (.block 1 (.seq (.region f194x5 false) (.seq (.region f194x6 false) (.cond (.t 28) (.seq (.region f194x7 false) .ret) .skip)))) (.region f194x8 false))))
def f194x10 : List AOper := [
  Mv 33 0,
  Ca 34 110 [(.t 33), (.c (.int .i64 16)), (.c (.int .i64 2))],
  Mv 32 34,
  Ex 35 32 0,
  Ex 36 32 1,
  Mv 10 35,
  Mv 11 36]
def f194x11 : List AOper := [
  Mv 37 10,
  Cv 38 .i64 37,
  Mv 5 38]
def f194x12 : List AOper := [
  Mv 39 0,
  Op 40 (.iadr 1 (.t 39) (.c (.int .i64 18))),
  Ld 41 40,
  Cv 42 .i64 41,
  Mv 12 42]
def f194x13 : List AOper := [
  Mv 43 0,
  Op 44 (.iadr 1 (.t 43) (.c (.int .i64 16))),
  Af [1] (Ld 45 44),
  Mv 46 0,
  Op 47 (.iadr 1 (.t 46) (.c (.int .i64 17))),
  Af [4] (Ld 48 47),
  Af [2, 5, 1, 4] (Op 49 (.bsl 1 [.int .u8 0] 2 [0, 1] [(.t 45), (.t 48)])),
  Af [6, 2, 5, 1, 4] (Ca 50 198 [(.c (.int .i64 1)), (.c (.int .i64 2)), (.t 49)]),
  Op 13 (.alloc (.agg [.int .i64 0, .int .i64 0, .int .i64 0, .int .i64 0, .int .u32 0, .con (.slice none 0 0), .con (.slice none 0 0), .int .i64 0, .con (.slice none 0 0), .int .u32 0, .bool false, .int .i64 0, .bool false, .int .i64 0, .bool false, .bool false, .int .i64 0, .int .u32 0, .con (.slice none 0 0), .bool false, .int .u32 0, .con (.slice none 0 0), .con (.slice none 0 0), .con (.slice none 0 0), .int .i64 0, .int .i64 0, .con (.slice none 0 0)])),
  Af [7, 8, 6, 2, 5, 1, 4] (St 27 13 50)]
def f194x14 : List AOper := [
  Mv 52 5,
  Bc 53 .lss 52 19,
  Mv 51 53]
def f194x15 : List AOper := [
  Op 54 (.build [.int .i64 0, .int .i64 0, .int .i64 0, .int .i64 0, .int .u32 0, .con (.slice none 0 0), .con (.slice none 0 0), .int .i64 0, .con (.slice none 0 0), .int .u32 0, .bool false, .int .i64 0, .bool false, .int .i64 0, .bool false, .bool false, .int .i64 0, .int .u32 0, .con (.slice none 0 0), .bool false, .int .u32 0, .con (.slice none 0 0), .con (.slice none 0 0), .con (.slice none 0 0), .int .i64 0, .int .i64 0, .con (.slice none 0 0)] [] []),
  Ls 55 27 13,
  St 27 4 54,
  Mc 5 (.int .i64 0),
  Af [1, 2] (St 27 6 55),
  Mc 7 (.int .i64 2)]
def f194x16 : List AOper := [
  Mv 57 12,
  Bc 58 .lss 57 1,
  Mv 59 58,
  Gf 59 (Mv 60 12),
  Gf 59 (Bc 61 .gtr 60 5),
  Po 62 59 61,
  Mv 56 62]
def f194x17 : List AOper := [
  Op 63 (.build [.int .i64 0, .int .i64 0, .int .i64 0, .int .i64 0, .int .u32 0, .con (.slice none 0 0), .con (.slice none 0 0), .int .i64 0, .con (.slice none 0 0), .int .u32 0, .bool false, .int .i64 0, .bool false, .int .i64 0, .bool false, .bool false, .int .i64 0, .int .u32 0, .con (.slice none 0 0), .bool false, .int .u32 0, .con (.slice none 0 0), .con (.slice none 0 0), .con (.slice none 0 0), .int .i64 0, .int .i64 0, .con (.slice none 0 0)] [] []),
  Mv 64 0,
  Op 65 (.iadr 1 (.t 64) (.c (.int .i64 18))),
  Ld 66 65,
  Op 67 (.bsl 1 [.int .u8 0] 1 [0] [(.t 66)]),
  Ca 68 198 [(.c (.int .i64 1)), (.c (.int .i64 3)), (.t 67)],
  St 27 4 63,
  Mc 5 (.int .i64 0),
  St 27 6 68,
  Mc 7 (.int .i64 15)]
def f194x18 : List AOper := [
  Mv 70 12,
  Mv 71 5,
  Ct 72 199 [70, 71],
  Mv 69 72]
def f194x19 : List AOper := [
  Op 73 (.build [.int .i64 0, .int .i64 0, .int .i64 0, .int .i64 0, .int .u32 0, .con (.slice none 0 0), .con (.slice none 0 0), .int .i64 0, .con (.slice none 0 0), .int .u32 0, .bool false, .int .i64 0, .bool false, .int .i64 0, .bool false, .bool false, .int .i64 0, .int .u32 0, .con (.slice none 0 0), .bool false, .int .u32 0, .con (.slice none 0 0), .con (.slice none 0 0), .con (.slice none 0 0), .int .i64 0, .int .i64 0, .con (.slice none 0 0)] [] []),
  Ls 74 27 13,
  St 27 4 73,
  Mc 5 (.int .i64 0),
  Af [1, 2] (St 27 6 74),
  Mc 7 (.int .i64 2)]
def f194x20 : List AOper := [
  Mv 76 0,
  Ln 77 0 76,
  Mv 78 5,
  Bi 79 .lss 77 78,
  Mv 75 79]
def f194x21 : List AOper := [
  Op 80 (.build [.int .i64 0, .int .i64 0, .int .i64 0, .int .i64 0, .int .u32 0, .con (.slice none 0 0), .con (.slice none 0 0), .int .i64 0, .con (.slice none 0 0), .int .u32 0, .bool false, .int .i64 0, .bool false, .int .i64 0, .bool false, .bool false, .int .i64 0, .int .u32 0, .con (.slice none 0 0), .bool false, .int .u32 0, .con (.slice none 0 0), .con (.slice none 0 0), .con (.slice none 0 0), .int .i64 0, .int .i64 0, .con (.slice none 0 0)] [] []),
  Op 81 (.build [.int .i64 0, .int .i64 0, .int .i64 0, .int .i64 0, .int .u32 0, .con (.slice none 0 0), .con (.slice none 0 0), .int .i64 0, .con (.slice none 0 0), .int .u32 0, .bool false, .int .i64 0, .bool false, .int .i64 0, .bool false, .bool false, .int .i64 0, .int .u32 0, .con (.slice none 0 0), .bool false, .int .u32 0, .con (.slice none 0 0), .con (.slice none 0 0), .con (.slice none 0 0), .int .i64 0, .int .i64 0, .con (.slice none 0 0)] [] []),
  St 27 4 80,
  Mc 5 (.int .i64 0),
  St 27 6 81,
  Mc 7 (.int .i64 3)]
def f194x22 : List AOper := [
  Mv 82 0,
  Mv 83 5,
  Op 84 (.slc 1 (.t 82) (some (.c (.int .i64 19))) (some (.t 83)) none),
  Mv 14 84]
def f194x23 : List AOper := [
  Mv 85 12,
  Op 86 (.build [.int .i64 0, .int .i64 0, .int .i64 0, .int .i64 0, .int .u32 0, .con (.slice none 0 0), .con (.slice none 0 0), .int .i64 0, .con (.slice none 0 0), .int .u32 0, .bool false, .int .i64 0, .bool false, .int .i64 0, .bool false, .bool false, .int .i64 0, .int .u32 0, .con (.slice none 0 0), .bool false, .int .u32 0, .con (.slice none 0 0), .con (.slice none 0 0), .con (.slice none 0 0), .int .i64 0, .int .i64 0, .con (.slice none 0 0)] [(0, 1)] [(.t 85)]),
  St 27 4 86]
def f194x24 : List AOper := [
  Mv 87 12]
def f194x25 : List AOper := [
  Bc 89 .eql 87 1,
  Mv 88 89]
def f194x26 : List AOper := [
  Mv 91 14,
  Ct 92 200 [91],
  Mv 90 92,
  Ex 93 90 0,
  Ex 94 90 1,
  Ex 95 90 2,
  St 27 4 93,
  St 27 6 94,
  Mv 7 95]
def f194x27 : List AOper := [
  Bc 97 .eql 87 2,
  Mv 96 97]
def f194x28 : List AOper := [
  Mv 99 14,
  Mv 100 1,
  Ct 101 201 [99, 100],
  Mv 98 101,
  Ex 102 98 0,
  Ex 103 98 1,
  Ex 104 98 2,
  St 27 4 102,
  St 27 6 103,
  Mv 7 104]
def f194x29 : List AOper := [
  Bc 106 .eql 87 3,
  Mv 105 106]
def f194x30 : List AOper := [
  Mv 107 14,
  Op 108 (.iadr 1 (.t 107) (.c (.int .i64 0))),
  Af [1] (Ld 109 108),
  Cv 110 .i64 109,
  Mv 111 14,
  Op 112 (.iadr 1 (.t 111) (.c (.int .i64 1))),
  Af [5] (Ld 113 112),
  Cv 114 .i64 113,
  Op 115 (.bsl 1 [.int .u8 0] 0 [] []),
  Mv 116 14,
  Op 117 (.slc 1 (.t 116) (some (.c (.int .i64 2))) none none),
  Af [8, 10] (Ap 118 1 1 115 117),
  Fa 119 24 4,
  Af [11, 8, 10, 2, 1] (St 1 119 110),
  Fa 120 25 4,
  Af [13, 6, 5, 11, 8, 10, 2, 1] (St 1 120 114),
  Fa 121 26 4,
  Af [15, 13, 6, 5, 11, 8, 10, 2, 1] (St 1 121 118)]
def f194x31 : List AOper := [
  Ls 122 27 4,
  Ct 123 144 [122],
  Mv 7 123]
def f194x32 : List AOper := [
  Mv 124 7,
  Bc 125 .neq 124 0]
def f194x33 : List AOper := [
  Ls 126 27 13,
  St 27 6 126]
def f194x34 : List AOper := [
  Bc 128 .eql 87 5,
  Mv 127 128]
def f194x35 : List AOper := [
  Mv 129 14,
  Op 130 (.b2s (.t 129)),
  Op 131 (.bsl 1 [.int .u8 0] 4 [0, 1, 2, 3] [(.c (.int .u8 0)), (.c (.int .u8 1)), (.c (.int .u8 0)), (.c (.int .u8 1))]),
  Op 132 (.b2s (.t 131)),
  Bi 133 .neq 130 132]
def f194x36 : List AOper := [
  Ls 134 27 13,
  St 27 6 134,
  Mc 7 (.int .i64 2)]
def f194x37 : List AOper := [
  Mv 135 7,
  Bc 136 .neq 135 0]
def f194x38 : List AOper := [
  Op 137 (.build [.int .i64 0, .int .i64 0, .int .i64 0, .int .i64 0, .int .u32 0, .con (.slice none 0 0), .con (.slice none 0 0), .int .i64 0, .con (.slice none 0 0), .int .u32 0, .bool false, .int .i64 0, .bool false, .int .i64 0, .bool false, .bool false, .int .i64 0, .int .u32 0, .con (.slice none 0 0), .bool false, .int .u32 0, .con (.slice none 0 0), .con (.slice none 0 0), .con (.slice none 0 0), .int .i64 0, .int .i64 0, .con (.slice none 0 0)] [] []),
  Ls 138 27 6,
  Mv 139 7,
  St 27 4 137,
  Mc 5 (.int .i64 0),
  Af [1, 3] (St 27 6 138),
  Mv 7 139]
def f194x39 : List AOper := [
  Ls 140 27 4,
  Mv 141 5,
  Op 142 (.build [.int .i64 0, .int .i64 0, .int .i64 0, .int .i64 0, .int .u32 0, .con (.slice none 0 0), .con (.slice none 0 0), .int .i64 0, .con (.slice none 0 0), .int .u32 0, .bool false, .int .i64 0, .bool false, .int .i64 0, .bool false, .bool false, .int .i64 0, .int .u32 0, .con (.slice none 0 0), .bool false, .int .u32 0, .con (.slice none 0 0), .con (.slice none 0 0), .con (.slice none 0 0), .int .i64 0, .int .i64 0, .con (.slice none 0 0)] [] []),
  St 27 4 140,
  Mv 5 141,
  St 27 6 142,
  Mc 7 (.int .i64 0)]
def f194 : AFunc := ⟨143, 2, false, [.cell 4 (some 27), .t 5, .cell 6 (some 27), .t 7], (.seq (.region f194x0 false) (.seq (.seq (.region f194x1 false) (.cond (.t 17) (.seq (.region f194x2 false) .ret) .skip)) (.seq (.seq (.region f194x3 false) (.block 0 (.loop f194x9L))) (.seq (.region f194x10 false) (.seq (.region f194x11 false) (.seq (.region f194x12 false) (.seq (.region f194x13 true) (.seq (.block 2 (.seq (.region f194x14 false) (.cond (.t 51) (.seq (.region f194x15 true) .ret) (.seq (.region f194x16 false) (.cond (.t 56) (.seq (.region f194x17 false) .ret) (.seq (.region f194x18 false) (.cond (.t 69) (.seq (.region f194x19 true) .ret) (.seq (.region f194x20 false) (.cond (.t 75) (.seq (.region f194x21 false) .ret) .skip))))))))) (.seq (.region f194x22 false) (.seq (.region f194x23 false) (.seq (.seq (.region f194x24 false) (.block 3 (.seq (.region f194x25 false) (.cond (.t 88) (.region f194x26 false) (.seq (.region f194x27 false) (.cond (.t 96) (.region f194x28 false) (.seq (.region f194x29 false) (.cond (.t 105) (.seq (.region f194x30 true) (.seq (.region f194x31 false) (.seq (.region f194x32 false) (.cond (.t 125) (.region f194x33 false) .skip)))) (.seq (.region f194x34 false) (.cond (.t 127) (.seq (.region f194x35 false) (.cond (.t 133) (.region f194x36 false) .skip)) .skip)))))))))) (.seq (.seq (.region f194x37 false) (.cond (.t 136) (.seq (.region f194x38 true) .ret) .skip)) (.seq (.region f194x39 false) .ret)))))))))))))⟩
def f194x9LH : List AItem := [.inLoop f194x9L, .inBlock 0, .code (.seq (.region f194x10 false) (.seq (.region f194x11 false) (.seq (.region f194x12 false) (.seq (.region f194x13 true) (.seq (.block 2 (.seq (.region f194x14 false) (.cond (.t 51) (.seq (.region f194x15 true) .ret) (.seq (.region f194x16 false) (.cond (.t 56) (.seq (.region f194x17 false) .ret) (.seq (.region f194x18 false) (.cond (.t 69) (.seq (.region f194x19 true) .ret) (.seq (.region f194x20 false) (.cond (.t 75) (.seq (.region f194x21 false) .ret) .skip))))))))) (.seq (.region f194x22 false) (.seq (.region f194x23 false) (.seq (.seq (.region f194x24 false) (.block 3 (.seq (.region f194x25 false) (.cond (.t 88) (.region f194x26 false) (.seq (.region f194x27 false) (.cond (.t 96) (.region f194x28 false) (.seq (.region f194x29 false) (.cond (.t 105) (.seq (.region f194x30 true) (.seq (.region f194x31 false) (.seq (.region f194x32 false) (.cond (.t 125) (.region f194x33 false) .skip)))) (.seq (.region f194x34 false) (.cond (.t 127) (.seq (.region f194x35 false) (.cond (.t 133) (.region f194x36 false) .skip)) .skip)))))))))) (.seq (.seq (.region f194x37 false) (.cond (.t 136) (.seq (.region f194x38 true) .ret) .skip)) (.seq (.region f194x39 false) .ret))))))))))]
def f195x0 : List AOper := [
  Op 2 (.box (.t 0)),
  Mc 4 (.con (.slice none 0 0)),
  Mc 5 (.int .i64 0)]
def f195x1 : List AOper := [
  Fa 18 0 2,
  Ld 19 18,
  Bc 20 .neq 19 2]
def f195x2 : List AOper := [
  Mc 4 (.con (.slice none 0 0)),
  Mc 5 (.int .i64 15)]
def f195x3 : List AOper := [
  Ls 22 27 2,
  Mv 23 1,
  Ct 24 193 [22, 23],
  Mv 21 24,
  Ex 25 21 0,
  Ex 26 21 1,
  Mv 6 25,
  Mv 7 26]
def f195x4 : List AOper := [
  Mv 27 7,
  Bc 28 .eql 27 0]
def f195x5 : List AOper := [
  Ls 29 27 2,
  Ct 30 202 [29],
  Op 31 (.bsl 27 [.int .i64 0, .int .i64 0, .int .i64 0, .int .i64 0, .int .u32 0, .con (.slice none 0 0), .con (.slice none 0 0), .int .i64 0, .con (.slice none 0 0), .int .u32 0, .bool false, .int .i64 0, .bool false, .int .i64 0, .bool false, .bool false, .int .i64 0, .int .u32 0, .con (.slice none 0 0), .bool false, .int .u32 0, .con (.slice none 0 0), .con (.slice none 0 0), .con (.slice none 0 0), .int .i64 0, .int .i64 0, .con (.slice none 0 0)] 1 [0] [(.t 30)]),
  Mv 4 31,
  Mc 5 (.int .i64 0)]
def f195x6 : List AOper := [
  Ls 32 27 2,
  Ct 33 144 [32],
  Mv 8 33]
def f195x7 : List AOper := [
  Mv 34 8,
  Bc 35 .neq 34 0]
def f195x8 : List AOper := [
  Mv 36 8,
  Mc 4 (.con (.slice none 0 0)),
  Mv 5 36]
def f195x9 : List AOper := [
  Mc 9 (.int .i64 0)]
def f195x10 : List AOper := [
  Fa 37 23 2,
  Ld 38 37,
  Ln 39 0 38,
  Bc 40 .gtr 39 0]
def f195x11 : List AOper := [
  Fa 42 7 2,
  Ls 43 16 42,
  Mv 44 1,
  Ct 45 67 [43, 44],
  Mv 41 45,
  Ex 46 41 0,
  Ex 47 41 1,
  Mv 10 46,
  Mv 11 47]
def f195x12 : List AOper := [
  Mv 48 11,
  Bc 49 .neq 48 0]
def f195x13 : List AOper := [
  Mv 50 11,
  Mc 4 (.con (.slice none 0 0)),
  Mv 5 50]
def f195x14 : List AOper := [
  Mv 51 10,
  Ln 52 0 51,
  Mv 9 52]
def f195x15 : List AOper := [
  Mc 12 (.con (.slice none 0 0))]
def f195x16 : List AOper := [
  Fa 53 6 2,
  Ld 54 53,
  Mv 13 54]
def f195x17 : List AOper := [
  Mv 55 13,
  Ln 56 0 55,
  Bc 57 .gtr 56 0]
def f195x18 : List AOper := [
  Mv 58 13,
  Ca 59 203 [(.t 58), (.c (.int .i64 65512))],
  Mv 14 59]
def f195x19 : List AOper := [
  Mv 60 12,
  Op 61 (.bsl 2 [.int .u32 0, .int .i64 0] 0 [] []),
  Mv 62 13,
  Mv 63 14,
  Op 64 (.slc 2 (.t 62) none (some (.t 63)) none),
  Ap 65 2 16 61 64,
  Op 66 (.build [.int .i64 0, .int .i64 0, .int .i64 0, .int .i64 0, .int .u32 0, .con (.slice none 0 0), .con (.slice none 0 0), .int .i64 0, .con (.slice none 0 0), .int .u32 0, .bool false, .int .i64 0, .bool false, .int .i64 0, .bool false, .bool false, .int .i64 0, .int .u32 0, .con (.slice none 0 0), .bool false, .int .u32 0, .con (.slice none 0 0), .con (.slice none 0 0), .con (.slice none 0 0), .int .i64 0, .int .i64 0, .con (.slice none 0 0)] [(0, 1), (6, 1)] [(.c (.int .i64 2)), (.t 65)]),
  Op 67 (.bsl 27 [.int .i64 0, .int .i64 0, .int .i64 0, .int .i64 0, .int .u32 0, .con (.slice none 0 0), .con (.slice none 0 0), .int .i64 0, .con (.slice none 0 0), .int .u32 0, .bool false, .int .i64 0, .bool false, .int .i64 0, .bool false, .bool false, .int .i64 0, .int .u32 0, .con (.slice none 0 0), .bool false, .int .u32 0, .con (.slice none 0 0), .con (.slice none 0 0), .con (.slice none 0 0), .int .i64 0, .int .i64 0, .con (.slice none 0 0)] 1 [0] [(.t 66)]),
  Ap 68 27 320 60 67,
  Mv 12 68]
def f195x20 : List AOper := [
  Mv 69 13,
  Mv 70 14,
  Op 71 (.slc 2 (.t 69) (some (.t 70)) none none),
  Mv 13 71]
def f195x21L : ACode := (.seq (.seq (.region f195x17 false) (.cond (.t 57) .skip (.exit 0))) (.block 1 (.seq (.region f195x18 false) (.seq (.region f195x19 false) (.region f195x20 false)))))
def f195x22 : List AOper := [
  Fa 72 23 2,
  Ld 73 72,
  Mv 15 73]
def f195x23 : List AOper := [
  Mv 74 15,
  Ln 75 0 74,
  Bc 76 .gtr 75 0]
def f195x24 : List AOper := [
  Mv 77 15,
  Mv 78 9,
  Op 79 (.bin .sub (.c (.int .i64 65512)) (.t 78)),
  Ct 80 203 [77, 79],
  Mv 16 80]
def f195x25 : List AOper := [
  Mv 81 16,
  Bc 82 .eql 81 0]
def f195x26 : List AOper := [
  Mc 4 (.con (.slice none 0 0)),
  Mc 5 (.int .i64 4)]
def f195x27 : List AOper := [
  Fa 83 7 2,
  Ls 84 16 83,
  Mv 85 15,
  Op 86 (.slc 2 (.t 85) none (some (.c (.int .i64 1))) (some (.c (.int .i64 1)))),
  Op 87 (.build [.int .i64 0, .int .i64 0, .int .i64 0, .int .i64 0, .int .u32 0, .con (.slice none 0 0), .con (.slice none 0 0), .int .i64 0, .con (.slice none 0 0), .int .u32 0, .bool false, .int .i64 0, .bool false, .int .i64 0, .bool false, .bool false, .int .i64 0, .int .u32 0, .con (.slice none 0 0), .bool false, .int .u32 0, .con (.slice none 0 0), .con (.slice none 0 0), .con (.slice none 0 0), .int .i64 0, .int .i64 0, .con (.slice none 0 0)] [(0, 1), (7, 16), (23, 1)] [(.c (.int .i64 2)), (.t 84), (.t 86)]),
  Af [1, 3] (Ct 88 202 [87]),
  Op 17 (.alloc (.agg [.int .i64 0, .int .i64 0, .int .i64 0, .int .i64 0, .int .u32 0, .con (.slice none 0 0), .con (.slice none 0 0), .int .i64 0, .con (.slice none 0 0), .int .u32 0, .bool false, .int .i64 0, .bool false, .int .i64 0, .bool false, .bool false, .int .i64 0, .int .u32 0, .con (.slice none 0 0), .bool false, .int .u32 0, .con (.slice none 0 0), .con (.slice none 0 0), .con (.slice none 0 0), .int .i64 0, .int .i64 0, .con (.slice none 0 0)])),
  Af [5, 6, 1, 3] (St 27 17 88)]
def f195x28 : List AOper := [
  Op 89 (.bsl 2 [.int .u32 0, .int .i64 0] 0 [] []),
  Mv 90 15,
  Mv 91 16,
  Op 92 (.slc 2 (.t 90) none (some (.t 91)) none),
  Ap 93 2 16 89 92,
  Fa 94 23 17,
  St 1 94 93]
def f195x29 : List AOper := [
  Mv 95 12,
  Ls 96 27 17,
  Op 97 (.bsl 27 [.int .i64 0, .int .i64 0, .int .i64 0, .int .i64 0, .int .u32 0, .con (.slice none 0 0), .con (.slice none 0 0), .int .i64 0, .con (.slice none 0 0), .int .u32 0, .bool false, .int .i64 0, .bool false, .int .i64 0, .bool false, .bool false, .int .i64 0, .int .u32 0, .con (.slice none 0 0), .bool false, .int .u32 0, .con (.slice none 0 0), .con (.slice none 0 0), .con (.slice none 0 0), .int .i64 0, .int .i64 0, .con (.slice none 0 0)] 1 [0] [(.t 96)]),
  Ap 98 27 320 95 97,
  Mv 12 98]
def f195x30 : List AOper := [
  Mv 99 15,
  Mv 100 16,
  Op 101 (.slc 2 (.t 99) (some (.t 100)) none none),
  Mv 15 101]
def f195x31L : ACode := (.seq (.seq (.region f195x23 false) (.cond (.t 76) .skip (.exit 2))) (.block 3 (.seq (.region f195x24 false) (.seq (.seq (.region f195x25 false) (.cond (.t 82) (.seq (.region f195x26 false) .ret) .skip)) (.seq (.region f195x27 true) (.seq (.region f195x28 false) (.seq (.region f195x29 false) (.region f195x30 false))))))))
def f195x32 : List AOper := [
  Mv 102 12,
  Mv 4 102,
  Mc 5 (.int .i64 0)]
def f195 : AFunc := ⟨103, 2, false, [.t 4, .t 5], (.seq (.region f195x0 false) (.seq (.seq (.region f195x1 false) (.cond (.t 20) (.seq (.region f195x2 false) .ret) .skip)) (.seq (.region f195x3 false) (.seq (.seq (.region f195x4 false) (.cond (.t 28) (.seq (.region f195x5 false) .ret) .skip)) (.seq (.seq (.region f195x6 false) (.seq (.region f195x7 false) (.cond (.t 35) (.seq (.region f195x8 false) .ret) .skip))) (.seq (.region f195x9 false) (.seq (.seq (.region f195x10 false) (.cond (.t 40) (.seq (.region f195x11 false) (.seq (.seq (.region f195x12 false) (.cond (.t 49) (.seq (.region f195x13 false) .ret) .skip)) (.region f195x14 false))) .skip)) (.seq (.region f195x15 false) (.seq (.seq (.region f195x16 false) (.block 0 (.loop f195x21L))) (.seq (.seq (.region f195x22 false) (.block 2 (.loop f195x31L))) (.seq (.region f195x32 false) .ret)))))))))))⟩
def f195x21LH : List AItem := [.inLoop f195x21L, .inBlock 0, .code (.seq (.seq (.region f195x22 false) (.block 2 (.loop f195x31L))) (.seq (.region f195x32 false) .ret))]
def f195x31LH : List AItem := [.inLoop f195x31L, .inBlock 2, .code (.seq (.region f195x32 false) .ret)]
def f139x0 : List AOper := [
  Mc 4 (.bool false)]
def f139x1 : List AOper := [
  Mv 6 0,
  Ln 7 0 6,
  Mv 8 1,
  Ln 9 0 8,
  Bi 10 .neq 7 9]
def f139x2 : List AOper := [
  Mc 4 (.bool false)]
def f139x3 : List AOper := [
  Mv 11 0,
  Ln 12 0 11,
  Mc 13 (.int .i64 0)]
def f139x4 : List AOper := [
  Bi 14 .lss 13 12]
def f139x5 : List AOper := [
  Mv 15 13,
  Mv 5 15]
def f139x6 : List AOper := [
  Mv 16 0,
  Mv 17 5,
  Ia 18 2 16 17,
  Af [2] (Ls 19 2 18),
  Mv 20 1,
  Mv 21 5,
  Ia 22 2 20 21,
  Af [6] (Ls 23 2 22),
  Op 24 (.eqs [.int, .int] true (.t 19) (.t 23))]
def f139x7 : List AOper := [
  Mc 4 (.bool false)]
def f139x8 : List AOper := [
  Bc 25 .add 13 1,
  Mv 13 25]
def f139x9L : ACode := (.seq (.region f139x4 false) (.seq (.cond (.t 14) .skip (.exit 0)) (.seq (.block 1 (.seq (.region f139x5 false) (.seq (.region f139x6 true) (.cond (.t 24) (.seq (.region f139x7 false) .ret) .skip)))) (.region f139x8 false))))
def f139x10 : List AOper := [
  Mc 4 (.bool true)]
def f139 : AFunc := ⟨26, 2, false, [.t 4], (.seq (.region f139x0 false) (.seq (.seq (.region f139x1 false) (.cond (.t 10) (.seq (.region f139x2 false) .ret) .skip)) (.seq (.seq (.region f139x3 false) (.block 0 (.loop f139x9L))) (.seq (.region f139x10 false) .ret))))⟩
def f139x9LH : List AItem := [.inLoop f139x9L, .inBlock 0, .code (.seq (.region f139x10 false) .ret)]
def f156x0 : List AOper := [
  Op 2 (.box (.t 0)),
  Op 3 (.box (.t 1)),
  Mc 4 (.bool false)]
def f156x1 : List AOper := [
  Fa 6 0 2,
  Ld 7 6,
  Fa 8 0 3,
  Ld 9 8,
  Bi 10 .neq 7 9,
  Mv 11 10,
  Gf 11 (Fa 12 1 2),
  Gf 11 (Ld 13 12),
  Gf 11 (Fa 14 1 3),
  Gf 11 (Ld 15 14),
  Gf 11 (Bi 16 .neq 13 15),
  Po 17 11 16,
  Mv 18 17,
  Gf 18 (Fa 19 2 2),
  Gf 18 (Ld 20 19),
  Gf 18 (Fa 21 2 3),
  Gf 18 (Ld 22 21),
  Gf 18 (Bi 23 .neq 20 22),
  Po 24 18 23,
  Mv 25 24,
  Gf 25 (Fa 26 3 2),
  Gf 25 (Ld 27 26),
  Gf 25 (Fa 28 3 3),
  Gf 25 (Ld 29 28),
  Gf 25 (Bi 30 .neq 27 29),
  Po 31 25 30,
  Mv 32 31,
  Gf 32 (Fa 33 4 2),
  Gf 32 (Ld 34 33),
  Gf 32 (Fa 35 4 3),
  Gf 32 (Ld 36 35),
  Gf 32 (Bi 37 .neq 34 36),
  Po 38 32 37,
  Mv 39 38,
  Gf 39 (Fa 40 5 2),
  Gf 39 (Ld 41 40),
  Gf 39 (Ln 42 0 41),
  Gf 39 (Fa 43 5 3),
  Gf 39 (Ld 44 43),
  Gf 39 (Ln 45 0 44),
  Gf 39 (Bi 46 .neq 42 45),
  Po 47 39 46,
  Mv 48 47,
  Gf 48 (Fa 49 24 2),
  Gf 48 (Ld 50 49),
  Gf 48 (Fa 51 24 3),
  Gf 48 (Ld 52 51),
  Gf 48 (Bi 53 .neq 50 52),
  Po 54 48 53,
  Mv 55 54,
  Gf 55 (Fa 56 25 2),
  Gf 55 (Ld 57 56),
  Gf 55 (Fa 58 25 3),
  Gf 55 (Ld 59 58),
  Gf 55 (Bi 60 .neq 57 59),
  Po 61 55 60,
  Mv 62 61,
  Gf 62 (Fa 63 26 2),
  Gf 62 (Ld 64 63),
  Gf 62 (Op 65 (.b2s (.t 64))),
  Gf 62 (Fa 66 26 3),
  Gf 62 (Ld 67 66),
  Gf 62 (Op 68 (.b2s (.t 67))),
  Gf 62 (Bi 69 .neq 65 68),
  Po 70 62 69]
def f156x2 : List AOper := [
  Mc 4 (.bool false)]
def f156x3 : List AOper := [
  Fa 71 5 2,
  Ld 72 71,
  Ln 73 0 72,
  Mc 74 (.int .i64 0)]
def f156x4 : List AOper := [
  Bi 75 .lss 74 73]
def f156x5 : List AOper := [
  Mv 76 74,
  Mv 5 76]
def f156x6 : List AOper := [
  Fa 77 5 2,
  Ld 78 77,
  Mv 79 5,
  Af [1] (Ia 80 2 78 79),
  Fa 81 0 80,
  Af [3, 1] (Ld 82 81),
  Fa 83 5 3,
  Ld 84 83,
  Mv 85 5,
  Af [7] (Ia 86 2 84 85),
  Fa 87 0 86,
  Af [9, 7] (Ld 88 87),
  Bi 89 .neq 82 88,
  Mv 90 89,
  Gf 90 (Fa 91 5 2),
  Af [5, 11, 3, 1, 9, 7] (Gf 90 (Ld 92 91)),
  Gf 90 (Mv 93 5),
  Af [15, 5, 11, 3, 1, 9, 7] (Gf 90 (Ia 94 2 92 93)),
  Gf 90 (Fa 95 1 94),
  Af [17, 15, 5, 11, 3, 1, 9, 7] (Gf 90 (Ld 96 95)),
  Af [19, 17, 15, 5, 11, 3, 1, 9, 7] (Gf 90 (Op 97 (.b2s (.t 96)))),
  Gf 90 (Fa 98 5 3),
  Af [5, 11, 3, 1, 9, 7] (Gf 90 (Ld 99 98)),
  Gf 90 (Mv 100 5),
  Af [22, 5, 11, 3, 1, 9, 7] (Gf 90 (Ia 101 2 99 100)),
  Gf 90 (Fa 102 1 101),
  Af [24, 22, 5, 11, 3, 1, 9, 7] (Gf 90 (Ld 103 102)),
  Af [26, 24, 22, 5, 11, 3, 1, 9, 7] (Gf 90 (Op 104 (.b2s (.t 103)))),
  Gf 90 (Bi 105 .neq 97 104),
  Po 106 90 105]
def f156x7 : List AOper := [
  Mc 4 (.bool false)]
def f156x8 : List AOper := [
  Bc 107 .add 74 1,
  Mv 74 107]
def f156x9L : ACode := (.seq (.region f156x4 false) (.seq (.cond (.t 75) .skip (.exit 0)) (.seq (.block 1 (.seq (.region f156x5 false) (.seq (.region f156x6 true) (.cond (.t 106) (.seq (.region f156x7 false) .ret) .skip)))) (.region f156x8 false))))
def f156x10 : List AOper := [
  Fa 108 6 2,
  Ld 109 108,
  Fa 110 6 3,
  Ld 111 110,
  Ct 112 169 [109, 111],
  Mv 113 112,
  Gt 113 (Fa 114 7 2),
  Gt 113 (Ls 115 16 114),
  Gt 113 (Fa 116 7 3),
  Gt 113 (Ls 117 16 116),
  Gt 113 (Ct 118 72 [115, 117]),
  Pa 119 113 118,
  Mv 120 119,
  Gt 120 (Fa 121 23 2),
  Gt 120 (Ld 122 121),
  Gt 120 (Fa 123 23 3),
  Gt 120 (Ld 124 123),
  Gt 120 (Ct 125 169 [122, 124]),
  Pa 126 120 125,
  Mv 4 126]
def f156 : AFunc := ⟨127, 2, false, [.t 4], (.seq (.region f156x0 false) (.seq (.seq (.region f156x1 false) (.cond (.t 70) (.seq (.region f156x2 false) .ret) .skip)) (.seq (.seq (.region f156x3 false) (.block 0 (.loop f156x9L))) (.seq (.region f156x10 false) .ret))))⟩
def f156x9LH : List AItem := [.inLoop f156x9L, .inBlock 0, .code (.seq (.region f156x10 false) .ret)]
def f21x0 : List AOper := [
  Op 1 (.box (.t 0)),
  Mc 2 (.bool false)]
def f21x1 : List AOper := [
  Ls 3 16 1,
  Ct 4 26 [3],
  Bc 5 .gtr 4 3000,
  Mv 2 5]
def f21 : AFunc := ⟨6, 1, false, [.t 2], (.seq (.region f21x0 false) (.seq (.region f21x1 false) .ret))⟩
def f157x0 : List AOper := [
  Op 1 (.box (.t 0)),
  Op 2 (.alloc (.agg [.int .i64 0, .int .i64 0, .int .i64 0, .int .i64 0, .int .u32 0, .con (.slice none 0 0), .con (.slice none 0 0), .int .i64 0, .con (.slice none 0 0), .int .u32 0, .bool false, .int .i64 0, .bool false, .int .i64 0, .bool false, .bool false, .int .i64 0, .int .u32 0, .con (.slice none 0 0), .bool false, .int .u32 0, .con (.slice none 0 0), .con (.slice none 0 0), .con (.slice none 0 0), .int .i64 0, .int .i64 0, .con (.slice none 0 0)]))]
def f157x1 : List AOper := [
  Fa 4 0 1,
  Ld 5 4,
  Op 6 (.build [.int .i64 0, .int .i64 0, .int .i64 0, .int .i64 0, .int .u32 0, .con (.slice none 0 0), .con (.slice none 0 0), .int .i64 0, .con (.slice none 0 0), .int .u32 0, .bool false, .int .i64 0, .bool false, .int .i64 0, .bool false, .bool false, .int .i64 0, .int .u32 0, .con (.slice none 0 0), .bool false, .int .u32 0, .con (.slice none 0 0), .con (.slice none 0 0), .con (.slice none 0 0), .int .i64 0, .int .i64 0, .con (.slice none 0 0)] [(0, 1)] [(.t 5)]),
  Op 3 (.alloc (.agg [.int .i64 0, .int .i64 0, .int .i64 0, .int .i64 0, .int .u32 0, .con (.slice none 0 0), .con (.slice none 0 0), .int .i64 0, .con (.slice none 0 0), .int .u32 0, .bool false, .int .i64 0, .bool false, .int .i64 0, .bool false, .bool false, .int .i64 0, .int .u32 0, .con (.slice none 0 0), .bool false, .int .u32 0, .con (.slice none 0 0), .con (.slice none 0 0), .con (.slice none 0 0), .int .i64 0, .int .i64 0, .con (.slice none 0 0)])),
  St 27 3 6]
def f157x2 : List AOper := [
  Fa 7 0 1,
  Ld 8 7]
def f157x3 : List AOper := [
  Bc 10 .eql 8 1,
  Mv 9 10]
def f157x4 : List AOper := [
  Fa 11 1 1,
  Ld 12 11,
  Fa 13 2 1,
  Ld 14 13,
  Fa 15 3 1,
  Ld 16 15,
  Fa 17 4 1,
  Ld 18 17,
  Fa 19 5 1,
  Ld 20 19,
  Fa 21 1 3,
  Af [1] (St 1 21 12),
  Fa 22 2 3,
  Af [3, 11, 1] (St 1 22 14),
  Fa 23 3 3,
  Af [5, 13, 3, 11, 1] (St 1 23 16),
  Fa 24 4 3,
  Af [7, 15, 5, 13, 3, 11, 1] (St 1 24 18),
  Fa 25 5 3,
  Af [9, 17, 7, 15, 5, 13, 3, 11, 1] (St 1 25 20)]
def f157x5 : List AOper := [
  Bc 27 .eql 8 2,
  Mv 26 27]
def f157x6 : List AOper := [
  Fa 28 6 1,
  Ld 29 28,
  Fa 30 7 1,
  Ls 31 16 30,
  Fa 32 23 1,
  Ld 33 32,
  Fa 34 6 3,
  Af [1] (St 1 34 29),
  Fa 35 7 3,
  Af [3, 7, 1] (St 16 35 31),
  Fa 36 23 3,
  Af [5, 9, 3, 7, 1] (St 1 36 33)]
def f157x7 : List AOper := [
  Bc 38 .eql 8 3,
  Mv 37 38]
def f157x8 : List AOper := [
  Fa 39 24 1,
  Ld 40 39,
  Fa 41 25 1,
  Ld 42 41,
  Fa 43 26 1,
  Ld 44 43,
  Fa 45 24 3,
  Af [1] (St 1 45 40),
  Fa 46 25 3,
  Af [3, 7, 1] (St 1 46 42),
  Fa 47 26 3,
  Af [5, 9, 3, 7, 1] (St 1 47 44)]
def f157x9 : List AOper := [
  Ls 48 27 3,
  St 27 2 48]
def f157 : AFunc := ⟨49, 1, false, [.cell 2 (some 27)], (.seq (.region f157x0 false) (.seq (.region f157x1 false) (.seq (.seq (.region f157x2 false) (.block 0 (.seq (.region f157x3 false) (.cond (.t 9) (.region f157x4 true) (.seq (.region f157x5 false) (.cond (.t 26) (.region f157x6 true) (.seq (.region f157x7 false) (.cond (.t 37) (.region f157x8 true) .skip)))))))) (.seq (.region f157x9 false) .ret))))⟩
def f158x0 : List AOper := [
  Op 1 (.box (.t 0)),
  Mc 2 (.int .i64 0)]
def f158x1 : List AOper := [
  Fa 4 1 1,
  Ld 5 4,
  Bc 6 .neq 5 4,
  Mv 3 6]
def f158x2 : List AOper := [
  Mc 2 (.int .i64 12)]
def f158x3 : List AOper := [
  Fa 8 2 1,
  Ld 9 8,
  Bc 10 .lss 9 1,
  Mv 11 10,
  Gf 11 (Fa 12 2 1),
  Gf 11 (Ld 13 12),
  Gf 11 (Bc 14 .gtr 13 4294967295),
  Po 15 11 14,
  Mv 7 15]
def f158x4 : List AOper := [
  Mc 2 (.int .i64 5)]
def f158x5 : List AOper := [
  Fa 17 3 1,
  Ld 18 17,
  Bc 19 .neq 18 0,
  Mv 20 19,
  Gt 20 (Fa 21 3 1),
  Gt 20 (Ld 22 21),
  Gt 20 (Bc 23 .lss 22 3),
  Gt 20 (Mv 24 23),
  Gf 24 (Fa 25 3 1),
  Gf 24 (Ld 26 25),
  Gf 24 (Bc 27 .gtr 26 65535),
  Gt 20 (Po 28 24 27),
  Pa 29 20 28,
  Mv 16 29]
def f158x6 : List AOper := [
  Mc 2 (.int .i64 21)]
def f158x7 : List AOper := [
  Fa 31 4 1,
  Ld 32 31,
  Op 33 (.bin .eql (.t 32) (.c (.int .u32 0))),
  Mv 30 33]
def f158x8 : List AOper := [
  Mc 2 (.int .i64 1)]
def f158x9 : List AOper := [
  Ls 34 27 1,
  Ct 35 170 [34],
  Mv 2 35]
def f158 : AFunc := ⟨36, 1, false, [.t 2], (.seq (.region f158x0 false) (.seq (.block 0 (.seq (.region f158x1 false) (.cond (.t 3) (.seq (.region f158x2 false) .ret) (.seq (.region f158x3 false) (.cond (.t 7) (.seq (.region f158x4 false) .ret) (.seq (.region f158x5 false) (.cond (.t 16) (.seq (.region f158x6 false) .ret) (.seq (.region f158x7 false) (.cond (.t 30) (.seq (.region f158x8 false) .ret) .skip))))))))) (.seq (.region f158x9 false) .ret)))⟩
def f159x0 : List AOper := [
  Op 1 (.box (.t 0)),
  Mc 2 (.int .i64 0)]
def f159x1 : List AOper := [
  Fa 8 6 1,
  Ld 9 8,
  Ct 10 171 [9],
  Mv 3 10]
def f159x2 : List AOper := [
  Mv 11 3,
  Bc 12 .neq 11 0]
def f159x3 : List AOper := [
  Mv 13 3,
  Mv 2 13]
def f159x4 : List AOper := [
  Fa 14 23 1,
  Ld 15 14,
  Ct 16 171 [15],
  Mv 4 16]
def f159x5 : List AOper := [
  Mv 17 4,
  Bc 18 .neq 17 0]
def f159x6 : List AOper := [
  Mv 19 4,
  Mv 2 19]
def f159x7 : List AOper := [
  Mc 5 (.int .i64 0)]
def f159x8 : List AOper := [
  Fa 20 6 1,
  Ld 21 20,
  Ln 22 0 21,
  Mc 23 (.int .i64 0)]
def f159x9 : List AOper := [
  Bi 24 .lss 23 22]
def f159x10 : List AOper := [
  Ia 25 2 21 23,
  Ls 26 2 25,
  Op 7 (.alloc (.agg [.int .u32 0, .int .i64 0])),
  St 2 7 26]
def f159x11 : List AOper := [
  Mv 27 5,
  Fa 28 23 1,
  Ld 29 28,
  Af [2] (Ln 30 0 29),
  Bi 31 .lss 27 30,
  Mv 32 31,
  Gt 32 (Fa 33 23 1),
  Af [3, 2] (Gt 32 (Ld 34 33)),
  Gt 32 (Mv 35 5),
  Af [7, 3, 2] (Gt 32 (Ia 36 2 34 35)),
  Af [9, 7, 3, 2] (Gt 32 (Ls 37 2 36)),
  Af [3, 2] (Gt 32 (Ls 38 2 7)),
  Af [10, 11, 9, 7, 3, 2] (Gt 32 (Ct 39 172 [37, 38])),
  Gt 32 (Bc 40 .lss 39 0),
  Pa 41 32 40]
def f159x12 : List AOper := [
  Mv 42 5,
  Bc 43 .add 42 1,
  Mv 5 43]
def f159x13L : ACode := (.seq (.seq (.region f159x11 true) (.cond (.t 41) .skip (.exit 2))) (.block 3 (.region f159x12 false)))
def f159x14 : List AOper := [
  Mv 44 5,
  Fa 45 23 1,
  Ld 46 45,
  Af [2] (Ln 47 0 46),
  Bi 48 .lss 44 47,
  Mv 49 48,
  Gt 49 (Fa 50 23 1),
  Af [3, 2] (Gt 49 (Ld 51 50)),
  Gt 49 (Mv 52 5),
  Af [7, 3, 2] (Gt 49 (Ia 53 2 51 52)),
  Af [9, 7, 3, 2] (Gt 49 (Ls 54 2 53)),
  Af [3, 2] (Gt 49 (Ls 55 2 7)),
  Gt 49 (Op 56 (.eqs [.int, .int] false (.t 54) (.t 55))),
  Pa 57 49 56]
def f159x15 : List AOper := [
  Mc 2 (.int .i64 7)]
def f159x16 : List AOper := [
  Bc 58 .add 23 1,
  Mv 23 58]
def f159x17L : ACode := (.seq (.region f159x9 false) (.seq (.cond (.t 24) .skip (.exit 0)) (.seq (.block 1 (.seq (.region f159x10 false) (.seq (.block 2 (.loop f159x13L)) (.seq (.region f159x14 true) (.cond (.t 57) (.seq (.region f159x15 false) .ret) .skip))))) (.region f159x16 false))))
def f159x18 : List AOper := [
  Fa 59 23 1,
  Ld 60 59,
  Ln 61 0 60,
  Bc 62 .gtr 61 0]
def f159x19 : List AOper := [
  Fa 63 7 1,
  Ls 64 16 63,
  Ct 65 65 [64],
  Mv 2 65]
def f159x20 : List AOper := [
  Fa 66 7 1,
  Ls 67 16 66,
  Op 68 (.build [.int .i64 0, .con (.slice none 0 0), .int .u32 0, .bool false, .int .i64 0, .bool false, .int .i64 0, .bool false, .bool false, .int .i64 0, .int .u32 0, .con (.slice none 0 0), .bool false, .int .u32 0, .con (.slice none 0 0), .con (.slice none 0 0)] [] []),
  Ct 69 72 [67, 68],
  Un 70 .not 69]
def f159x21 : List AOper := [
  Mc 2 (.int .i64 1)]
def f159x22 : List AOper := [
  Mc 2 (.int .i64 0)]
def f159 : AFunc := ⟨71, 1, false, [.t 2], (.seq (.region f159x0 false) (.seq (.seq (.region f159x1 false) (.seq (.region f159x2 false) (.cond (.t 12) (.seq (.region f159x3 false) .ret) .skip))) (.seq (.seq (.region f159x4 false) (.seq (.region f159x5 false) (.cond (.t 18) (.seq (.region f159x6 false) .ret) .skip))) (.seq (.region f159x7 false) (.seq (.seq (.region f159x8 false) (.block 0 (.loop f159x17L))) (.seq (.seq (.region f159x18 false) (.cond (.t 62) (.seq (.region f159x19 false) .ret) .skip)) (.seq (.seq (.region f159x20 false) (.cond (.t 70) (.seq (.region f159x21 false) .ret) .skip)) (.seq (.region f159x22 false) .ret))))))))⟩
def f159x17LH : List AItem := [.inLoop f159x17L, .inBlock 0, .code (.seq (.seq (.region f159x18 false) (.cond (.t 62) (.seq (.region f159x19 false) .ret) .skip)) (.seq (.seq (.region f159x20 false) (.cond (.t 70) (.seq (.region f159x21 false) .ret) .skip)) (.seq (.region f159x22 false) .ret)))]
def f159x13LH : List AItem := [.inLoop f159x13L, .inBlock 2, .code (.seq (.region f159x14 true) (.cond (.t 57) (.seq (.region f159x15 false) .ret) .skip)), .inBlock 1, .code (.region f159x16 false), .inLoop f159x17L, .inBlock 0, .code (.seq (.seq (.region f159x18 false) (.cond (.t 62) (.seq (.region f159x19 false) .ret) .skip)) (.seq (.seq (.region f159x20 false) (.cond (.t 70) (.seq (.region f159x21 false) .ret) .skip)) (.seq (.region f159x22 false) .ret)))]
def f196x0 : List AOper := [
  Op 1 (.box (.t 0)),
  Mc 2 (.con (.slice none 0 0))]
def f196x1 : List AOper := [
  Fa 7 1 1,
  Ld 8 7,
  Cv 9 .u8 8,
  Op 10 (.bsl 1 [.int .u8 0] 1 [0] [(.t 9)]),
  Mv 3 10]
def f196x2 : List AOper := [
  Mv 11 3,
  Fa 12 2 1,
  Ld 13 12,
  Ct 14 204 [13],
  Cv 15 .u64 14,
  Ca 16 109 [(.t 11), (.c (.int .i64 2)), (.t 15)],
  Mv 3 16]
def f196x3 : List AOper := [
  Mv 17 3,
  Fa 18 3 1,
  Ld 19 18,
  Cv 20 .u64 19,
  Ca 21 109 [(.t 17), (.c (.int .i64 2)), (.t 20)],
  Mv 3 21]
def f196x4 : List AOper := [
  Mv 22 3,
  Fa 23 4 1,
  Ld 24 23,
  Cv 25 .u64 24,
  Ca 26 109 [(.t 22), (.c (.int .i64 4)), (.t 25)],
  Mv 3 26]
def f196x5 : List AOper := [
  Mc 4 (.con (.slice none 0 0))]
def f196x6 : List AOper := [
  Fa 27 5 1,
  Ld 28 27,
  Ln 29 0 28,
  Mc 30 (.int .i64 0)]
def f196x7 : List AOper := [
  Bi 31 .lss 30 29]
def f196x8 : List AOper := [
  Ia 32 2 28 30,
  Ls 33 2 32,
  Op 6 (.alloc (.agg [.int .i64 0, .con (.slice none 0 0)])),
  St 2 6 33]
def f196x9 : List AOper := [
  Mv 34 4,
  Fa 35 0 6,
  Ld 36 35,
  Cv 37 .u8 36,
  Fa 38 1 6,
  Ld 39 38,
  Ln 40 0 39,
  Cv 41 .u8 40,
  Op 42 (.bsl 1 [.int .u8 0] 2 [0, 1] [(.t 37), (.t 41)]),
  Ap 43 1 1 34 42,
  Mv 4 43]
def f196x10 : List AOper := [
  Mv 44 4,
  Fa 45 1 6,
  Ld 46 45,
  Ap 47 1 1 44 46,
  Mv 4 47]
def f196x11 : List AOper := [
  Bc 48 .add 30 1,
  Mv 30 48]
def f196x12L : ACode := (.seq (.region f196x7 false) (.seq (.cond (.t 31) .skip (.exit 0)) (.seq (.block 1 (.seq (.region f196x8 false) (.seq (.region f196x9 false) (.region f196x10 false)))) (.region f196x11 false))))
def f196x13 : List AOper := [
  Mv 49 4,
  Ln 50 0 49,
  Bc 51 .eql 50 0]
def f196x14 : List AOper := [
  Mv 52 3,
  Op 53 (.bsl 1 [.int .u8 0] 1 [0] [(.c (.int .u8 0))]),
  Ap 54 1 1 52 53,
  Mv 2 54]
def f196x15 : List AOper := [
  Mv 55 3,
  Mv 56 4,
  Ln 57 0 56,
  Bc 58 .add 57 2,
  Cv 59 .u8 58,
  Mv 60 4,
  Ln 61 0 60,
  Cv 62 .u8 61,
  Op 63 (.bsl 1 [.int .u8 0] 3 [0, 1, 2] [(.t 59), (.c (.int .u8 2)), (.t 62)]),
  Ap 64 1 1 55 63,
  Mv 3 64]
def f196x16 : List AOper := [
  Mv 65 3,
  Mv 66 4,
  Ap 67 1 1 65 66,
  Mv 2 67]
def f196 : AFunc := ⟨68, 1, false, [.t 2], (.seq (.region f196x0 false) (.seq (.region f196x1 false) (.seq (.region f196x2 false) (.seq (.region f196x3 false) (.seq (.region f196x4 false) (.seq (.region f196x5 false) (.seq (.seq (.region f196x6 false) (.block 0 (.loop f196x12L))) (.seq (.seq (.region f196x13 false) (.cond (.t 51) (.seq (.region f196x14 false) .ret) .skip)) (.seq (.region f196x15 false) (.seq (.region f196x16 false) .ret))))))))))⟩
def f196x12LH : List AItem := [.inLoop f196x12L, .inBlock 0, .code (.seq (.seq (.region f196x13 false) (.cond (.t 51) (.seq (.region f196x14 false) .ret) .skip)) (.seq (.region f196x15 false) (.seq (.region f196x16 false) .ret)))]
def f197x0 : List AOper := [
  Op 2 (.box (.t 0)),
  Mc 4 (.con (.slice none 0 0)),
  Mc 5 (.int .i64 0)]
def f197x1 : List AOper := [
  Fa 11 6 2,
  Ld 12 11,
  Ct 13 205 [12],
  Mv 6 13]
def f197x2 : List AOper := [
  Mc 7 (.con (.slice none 0 0))]
def f197x3 : List AOper := [
  Fa 14 23 2,
  Ld 15 14,
  Ln 16 0 15,
  Bc 17 .gtr 16 0]
def f197x4 : List AOper := [
  Fa 19 7 2,
  Ls 20 16 19,
  Mv 21 1,
  Ct 22 67 [20, 21],
  Mv 18 22,
  Ex 23 18 0,
  Ex 24 18 1,
  Mv 8 23,
  Mv 9 24]
def f197x5 : List AOper := [
  Mv 25 9,
  Bc 26 .neq 25 0]
def f197x6 : List AOper := [
  Mv 27 9,
  Mc 4 (.con (.slice none 0 0)),
  Mv 5 27]
def f197x7 : List AOper := [
  Mv 28 8,
  Mv 7 28]
def f197x8 : List AOper := [
  Mv 29 6,
  Ln 30 0 29,
  Bc 31 .gtr 30 65535,
  Mv 32 31,
  Gf 32 (Mv 33 7),
  Gf 32 (Ln 34 0 33),
  Gf 32 (Bc 35 .gtr 34 65535),
  Po 36 32 35]
def f197x9 : List AOper := [
  Mc 4 (.con (.slice none 0 0)),
  Mc 5 (.int .i64 4)]
def f197x10 : List AOper := [
  Mv 37 6,
  Ln 38 0 37,
  Cv 39 .u64 38,
  Ca 40 109 [(.c (.con (.slice none 0 0))), (.c (.int .i64 2)), (.t 39)],
  Mv 41 6,
  Ap 42 1 1 40 41,
  Mv 10 42]
def f197x11 : List AOper := [
  Mv 43 10,
  Mv 44 7,
  Ln 45 0 44,
  Cv 46 .u64 45,
  Ca 47 109 [(.t 43), (.c (.int .i64 2)), (.t 46)],
  Mv 48 7,
  Ap 49 1 1 47 48,
  Mv 10 49]
def f197x12 : List AOper := [
  Mv 50 10,
  Fa 51 23 2,
  Ld 52 51,
  Ct 53 205 [52],
  Ap 54 1 1 50 53,
  Mv 4 54,
  Mc 5 (.int .i64 0)]
def f197 : AFunc := ⟨55, 2, false, [.t 4, .t 5], (.seq (.region f197x0 false) (.seq (.region f197x1 false) (.seq (.region f197x2 false) (.seq (.seq (.region f197x3 false) (.cond (.t 17) (.seq (.region f197x4 false) (.seq (.seq (.region f197x5 false) (.cond (.t 26) (.seq (.region f197x6 false) .ret) .skip)) (.region f197x7 false))) .skip)) (.seq (.seq (.region f197x8 false) (.cond (.t 36) (.seq (.region f197x9 false) .ret) .skip)) (.seq (.region f197x10 false) (.seq (.region f197x11 false) (.seq (.region f197x12 false) .ret))))))))⟩
def f109x0 : List AOper := [
  Mc 6 (.con (.slice none 0 0))]
def f109x1 : List AOper := [
  Mv 7 0,
  Mv 8 1,
  Op 9 (.minmax true [(.t 8), (.c (.int .i64 0))]),
  Op 10 (.minmax false [(.t 9), (.c (.int .i64 8))]),
  Mv 11 2,
  Ct 12 120 [10, 11],
  Op 13 (.bsl 1 [.con (.slice none 0 0)] 2 [0, 1] [(.t 7), (.t 12)]),
  Ct 14 119 [13],
  Mv 6 14]
def f109 : AFunc := ⟨15, 3, false, [.t 6], (.seq (.region f109x0 false) (.seq (.region f109x1 false) .ret))⟩
def f198x0 : List AOper := [
  Op 6 (.alloc (.agg [.int .i64 0, .int .i64 0, .int .i64 0, .int .i64 0, .int .u32 0, .con (.slice none 0 0), .con (.slice none 0 0), .int .i64 0, .con (.slice none 0 0), .int .u32 0, .bool false, .int .i64 0, .bool false, .int .i64 0, .bool false, .bool false, .int .i64 0, .int .u32 0, .con (.slice none 0 0), .bool false, .int .u32 0, .con (.slice none 0 0), .con (.slice none 0 0), .con (.slice none 0 0), .int .i64 0, .int .i64 0, .con (.slice none 0 0)]))]
def f198x1 : List AOper := [
  Mv 7 0,
  Mv 8 1,
  Mv 9 2,
  Op 10 (.build [.int .i64 0, .int .i64 0, .int .i64 0, .int .i64 0, .int .u32 0, .con (.slice none 0 0), .con (.slice none 0 0), .int .i64 0, .con (.slice none 0 0), .int .u32 0, .bool false, .int .i64 0, .bool false, .int .i64 0, .bool false, .bool false, .int .i64 0, .int .u32 0, .con (.slice none 0 0), .bool false, .int .u32 0, .con (.slice none 0 0), .con (.slice none 0 0), .con (.slice none 0 0), .int .i64 0, .int .i64 0, .con (.slice none 0 0)] [(0, 1), (24, 1), (25, 1), (26, 1)] [(.c (.int .i64 3)), (.t 7), (.t 8), (.t 9)]),
  St 27 6 10]
def f198 : AFunc := ⟨11, 3, false, [.cell 6 (some 27)], (.seq (.region f198x0 false) (.seq (.region f198x1 false) .ret))⟩
def f110x0 : List AOper := [
  Mc 6 (.int .u64 0),
  Mc 7 (.bool false)]
def f110x1 : List AOper := [
  Mv 11 2,
  Bc 12 .lss 11 0,
  Mv 13 12,
  Gf 13 (Mv 14 2),
  Gf 13 (Bc 15 .gtr 14 8),
  Po 16 13 15,
  Mv 17 16,
  Gf 17 (Mv 18 1),
  Gf 17 (Bc 19 .lss 18 0),
  Po 20 17 19,
  Mv 21 20,
  Gf 21 (Mv 22 1),
  Gf 21 (Mv 23 0),
  Gf 21 (Ln 24 0 23),
  Gf 21 (Mv 25 2),
  Gf 21 (Bi 26 .sub 24 25),
  Gf 21 (Bi 27 .gtr 22 26),
  Po 28 21 27]
def f110x2 : List AOper := [
  Mc 6 (.int .u64 0),
  Mc 7 (.bool false)]
def f110x3 : List AOper := [
  Mc 8 (.int .u64 0)]
def f110x4 : List AOper := [
  Mv 29 0,
  Mv 30 1,
  Mv 31 1,
  Mv 32 2,
  Bi 33 .add 31 32,
  Op 34 (.slc 1 (.t 29) (some (.t 30)) (some (.t 33)) none),
  Ln 35 0 34,
  Mc 36 (.int .i64 0)]
def f110x5 : List AOper := [
  Bi 37 .lss 36 35]
def f110x6 : List AOper := [
  Ia 38 1 34 36,
  Ld 39 38,
  Mv 10 39]
def f110x7 : List AOper := [
  Mv 40 8,
  Op 41 (.bin .shl (.t 40) (.c (.int .u64 8))),
  Mv 42 10,
  Cv 43 .u64 42,
  Bi 44 .or 41 43,
  Mv 8 44]
def f110x8 : List AOper := [
  Bc 45 .add 36 1,
  Mv 36 45]
def f110x9L : ACode := (.seq (.region f110x5 false) (.seq (.cond (.t 37) .skip (.exit 0)) (.seq (.block 1 (.seq (.region f110x6 false) (.region f110x7 false))) (.region f110x8 false))))
def f110x10 : List AOper := [
  Mv 46 8,
  Mv 6 46,
  Mc 7 (.bool true)]
def f110 : AFunc := ⟨47, 3, false, [.t 6, .t 7], (.seq (.region f110x0 false) (.seq (.seq (.region f110x1 false) (.cond (.t 28) (.seq (.region f110x2 false) .ret) .skip)) (.seq (.region f110x3 false) (.seq (.seq (.region f110x4 false) (.block 0 (.loop f110x9L))) (.seq (.region f110x10 false) .ret)))))⟩
def f110x9LH : List AItem := [.inLoop f110x9L, .inBlock 0, .code (.seq (.region f110x10 false) .ret)]
def f199x0 : List AOper := [
  Mc 4 (.bool false)]
def f199x1 : List AOper := [
  Mv 5 0]
def f199x2 : List AOper := [
  Bc 7 .eql 5 1,
  Mv 6 7]
def f199x3 : List AOper := [
  Mv 8 1,
  Bc 9 .lss 8 29,
  Mv 4 9]
def f199x4 : List AOper := [
  Bc 11 .eql 5 2,
  Mv 10 11]
def f199x5 : List AOper := [
  Mv 12 1,
  Bc 13 .lss 12 23,
  Mv 4 13]
def f199x6 : List AOper := [
  Bc 15 .eql 5 3,
  Mv 14 15]
def f199x7 : List AOper := [
  Mv 16 1,
  Bc 17 .lss 16 21,
  Mv 4 17]
def f199x8 : List AOper := [
  Bc 19 .eql 5 4,
  Mv 18 19]
def f199x9 : List AOper := [
  Mv 20 1,
  Bc 21 .neq 20 19,
  Mv 4 21]
def f199x10 : List AOper := [
  Mv 22 1,
  Bc 23 .neq 22 23,
  Mv 4 23]
def f199 : AFunc := ⟨24, 2, false, [.t 4], (.seq (.region f199x0 false) (.seq (.seq (.region f199x1 false) (.block 0 (.seq (.region f199x2 false) (.cond (.t 6) (.seq (.region f199x3 false) .ret) (.seq (.region f199x4 false) (.cond (.t 10) (.seq (.region f199x5 false) .ret) (.seq (.region f199x6 false) (.cond (.t 14) (.seq (.region f199x7 false) .ret) (.seq (.region f199x8 false) (.cond (.t 18) (.seq (.region f199x9 false) .ret) .skip)))))))))) (.seq (.region f199x10 false) .ret)))⟩
def f200x0 : List AOper := [
  Op 2 (.alloc (.agg [.int .i64 0, .int .i64 0, .int .i64 0, .int .i64 0, .int .u32 0, .con (.slice none 0 0), .con (.slice none 0 0), .int .i64 0, .con (.slice none 0 0), .int .u32 0, .bool false, .int .i64 0, .bool false, .int .i64 0, .bool false, .bool false, .int .i64 0, .int .u32 0, .con (.slice none 0 0), .bool false, .int .u32 0, .con (.slice none 0 0), .con (.slice none 0 0), .con (.slice none 0 0), .int .i64 0, .int .i64 0, .con (.slice none 0 0)])),
  Op 3 (.alloc (.agg [.int .i64 0, .int .i64 0, .int .i64 0, .int .i64 0, .int .u32 0, .con (.slice none 0 0), .con (.slice none 0 0), .int .i64 0, .con (.slice none 0 0), .int .u32 0, .bool false, .int .i64 0, .bool false, .int .i64 0, .bool false, .bool false, .int .i64 0, .int .u32 0, .con (.slice none 0 0), .bool false, .int .u32 0, .con (.slice none 0 0), .con (.slice none 0 0), .con (.slice none 0 0), .int .i64 0, .int .i64 0, .con (.slice none 0 0)])),
  Mc 4 (.int .i64 0)]
def f200x1 : List AOper := [
  Mv 17 0,
  Op 18 (.build [.con (.slice none 0 0)] [(0, 1)] [(.t 17)]),
  Op 19 (.box (.t 18)),
  Mv 5 19]
def f200x2 : List AOper := [
  Mv 20 5,
  Ca 21 206 [(.t 20), (.c (.int .i64 1))],
  Op 22 (.build [.int .i64 0, .int .i64 0, .int .i64 0, .int .i64 0, .int .u32 0, .con (.slice none 0 0), .con (.slice none 0 0), .int .i64 0, .con (.slice none 0 0), .int .u32 0, .bool false, .int .i64 0, .bool false, .int .i64 0, .bool false, .bool false, .int .i64 0, .int .u32 0, .con (.slice none 0 0), .bool false, .int .u32 0, .con (.slice none 0 0), .con (.slice none 0 0), .con (.slice none 0 0), .int .i64 0, .int .i64 0, .con (.slice none 0 0)] [(0, 1), (1, 1)] [(.c (.int .i64 1)), (.t 21)]),
  Op 6 (.alloc (.agg [.int .i64 0, .int .i64 0, .int .i64 0, .int .i64 0, .int .u32 0, .con (.slice none 0 0), .con (.slice none 0 0), .int .i64 0, .con (.slice none 0 0), .int .u32 0, .bool false, .int .i64 0, .bool false, .int .i64 0, .bool false, .bool false, .int .i64 0, .int .u32 0, .con (.slice none 0 0), .bool false, .int .u32 0, .con (.slice none 0 0), .con (.slice none 0 0), .con (.slice none 0 0), .int .i64 0, .int .i64 0, .con (.slice none 0 0)])),
  St 27 6 22]
def f200x3 : List AOper := [
  Fa 23 1 6,
  Ld 24 23,
  Bc 25 .neq 24 4]
def f200x4 : List AOper := [
  Op 26 (.build [.int .i64 0, .int .i64 0, .int .i64 0, .int .i64 0, .int .u32 0, .con (.slice none 0 0), .con (.slice none 0 0), .int .i64 0, .con (.slice none 0 0), .int .u32 0, .bool false, .int .i64 0, .bool false, .int .i64 0, .bool false, .bool false, .int .i64 0, .int .u32 0, .con (.slice none 0 0), .bool false, .int .u32 0, .con (.slice none 0 0), .con (.slice none 0 0), .con (.slice none 0 0), .int .i64 0, .int .i64 0, .con (.slice none 0 0)] [] []),
  Op 27 (.bsl 1 [.int .u8 0] 2 [0, 1] [(.c (.int .u8 0)), (.c (.int .u8 4))]),
  Ca 28 198 [(.c (.int .i64 2)), (.c (.int .i64 1)), (.t 27)],
  St 27 2 26,
  St 27 3 28,
  Mc 4 (.int .i64 12)]
def f200x5 : List AOper := [
  Mv 29 5,
  Ca 30 206 [(.t 29), (.c (.int .i64 2))],
  Mv 7 30]
def f200x6 : List AOper := [
  Mv 31 7,
  Fa 32 2 6,
  St 1 32 31]
def f200x7 : List AOper := [
  Mv 33 5,
  Ca 34 206 [(.t 33), (.c (.int .i64 2))],
  Fa 35 3 6,
  St 1 35 34]
def f200x8 : List AOper := [
  Mv 36 5,
  Ca 37 206 [(.t 36), (.c (.int .i64 4))],
  Cv 38 .u32 37,
  Fa 39 4 6,
  St 1 39 38]
def f200x9 : List AOper := [
  Mv 40 5,
  Ca 41 206 [(.t 40), (.c (.int .i64 1))],
  Mv 8 41]
def f200x10 : List AOper := [
  Mv 42 5,
  Nc 43 42,
  Fa 44 0 43,
  Ld 45 44,
  Ln 46 0 45,
  Mv 47 8,
  Bi 48 .eql 46 47,
  Mv 9 48]
def f200x11 : List AOper := [
  Mv 49 9,
  Mv 50 49,
  Gt 50 (Mv 51 8),
  Gt 50 (Bc 52 .gtr 51 0),
  Pa 53 50 52]
def f200x12 : List AOper := [
  Mv 54 5,
  Nc 55 54,
  Fa 56 0 55,
  Ld 57 56,
  Op 58 (.build [.con (.slice none 0 0)] [(0, 1)] [(.t 57)]),
  Op 59 (.build [.con (.slice none 0 0), .con (.slice none 0 0)] [(0, 1)] [(.t 58)]),
  Op 60 (.box (.t 59)),
  Mv 10 60]
def f200x13 : List AOper := [
  Mv 61 10,
  Nc 62 61,
  Fa 63 0 62,
  Ca 64 207 [(.t 63), (.c (.int .i64 2))],
  Mv 65 64,
  Gt 65 (Mv 66 10),
  Gt 65 (Nc 67 66),
  Gt 65 (Fa 68 0 67),
  Gt 65 (Ca 69 206 [(.t 68), (.c (.int .i64 1))]),
  Gt 65 (Bc 70 .eql 69 2),
  Pa 71 65 70,
  Mv 72 71,
  Gt 72 (Mv 73 10),
  Gt 72 (Nc 74 73),
  Gt 72 (Fa 75 0 74),
  Gt 72 (Ca 76 206 [(.t 75), (.c (.int .i64 1))]),
  Gt 72 (Mv 77 8),
  Gt 72 (Bc 78 .sub 77 2),
  Gt 72 (Bi 79 .eql 76 78),
  Pa 80 72 79,
  Mv 81 80,
  Gt 81 (Mv 82 10),
  Gt 81 (Ct 83 208 [82]),
  Pa 84 81 83,
  Mv 9 84]
def f200x14 : List AOper := [
  Mv 85 10,
  Nc 86 85,
  Fa 87 1 86,
  Ld 88 87,
  Fa 89 5 6,
  St 1 89 88]
def f200x15 : List AOper := [
  Mv 90 9,
  Un 91 .not 90]
def f200x16 : List AOper := [
  Op 92 (.build [.int .i64 0, .int .i64 0, .int .i64 0, .int .i64 0, .int .u32 0, .con (.slice none 0 0), .con (.slice none 0 0), .int .i64 0, .con (.slice none 0 0), .int .u32 0, .bool false, .int .i64 0, .bool false, .int .i64 0, .bool false, .bool false, .int .i64 0, .int .u32 0, .con (.slice none 0 0), .bool false, .int .u32 0, .con (.slice none 0 0), .con (.slice none 0 0), .con (.slice none 0 0), .int .i64 0, .int .i64 0, .con (.slice none 0 0)] [] []),
  Ca 93 198 [(.c (.int .i64 2)), (.c (.int .i64 4)), (.c (.con (.slice none 0 0)))],
  St 27 2 92,
  St 27 3 93,
  Mc 4 (.int .i64 2)]
def f200x17 : List AOper := [
  Fa 94 5 6,
  Ld 95 94,
  Ln 96 0 95,
  Mc 97 (.int .i64 0)]
def f200x18 : List AOper := [
  Bi 98 .lss 97 96]
def f200x19 : List AOper := [
  Ia 99 2 95 97,
  Ls 100 2 99,
  Op 12 (.alloc (.agg [.int .i64 0, .con (.slice none 0 0)])),
  St 2 12 100]
def f200x20 : List AOper := [
  Fa 101 0 12,
  Ld 102 101,
  Bc 103 .eql 102 65,
  Mv 104 103,
  Gt 104 (Fa 105 1 12),
  Gt 104 (Ld 106 105),
  Gt 104 (Ln 107 0 106),
  Gt 104 (Bc 108 .eql 107 4),
  Pa 109 104 108]
def f200x21 : List AOper := [
  Fa 111 1 12,
  Ld 112 111,
  Ca 113 110 [(.t 112), (.c (.int .i64 0)), (.c (.int .i64 4))],
  Mv 110 113,
  Ex 114 110 0,
  Ex 115 110 1,
  Mv 13 114,
  Mv 14 115]
def f200x22 : List AOper := [
  Mv 116 13,
  Cv 117 .i64 116,
  Fa 118 2 6,
  St 1 118 117]
def f200x23 : List AOper := [
  Bc 119 .add 97 1,
  Mv 97 119]
def f200x24L : ACode := (.seq (.region f200x18 false) (.seq (.cond (.t 98) .skip (.exit 0)) (.seq (.block 1 (.seq (.region f200x19 false) (.seq (.region f200x20 false) (.cond (.t 109) (.seq (.region f200x21 false) (.seq (.region f200x22 false) (.exit 0))) .skip)))) (.region f200x23 false))))
def f200x25 : List AOper := [
  Mv 120 7,
  Fa 121 2 6,
  Ld 122 121,
  Ct 123 204 [122],
  Bi 124 .neq 120 123]
def f200x26 : List AOper := [
  Op 125 (.build [.int .i64 0, .int .i64 0, .int .i64 0, .int .i64 0, .int .u32 0, .con (.slice none 0 0), .con (.slice none 0 0), .int .i64 0, .con (.slice none 0 0), .int .u32 0, .bool false, .int .i64 0, .bool false, .int .i64 0, .bool false, .bool false, .int .i64 0, .int .u32 0, .con (.slice none 0 0), .bool false, .int .u32 0, .con (.slice none 0 0), .con (.slice none 0 0), .con (.slice none 0 0), .int .i64 0, .int .i64 0, .con (.slice none 0 0)] [] []),
  Ca 126 198 [(.c (.int .i64 2)), (.c (.int .i64 2)), (.c (.con (.slice none 0 0)))],
  St 27 2 125,
  St 27 3 126,
  Mc 4 (.int .i64 14)]
def f200x27 : List AOper := [
  Ls 127 27 6,
  Ct 128 144 [127],
  Mv 15 128]
def f200x28 : List AOper := [
  Mv 129 15,
  Bc 130 .eql 129 0]
def f200x29 : List AOper := [
  Ls 131 27 6,
  Op 132 (.build [.int .i64 0, .int .i64 0, .int .i64 0, .int .i64 0, .int .u32 0, .con (.slice none 0 0), .con (.slice none 0 0), .int .i64 0, .con (.slice none 0 0), .int .u32 0, .bool false, .int .i64 0, .bool false, .int .i64 0, .bool false, .bool false, .int .i64 0, .int .u32 0, .con (.slice none 0 0), .bool false, .int .u32 0, .con (.slice none 0 0), .con (.slice none 0 0), .con (.slice none 0 0), .int .i64 0, .int .i64 0, .con (.slice none 0 0)] [] []),
  St 27 2 131,
  St 27 3 132,
  Mc 4 (.int .i64 0)]
def f200x30 : List AOper := [
  Mc 16 (.int .i64 4)]
def f200x31 : List AOper := [
  Fa 134 2 6,
  Ld 135 134,
  Bc 136 .lss 135 1,
  Mv 137 136,
  Gf 137 (Fa 138 2 6),
  Gf 137 (Ld 139 138),
  Gf 137 (Bc 140 .gtr 139 4294967295),
  Po 141 137 140,
  Mv 133 141]
def f200x32 : List AOper := [
  Mc 16 (.int .i64 2)]
def f200x33 : List AOper := [
  Mv 143 15,
  Bc 144 .eql 143 21,
  Mv 142 144]
def f200x34 : List AOper := [
  Mc 16 (.int .i64 6)]
def f200x35 : List AOper := [
  Fa 146 4 6,
  Ld 147 146,
  Op 148 (.bin .eql (.t 147) (.c (.int .u32 0))),
  Mv 145 148]
def f200x36 : List AOper := [
  Mc 16 (.int .i64 3)]
def f200x37 : List AOper := [
  Op 149 (.build [.int .i64 0, .int .i64 0, .int .i64 0, .int .i64 0, .int .u32 0, .con (.slice none 0 0), .con (.slice none 0 0), .int .i64 0, .con (.slice none 0 0), .int .u32 0, .bool false, .int .i64 0, .bool false, .int .i64 0, .bool false, .bool false, .int .i64 0, .int .u32 0, .con (.slice none 0 0), .bool false, .int .u32 0, .con (.slice none 0 0), .con (.slice none 0 0), .con (.slice none 0 0), .int .i64 0, .int .i64 0, .con (.slice none 0 0)] [] []),
  Mv 150 16,
  Ca 151 198 [(.c (.int .i64 2)), (.t 150), (.c (.con (.slice none 0 0)))],
  Mv 152 15,
  St 27 2 149,
  St 27 3 151,
  Mv 4 152]
def f200 : AFunc := ⟨153, 1, false, [.cell 2 (some 27), .cell 3 (some 27), .t 4], (.seq (.region f200x0 false) (.seq (.region f200x1 false) (.seq (.region f200x2 false) (.seq (.seq (.region f200x3 false) (.cond (.t 25) (.seq (.region f200x4 false) .ret) .skip)) (.seq (.region f200x5 false) (.seq (.region f200x6 false) (.seq (.region f200x7 false) (.seq (.region f200x8 false) (.seq (.region f200x9 false) (.seq (.region f200x10 false) (.seq (.seq (.region f200x11 false) (.cond (.t 53) (.seq (.region f200x12 false) (.seq (.region f200x13 false) (.region f200x14 false))) .skip)) (.seq (.seq (.region f200x15 false) (.cond (.t 91) (.seq (.region f200x16 false) .ret) .skip)) (.seq (.seq (.region f200x17 false) (.block 0 (.loop f200x24L))) (.seq (.seq (.region f200x25 false) (.cond (.t 124) (.seq (.region f200x26 false) .ret) .skip)) (.seq (.region f200x27 false) (.seq (.seq (.region f200x28 false) (.cond (.t 130) (.seq (.region f200x29 false) .ret) .skip)) (.seq (.region f200x30 false) (.seq (.block 2 (.seq (.region f200x31 false) (.cond (.t 133) (.region f200x32 false) (.seq (.region f200x33 false) (.cond (.t 142) (.region f200x34 false) (.seq (.region f200x35 false) (.cond (.t 145) (.region f200x36 false) .skip))))))) (.seq (.region f200x37 false) .ret)))))))))))))))))))⟩
def f200x24LH : List AItem := [.inLoop f200x24L, .inBlock 0, .code (.seq (.seq (.region f200x25 false) (.cond (.t 124) (.seq (.region f200x26 false) .ret) .skip)) (.seq (.region f200x27 false) (.seq (.seq (.region f200x28 false) (.cond (.t 130) (.seq (.region f200x29 false) .ret) .skip)) (.seq (.region f200x30 false) (.seq (.block 2 (.seq (.region f200x31 false) (.cond (.t 133) (.region f200x32 false) (.seq (.region f200x33 false) (.cond (.t 142) (.region f200x34 false) (.seq (.region f200x35 false) (.cond (.t 145) (.region f200x36 false) .skip))))))) (.seq (.region f200x37 false) .ret))))))]
def f201x0 : List AOper := [
  Op 4 (.alloc (.agg [.int .i64 0, .int .i64 0, .int .i64 0, .int .i64 0, .int .u32 0, .con (.slice none 0 0), .con (.slice none 0 0), .int .i64 0, .con (.slice none 0 0), .int .u32 0, .bool false, .int .i64 0, .bool false, .int .i64 0, .bool false, .bool false, .int .i64 0, .int .u32 0, .con (.slice none 0 0), .bool false, .int .u32 0, .con (.slice none 0 0), .con (.slice none 0 0), .con (.slice none 0 0), .int .i64 0, .int .i64 0, .con (.slice none 0 0)])),
  Op 5 (.alloc (.agg [.int .i64 0, .int .i64 0, .int .i64 0, .int .i64 0, .int .u32 0, .con (.slice none 0 0), .con (.slice none 0 0), .int .i64 0, .con (.slice none 0 0), .int .u32 0, .bool false, .int .i64 0, .bool false, .int .i64 0, .bool false, .bool false, .int .i64 0, .int .u32 0, .con (.slice none 0 0), .bool false, .int .u32 0, .con (.slice none 0 0), .con (.slice none 0 0), .con (.slice none 0 0), .int .i64 0, .int .i64 0, .con (.slice none 0 0)])),
  Mc 6 (.int .i64 0)]
def f201x1 : List AOper := [
  Mv 16 0,
  Op 17 (.build [.con (.slice none 0 0)] [(0, 1)] [(.t 16)]),
  Op 18 (.box (.t 17)),
  Mv 7 18]
def f201x2 : List AOper := [
  Mv 19 7,
  Ca 20 206 [(.t 19), (.c (.int .i64 2))],
  Mv 8 20]
def f201x3 : List AOper := [
  Mv 21 7,
  Mv 22 8,
  Bc 23 .add 22 2,
  Ct 24 207 [21, 23],
  Un 25 .not 24]
def f201x4 : List AOper := [
  Op 26 (.build [.int .i64 0, .int .i64 0, .int .i64 0, .int .i64 0, .int .u32 0, .con (.slice none 0 0), .con (.slice none 0 0), .int .i64 0, .con (.slice none 0 0), .int .u32 0, .bool false, .int .i64 0, .bool false, .int .i64 0, .bool false, .bool false, .int .i64 0, .int .u32 0, .con (.slice none 0 0), .bool false, .int .u32 0, .con (.slice none 0 0), .con (.slice none 0 0), .con (.slice none 0 0), .int .i64 0, .int .i64 0, .con (.slice none 0 0)] [] []),
  Ca 27 198 [(.c (.int .i64 3)), (.c (.int .i64 1)), (.c (.con (.slice none 0 0)))],
  St 27 4 26,
  St 27 5 27,
  Mc 6 (.int .i64 2)]
def f201x5 : List AOper := [
  Mv 28 7,
  Mv 29 8,
  Ct 30 209 [28, 29],
  Op 31 (.build [.con (.slice none 0 0)] [(0, 1)] [(.t 30)]),
  Op 32 (.build [.con (.slice none 0 0), .con (.slice none 0 0)] [(0, 1)] [(.t 31)]),
  Op 33 (.box (.t 32)),
  Mv 9 33]
def f201x6 : List AOper := [
  Mv 34 7,
  Ca 35 206 [(.t 34), (.c (.int .i64 2))],
  Mv 8 35]
def f201x7 : List AOper := [
  Mv 36 7,
  Mv 37 8,
  Ct 38 207 [36, 37],
  Un 39 .not 38]
def f201x8 : List AOper := [
  Op 40 (.build [.int .i64 0, .int .i64 0, .int .i64 0, .int .i64 0, .int .u32 0, .con (.slice none 0 0), .con (.slice none 0 0), .int .i64 0, .con (.slice none 0 0), .int .u32 0, .bool false, .int .i64 0, .bool false, .int .i64 0, .bool false, .bool false, .int .i64 0, .int .u32 0, .con (.slice none 0 0), .bool false, .int .u32 0, .con (.slice none 0 0), .con (.slice none 0 0), .con (.slice none 0 0), .int .i64 0, .int .i64 0, .con (.slice none 0 0)] [] []),
  Ca 41 198 [(.c (.int .i64 3)), (.c (.int .i64 1)), (.c (.con (.slice none 0 0)))],
  St 27 4 40,
  St 27 5 41,
  Mc 6 (.int .i64 2)]
def f201x9 : List AOper := [
  Mv 42 7,
  Mv 43 8,
  Ct 44 209 [42, 43],
  Mv 10 44]
def f201x10 : List AOper := [
  Mv 45 7,
  Nc 46 45,
  Ls 47 1 46,
  Op 48 (.build [.con (.slice none 0 0), .con (.slice none 0 0)] [(0, 1)] [(.t 47)]),
  Op 49 (.box (.t 48)),
  Mv 11 49]
def f201x11 : List AOper := [
  Mv 50 9,
  Ct 51 210 [50],
  Un 52 .not 51,
  Mv 53 52,
  Gf 53 (Mv 54 11),
  Gf 53 (Ct 55 210 [54]),
  Gf 53 (Un 56 .not 55),
  Po 57 53 56]
def f201x12 : List AOper := [
  Op 58 (.build [.int .i64 0, .int .i64 0, .int .i64 0, .int .i64 0, .int .u32 0, .con (.slice none 0 0), .con (.slice none 0 0), .int .i64 0, .con (.slice none 0 0), .int .u32 0, .bool false, .int .i64 0, .bool false, .int .i64 0, .bool false, .bool false, .int .i64 0, .int .u32 0, .con (.slice none 0 0), .bool false, .int .u32 0, .con (.slice none 0 0), .con (.slice none 0 0), .con (.slice none 0 0), .int .i64 0, .int .i64 0, .con (.slice none 0 0)] [] []),
  Ca 59 198 [(.c (.int .i64 3)), (.c (.int .i64 10)), (.c (.con (.slice none 0 0)))],
  St 27 4 58,
  St 27 5 59,
  Mc 6 (.int .i64 2)]
def f201x13 : List AOper := [
  Mv 60 9,
  Nc 61 60,
  Fa 62 1 61,
  Ld 63 62,
  Mv 64 11,
  Nc 65 64,
  Fa 66 1 65,
  Ld 67 66,
  Op 68 (.build [.int .i64 0, .int .i64 0, .int .i64 0, .int .i64 0, .int .u32 0, .con (.slice none 0 0), .con (.slice none 0 0), .int .i64 0, .con (.slice none 0 0), .int .u32 0, .bool false, .int .i64 0, .bool false, .int .i64 0, .bool false, .bool false, .int .i64 0, .int .u32 0, .con (.slice none 0 0), .bool false, .int .u32 0, .con (.slice none 0 0), .con (.slice none 0 0), .con (.slice none 0 0), .int .i64 0, .int .i64 0, .con (.slice none 0 0)] [(0, 1), (6, 1), (23, 1)] [(.c (.int .i64 2)), (.t 63), (.t 67)]),
  Op 12 (.alloc (.agg [.int .i64 0, .int .i64 0, .int .i64 0, .int .i64 0, .int .u32 0, .con (.slice none 0 0), .con (.slice none 0 0), .int .i64 0, .con (.slice none 0 0), .int .u32 0, .bool false, .int .i64 0, .bool false, .int .i64 0, .bool false, .bool false, .int .i64 0, .int .u32 0, .con (.slice none 0 0), .bool false, .int .u32 0, .con (.slice none 0 0), .con (.slice none 0 0), .con (.slice none 0 0), .int .i64 0, .int .i64 0, .con (.slice none 0 0)])),
  Af [9, 3, 7] (St 27 12 68)]
def f201x14 : List AOper := [
  Mv 69 10,
  Ln 70 0 69,
  Bc 71 .gtr 70 0,
  Mv 72 71,
  Gf 72 (Fa 73 23 12),
  Gf 72 (Ld 74 73),
  Gf 72 (Ln 75 0 74),
  Gf 72 (Bc 76 .gtr 75 0),
  Po 77 72 76]
def f201x15 : List AOper := [
  Mv 79 10,
  Mv 80 1,
  Ct 81 69 [79, 80],
  Mv 78 81,
  Ex 82 78 0,
  Ex 83 78 1,
  Op 13 (.alloc (.agg [.int .i64 0, .con (.slice none 0 0), .int .u32 0, .bool false, .int .i64 0, .bool false, .int .i64 0, .bool false, .bool false, .int .i64 0, .int .u32 0, .con (.slice none 0 0), .bool false, .int .u32 0, .con (.slice none 0 0), .con (.slice none 0 0)])),
  St 16 13 82,
  Mv 14 83]
def f201x16 : List AOper := [
  Mv 84 14,
  Bc 85 .eql 84 6]
def f201x17 : List AOper := [
  Op 86 (.build [.int .i64 0, .int .i64 0, .int .i64 0, .int .i64 0, .int .u32 0, .con (.slice none 0 0), .con (.slice none 0 0), .int .i64 0, .con (.slice none 0 0), .int .u32 0, .bool false, .int .i64 0, .bool false, .int .i64 0, .bool false, .bool false, .int .i64 0, .int .u32 0, .con (.slice none 0 0), .bool false, .int .u32 0, .con (.slice none 0 0), .con (.slice none 0 0), .con (.slice none 0 0), .int .i64 0, .int .i64 0, .con (.slice none 0 0)] [] []),
  Ca 87 198 [(.c (.int .i64 3)), (.c (.int .i64 3)), (.c (.con (.slice none 0 0)))],
  Mv 88 14,
  St 27 4 86,
  St 27 5 87,
  Mv 6 88]
def f201x18 : List AOper := [
  Mv 89 14,
  Bc 90 .neq 89 0]
def f201x19 : List AOper := [
  Op 91 (.build [.int .i64 0, .int .i64 0, .int .i64 0, .int .i64 0, .int .u32 0, .con (.slice none 0 0), .con (.slice none 0 0), .int .i64 0, .con (.slice none 0 0), .int .u32 0, .bool false, .int .i64 0, .bool false, .int .i64 0, .bool false, .bool false, .int .i64 0, .int .u32 0, .con (.slice none 0 0), .bool false, .int .u32 0, .con (.slice none 0 0), .con (.slice none 0 0), .con (.slice none 0 0), .int .i64 0, .int .i64 0, .con (.slice none 0 0)] [] []),
  Ca 92 198 [(.c (.int .i64 3)), (.c (.int .i64 1)), (.c (.con (.slice none 0 0)))],
  Mv 93 14,
  St 27 4 91,
  St 27 5 92,
  Mv 6 93]
def f201x20 : List AOper := [
  Ls 94 16 13,
  Fa 95 7 12,
  St 16 95 94]
def f201x21 : List AOper := [
  Mv 96 10,
  Ln 97 0 96,
  Bc 98 .gtr 97 0,
  Mv 99 98,
  Gt 99 (Fa 100 23 12),
  Gt 99 (Ld 101 100),
  Gt 99 (Ln 102 0 101),
  Gt 99 (Bc 103 .eql 102 0),
  Pa 104 99 103]
def f201x22 : List AOper := [
  Op 105 (.build [.int .i64 0, .int .i64 0, .int .i64 0, .int .i64 0, .int .u32 0, .con (.slice none 0 0), .con (.slice none 0 0), .int .i64 0, .con (.slice none 0 0), .int .u32 0, .bool false, .int .i64 0, .bool false, .int .i64 0, .bool false, .bool false, .int .i64 0, .int .u32 0, .con (.slice none 0 0), .bool false, .int .u32 0, .con (.slice none 0 0), .con (.slice none 0 0), .con (.slice none 0 0), .int .i64 0, .int .i64 0, .con (.slice none 0 0)] [] []),
  Ca 106 198 [(.c (.int .i64 3)), (.c (.int .i64 1)), (.c (.con (.slice none 0 0)))],
  St 27 4 105,
  St 27 5 106,
  Mc 6 (.int .i64 2)]
def f201x23 : List AOper := [
  Ls 107 27 12,
  Ct 108 144 [107],
  Mv 15 108]
def f201x24 : List AOper := [
  Mv 109 15,
  Bc 110 .neq 109 0]
def f201x25 : List AOper := [
  Op 111 (.build [.int .i64 0, .int .i64 0, .int .i64 0, .int .i64 0, .int .u32 0, .con (.slice none 0 0), .con (.slice none 0 0), .int .i64 0, .con (.slice none 0 0), .int .u32 0, .bool false, .int .i64 0, .bool false, .int .i64 0, .bool false, .bool false, .int .i64 0, .int .u32 0, .con (.slice none 0 0), .bool false, .int .u32 0, .con (.slice none 0 0), .con (.slice none 0 0), .con (.slice none 0 0), .int .i64 0, .int .i64 0, .con (.slice none 0 0)] [] []),
  Ca 112 198 [(.c (.int .i64 3)), (.c (.int .i64 10)), (.c (.con (.slice none 0 0)))],
  Mv 113 15,
  St 27 4 111,
  St 27 5 112,
  Mv 6 113]
def f201x26 : List AOper := [
  Ls 114 27 12,
  Op 115 (.build [.int .i64 0, .int .i64 0, .int .i64 0, .int .i64 0, .int .u32 0, .con (.slice none 0 0), .con (.slice none 0 0), .int .i64 0, .con (.slice none 0 0), .int .u32 0, .bool false, .int .i64 0, .bool false, .int .i64 0, .bool false, .bool false, .int .i64 0, .int .u32 0, .con (.slice none 0 0), .bool false, .int .u32 0, .con (.slice none 0 0), .con (.slice none 0 0), .con (.slice none 0 0), .int .i64 0, .int .i64 0, .con (.slice none 0 0)] [] []),
  St 27 4 114,
  St 27 5 115,
  Mc 6 (.int .i64 0)]
def f201 : AFunc := ⟨116, 2, false, [.cell 4 (some 27), .cell 5 (some 27), .t 6], (.seq (.region f201x0 false) (.seq (.region f201x1 false) (.seq (.region f201x2 false) (.seq (.seq (.region f201x3 false) (.cond (.t 25) (.seq (.region f201x4 false) .ret) .skip)) (.seq (.region f201x5 false) (.seq (.region f201x6 false) (.seq (.seq (.region f201x7 false) (.cond (.t 39) (.seq (.region f201x8 false) .ret) .skip)) (.seq (.region f201x9 false) (.seq (.region f201x10 false) (.seq (.seq (.region f201x11 false) (.cond (.t 57) (.seq (.region f201x12 false) .ret) .skip)) (.seq (.region f201x13 true) (.seq (.seq (.region f201x14 false) (.cond (.t 77) (.seq (.region f201x15 false) (.seq (.seq (.region f201x16 false) (.cond (.t 85) (.seq (.region f201x17 false) .ret) .skip)) (.seq (.seq (.region f201x18 false) (.cond (.t 90) (.seq (.region f201x19 false) .ret) .skip)) (.region f201x20 false)))) .skip)) (.seq (.seq (.region f201x21 false) (.cond (.t 104) (.seq (.region f201x22 false) .ret) .skip)) (.seq (.seq (.region f201x23 false) (.seq (.region f201x24 false) (.cond (.t 110) (.seq (.region f201x25 false) .ret) .skip))) (.seq (.region f201x26 false) .ret)))))))))))))))⟩
end Go.AM.IR
set_option maxRecDepth 100000
namespace Go.AM.IR
open Go Go.AM
def f202x0 : List AOper := [
  Op 1 (.box (.t 0)),
  Op 2 (.alloc (.agg [.int .i64 0, .int .i64 0, .int .i64 0, .int .i64 0, .int .u32 0, .con (.slice none 0 0), .con (.slice none 0 0), .int .i64 0, .con (.slice none 0 0), .int .u32 0, .bool false, .int .i64 0, .bool false, .int .i64 0, .bool false, .bool false, .int .i64 0, .int .u32 0, .con (.slice none 0 0), .bool false, .int .u32 0, .con (.slice none 0 0), .con (.slice none 0 0), .con (.slice none 0 0), .int .i64 0, .int .i64 0, .con (.slice none 0 0)]))]
def f202x1 : List AOper := [
  Ls 11 27 1,
  Ca 12 193 [(.t 11), (.c (.bool true))],
  Mv 10 12,
  Ex 13 10 0,
  Ex 14 10 1,
  Mv 3 13,
  Mv 4 14]
def f202x2 : List AOper := [
  Mv 15 4,
  Bc 16 .eql 15 0]
def f202x3 : List AOper := [
  Mv 18 3,
  Ca 19 194 [(.t 18), (.c (.bool true))],
  Mv 17 19,
  Ex 20 17 0,
  Ex 21 17 1,
  Ex 22 17 2,
  Ex 23 17 3,
  Op 5 (.alloc (.agg [.int .i64 0, .int .i64 0, .int .i64 0, .int .i64 0, .int .u32 0, .con (.slice none 0 0), .con (.slice none 0 0), .int .i64 0, .con (.slice none 0 0), .int .u32 0, .bool false, .int .i64 0, .bool false, .int .i64 0, .bool false, .bool false, .int .i64 0, .int .u32 0, .con (.slice none 0 0), .bool false, .int .u32 0, .con (.slice none 0 0), .con (.slice none 0 0), .con (.slice none 0 0), .int .i64 0, .int .i64 0, .con (.slice none 0 0)])),
  Op 7 (.alloc (.agg [.int .i64 0, .int .i64 0, .int .i64 0, .int .i64 0, .int .u32 0, .con (.slice none 0 0), .con (.slice none 0 0), .int .i64 0, .con (.slice none 0 0), .int .u32 0, .bool false, .int .i64 0, .bool false, .int .i64 0, .bool false, .bool false, .int .i64 0, .int .u32 0, .con (.slice none 0 0), .bool false, .int .u32 0, .con (.slice none 0 0), .con (.slice none 0 0), .con (.slice none 0 0), .int .i64 0, .int .i64 0, .con (.slice none 0 0)])),
  St 27 5 20,
  Mv 6 21,
  St 27 7 22,
  Mv 8 23]
def f202x4 : List AOper := [
  Ls 24 27 5,
  St 27 2 24]
def f202x5 : List AOper := [
  Ls 25 27 1,
  Op 9 (.alloc (.agg [.int .i64 0, .int .i64 0, .int .i64 0, .int .i64 0, .int .u32 0, .con (.slice none 0 0), .con (.slice none 0 0), .int .i64 0, .con (.slice none 0 0), .int .u32 0, .bool false, .int .i64 0, .bool false, .int .i64 0, .bool false, .bool false, .int .i64 0, .int .u32 0, .con (.slice none 0 0), .bool false, .int .u32 0, .con (.slice none 0 0), .con (.slice none 0 0), .con (.slice none 0 0), .int .i64 0, .int .i64 0, .con (.slice none 0 0)])),
  St 27 9 25]
def f202x6 : List AOper := [
  Fa 26 23 1,
  Ld 27 26,
  Ln 28 0 27,
  Bc 29 .gtr 28 1]
def f202x7 : List AOper := [
  Fa 30 0 1,
  Ld 31 30,
  Fa 32 7 1,
  Ls 33 16 32,
  Fa 34 23 1,
  Ld 35 34,
  Af [5] (Op 36 (.slc 2 (.t 35) none (some (.c (.int .i64 1))) (some (.c (.int .i64 1))))),
  Op 37 (.build [.int .i64 0, .int .i64 0, .int .i64 0, .int .i64 0, .int .u32 0, .con (.slice none 0 0), .con (.slice none 0 0), .int .i64 0, .con (.slice none 0 0), .int .u32 0, .bool false, .int .i64 0, .bool false, .int .i64 0, .bool false, .bool false, .int .i64 0, .int .u32 0, .con (.slice none 0 0), .bool false, .int .u32 0, .con (.slice none 0 0), .con (.slice none 0 0), .con (.slice none 0 0), .int .i64 0, .int .i64 0, .con (.slice none 0 0)] [(0, 1), (7, 16), (23, 1)] [(.t 31), (.t 33), (.t 36)]),
  Af [1, 3, 6, 5] (Ct 38 202 [37]),
  Af [8, 1, 3, 6, 5] (St 27 9 38)]
def f202x8 : List AOper := [
  Op 39 (.bsl 2 [.int .u32 0, .int .i64 0] 0 [] []),
  Fa 40 6 1,
  Ld 41 40,
  Ap 42 2 16 39 41,
  Fa 43 6 9,
  St 1 43 42]
def f202x9 : List AOper := [
  Op 44 (.bsl 2 [.int .u32 0, .int .i64 0] 0 [] []),
  Fa 45 23 1,
  Ld 46 45,
  Ap 47 2 16 44 46,
  Fa 48 23 9,
  St 1 48 47]
def f202x10 : List AOper := [
  Ls 49 27 9,
  St 27 2 49]
def f202 : AFunc := ⟨50, 1, false, [.cell 2 (some 27)], (.seq (.region f202x0 false) (.seq (.region f202x1 false) (.seq (.seq (.region f202x2 false) (.cond (.t 16) (.seq (.region f202x3 false) (.seq (.region f202x4 false) .ret)) .skip)) (.seq (.region f202x5 false) (.seq (.seq (.region f202x6 false) (.cond (.t 29) (.region f202x7 true) .skip)) (.seq (.region f202x8 false) (.seq (.region f202x9 false) (.seq (.region f202x10 false) .ret))))))))⟩
def f67x0 : List AOper := [
  Op 2 (.box (.t 0)),
  Mc 4 (.con (.slice none 0 0)),
  Mc 5 (.int .i64 0)]
def f67x1 : List AOper := [
  Ls 10 16 2,
  Ct 11 65 [10],
  Mv 6 11]
def f67x2 : List AOper := [
  Mv 12 6,
  Bc 13 .neq 12 0]
def f67x3 : List AOper := [
  Mv 14 6,
  Mc 4 (.con (.slice none 0 0)),
  Mv 5 14]
def f67x4 : List AOper := [
  Mv 15 1,
  Op 16 (.build [.con (.slice none 0 0), .bool false, .bool false] [(1, 1)] [(.t 15)]),
  Op 17 (.box (.t 16)),
  Mv 7 17]
def f67x5 : List AOper := [
  Mv 18 7,
  Fa 19 0 2,
  Ld 20 19,
  Cv 21 .u8 20,
  Op 22 (.bsl 1 [.int .u8 0] 1 [0] [(.t 21)]),
  Op 23 (.bsl 1 [.con (.slice none 0 0)] 1 [0] [(.t 22)]),
  Ca 24 83 [(.t 18), (.c (.int .i64 1)), (.t 23)]]
def f67x6 : List AOper := [
  Mv 25 7,
  Mv 26 7,
  Fa 27 1 2,
  Ld 28 27,
  Ct 29 84 [26, 28],
  Op 30 (.bsl 1 [.con (.slice none 0 0)] 1 [0] [(.t 29)]),
  Ca 31 83 [(.t 25), (.c (.int .i64 2)), (.t 30)]]
def f67x7 : List AOper := [
  Mv 32 7,
  Fa 33 2 2,
  Ld 34 33,
  Cv 35 .i64 34,
  Ct 36 85 [35],
  Op 37 (.bsl 1 [.con (.slice none 0 0)] 1 [0] [(.t 36)]),
  Ca 38 83 [(.t 32), (.c (.int .i64 3)), (.t 37)]]
def f67x8 : List AOper := [
  Fa 39 3 2,
  Ld 40 39]
def f67x9 : List AOper := [
  Mv 41 7,
  Fa 42 4 2,
  Ld 43 42,
  Ct 44 85 [43],
  Op 45 (.bsl 1 [.con (.slice none 0 0)] 1 [0] [(.t 44)]),
  Ca 46 83 [(.t 41), (.c (.int .i64 4)), (.t 45)]]
def f67x10 : List AOper := [
  Fa 47 5 2,
  Ld 48 47]
def f67x11 : List AOper := [
  Mv 49 7,
  Fa 50 6 2,
  Ld 51 50,
  Ct 52 85 [51],
  Op 53 (.bsl 1 [.con (.slice none 0 0)] 1 [0] [(.t 52)]),
  Ca 54 83 [(.t 49), (.c (.int .i64 5)), (.t 53)]]
def f67x12 : List AOper := [
  Fa 55 7 2,
  Ld 56 55]
def f67x13 : List AOper := [
  Mv 57 7,
  Ca 58 83 [(.t 57), (.c (.int .i64 6)), (.c (.con (.slice none 0 0)))]]
def f67x14 : List AOper := [
  Fa 59 8 2,
  Ld 60 59]
def f67x15 : List AOper := [
  Mv 61 7,
  Mv 62 7,
  Fa 63 9 2,
  Ld 64 63,
  Af [3] (Ct 65 86 [62, 64]),
  Fa 66 10 2,
  Ld 67 66,
  Cv 68 .i64 67,
  Af [4, 6, 3] (Ct 69 85 [68]),
  Af [8, 4, 6, 3] (Op 70 (.bsl 1 [.con (.slice none 0 0)] 2 [0, 1] [(.t 65), (.t 69)])),
  Af [9, 8, 4, 6, 3] (Ca 71 83 [(.t 61), (.c (.int .i64 7)), (.t 70)])]
def f67x16 : List AOper := [
  Fa 72 11 2,
  Ld 73 72,
  Ln 74 0 73,
  Bc 75 .gtr 74 0]
def f67x17 : List AOper := [
  Mv 76 7,
  Fa 77 11 2,
  Ld 78 77,
  Ct 79 87 [78],
  Op 80 (.bsl 1 [.con (.slice none 0 0)] 1 [0] [(.t 79)]),
  Ca 81 83 [(.t 76), (.c (.int .i64 8)), (.t 80)]]
def f67x18 : List AOper := [
  Fa 82 12 2,
  Ld 83 82]
def f67x19 : List AOper := [
  Mv 84 7,
  Fa 85 13 2,
  Ld 86 85,
  Cv 87 .i64 86,
  Ct 88 85 [87],
  Op 89 (.bsl 1 [.con (.slice none 0 0)] 1 [0] [(.t 88)]),
  Ca 90 83 [(.t 84), (.c (.int .i64 9)), (.t 89)]]
def f67x20 : List AOper := [
  Fa 91 14 2,
  Ld 92 91,
  Ln 93 0 92,
  Bc 94 .gtr 93 0]
def f67x21 : List AOper := [
  Mv 95 7,
  Fa 96 14 2,
  Ld 97 96,
  Ct 98 87 [97],
  Op 99 (.bsl 1 [.con (.slice none 0 0)] 1 [0] [(.t 98)]),
  Ca 100 83 [(.t 95), (.c (.int .i64 10)), (.t 99)]]
def f67x22 : List AOper := [
  Fa 101 15 2,
  Ld 102 101,
  Ln 103 0 102,
  Mc 104 (.int .i64 0)]
def f67x23 : List AOper := [
  Bi 105 .lss 104 103]
def f67x24 : List AOper := [
  Ia 106 2 102 104,
  Ls 107 2 106,
  Op 9 (.alloc (.agg [.int .i64 0, .con (.slice none 0 0)])),
  St 2 9 107]
def f67x25 : List AOper := [
  Mv 108 7,
  Fa 109 0 9,
  Ld 110 109,
  Fa 111 1 9,
  Ld 112 111,
  Op 113 (.bsl 1 [.con (.slice none 0 0)] 1 [0] [(.t 112)]),
  Ct 114 83 [108, 110, 113]]
def f67x26 : List AOper := [
  Bc 115 .add 104 1,
  Mv 104 115]
def f67x27L : ACode := (.seq (.region f67x23 false) (.seq (.cond (.t 105) .skip (.exit 0)) (.seq (.block 1 (.seq (.region f67x24 false) (.region f67x25 false))) (.region f67x26 false))))
def f67x28 : List AOper := [
  Mv 116 7,
  Nc 117 116,
  Fa 118 2 117,
  Ld 119 118]
def f67x29 : List AOper := [
  Mc 4 (.con (.slice none 0 0)),
  Mc 5 (.int .i64 5)]
def f67x30 : List AOper := [
  Mv 120 7,
  Nc 121 120,
  Fa 122 0 121,
  Ld 123 122,
  Mv 4 123,
  Mc 5 (.int .i64 0)]
def f67 : AFunc := ⟨124, 2, false, [.t 4, .t 5], (.seq (.region f67x0 false) (.seq (.seq (.region f67x1 false) (.seq (.region f67x2 false) (.cond (.t 13) (.seq (.region f67x3 false) .ret) .skip))) (.seq (.region f67x4 false) (.seq (.region f67x5 false) (.seq (.region f67x6 false) (.seq (.region f67x7 false) (.seq (.seq (.region f67x8 false) (.cond (.t 40) (.region f67x9 false) .skip)) (.seq (.seq (.region f67x10 false) (.cond (.t 48) (.region f67x11 false) .skip)) (.seq (.seq (.region f67x12 false) (.cond (.t 56) (.region f67x13 false) .skip)) (.seq (.seq (.region f67x14 false) (.cond (.t 60) (.region f67x15 true) .skip)) (.seq (.seq (.region f67x16 false) (.cond (.t 75) (.region f67x17 false) .skip)) (.seq (.seq (.region f67x18 false) (.cond (.t 83) (.region f67x19 false) .skip)) (.seq (.seq (.region f67x20 false) (.cond (.t 94) (.region f67x21 false) .skip)) (.seq (.seq (.region f67x22 false) (.block 0 (.loop f67x27L))) (.seq (.seq (.region f67x28 false) (.cond (.t 119) (.seq (.region f67x29 false) .ret) .skip)) (.seq (.region f67x30 false) .ret))))))))))))))))⟩
def f67x27LH : List AItem := [.inLoop f67x27L, .inBlock 0, .code (.seq (.seq (.region f67x28 false) (.cond (.t 119) (.seq (.region f67x29 false) .ret) .skip)) (.seq (.region f67x30 false) .ret))]
def f203x0 : List AOper := [
  Mc 4 (.int .i64 0)]
def f203x1 : List AOper := [
  Mc 5 (.int .i64 0)]
def f203x2 : List AOper := [
  Mv 6 5,
  Mv 7 0,
  Ln 8 0 7,
  Bi 9 .lss 6 8]
def f203x3 : List AOper := [
  Mv 10 1,
  Mv 11 0,
  Mv 12 5,
  Ia 13 2 11 12,
  Fa 14 1 13,
  Ld 15 14,
  Bc 16 .add 15 7,
  Bc 17 .quo 16 8,
  Op 18 (.bin .add (.c (.int .i64 1)) (.t 17)),
  Bi 19 .sub 10 18,
  Mv 1 19]
def f203x4 : List AOper := [
  Mv 20 1,
  Bc 21 .lss 20 0]
def f203x5 : List AOper := [
  Mv 22 5,
  Bc 23 .add 22 1,
  Mv 5 23]
def f203x6L : ACode := (.seq (.seq (.region f203x2 false) (.cond (.t 9) .skip (.exit 0))) (.block 1 (.seq (.region f203x3 false) (.seq (.seq (.region f203x4 false) (.cond (.t 21) (.exit 0) .skip)) (.region f203x5 false)))))
def f203x7 : List AOper := [
  Mv 24 5,
  Mv 4 24]
def f203 : AFunc := ⟨25, 2, false, [.t 4], (.seq (.region f203x0 false) (.seq (.region f203x1 false) (.seq (.block 0 (.loop f203x6L)) (.seq (.region f203x7 false) .ret))))⟩
def f203x6LH : List AItem := [.inLoop f203x6L, .inBlock 0, .code (.seq (.region f203x7 false) .ret)]
def f169x0 : List AOper := [
  Mc 4 (.bool false)]
def f169x1 : List AOper := [
  Mv 6 0,
  Ln 7 0 6,
  Mv 8 1,
  Ln 9 0 8,
  Bi 10 .neq 7 9]
def f169x2 : List AOper := [
  Mc 4 (.bool false)]
def f169x3 : List AOper := [
  Mv 11 0,
  Ln 12 0 11,
  Mc 13 (.int .i64 0)]
def f169x4 : List AOper := [
  Bi 14 .lss 13 12]
def f169x5 : List AOper := [
  Mv 15 13,
  Mv 5 15]
def f169x6 : List AOper := [
  Mv 16 0,
  Mv 17 5,
  Ia 18 2 16 17,
  Af [2] (Ls 19 2 18),
  Mv 20 1,
  Mv 21 5,
  Ia 22 2 20 21,
  Af [6] (Ls 23 2 22),
  Op 24 (.eqs [.int, .int] true (.t 19) (.t 23))]
def f169x7 : List AOper := [
  Mc 4 (.bool false)]
def f169x8 : List AOper := [
  Bc 25 .add 13 1,
  Mv 13 25]
def f169x9L : ACode := (.seq (.region f169x4 false) (.seq (.cond (.t 14) .skip (.exit 0)) (.seq (.block 1 (.seq (.region f169x5 false) (.seq (.region f169x6 true) (.cond (.t 24) (.seq (.region f169x7 false) .ret) .skip)))) (.region f169x8 false))))
def f169x10 : List AOper := [
  Mc 4 (.bool true)]
def f169 : AFunc := ⟨26, 2, false, [.t 4], (.seq (.region f169x0 false) (.seq (.seq (.region f169x1 false) (.cond (.t 10) (.seq (.region f169x2 false) .ret) .skip)) (.seq (.seq (.region f169x3 false) (.block 0 (.loop f169x9L))) (.seq (.region f169x10 false) .ret))))⟩
def f169x9LH : List AItem := [.inLoop f169x9L, .inBlock 0, .code (.seq (.region f169x10 false) .ret)]
def f72x0 : List AOper := [
  Op 2 (.box (.t 0)),
  Op 3 (.box (.t 1)),
  Mc 4 (.bool false)]
def f72x1 : List AOper := [
  Fa 6 0 2,
  Ld 7 6,
  Fa 8 0 3,
  Ld 9 8,
  Bi 10 .neq 7 9,
  Mv 11 10,
  Gf 11 (Fa 12 1 2),
  Gf 11 (Ld 13 12),
  Gf 11 (Fa 14 1 3),
  Gf 11 (Ld 15 14),
  Gf 11 (Ct 16 103 [13, 15]),
  Gf 11 (Un 17 .not 16),
  Po 18 11 17,
  Mv 19 18,
  Gf 19 (Fa 20 2 2),
  Gf 19 (Ld 21 20),
  Gf 19 (Fa 22 2 3),
  Gf 19 (Ld 23 22),
  Gf 19 (Bi 24 .neq 21 23),
  Po 25 19 24,
  Mv 26 25,
  Gf 26 (Fa 27 3 2),
  Gf 26 (Ld 28 27),
  Gf 26 (Fa 29 3 3),
  Gf 26 (Ld 30 29),
  Gf 26 (Op 31 (.eqb true (.t 28) (.t 30))),
  Po 32 26 31,
  Mv 33 32,
  Gf 33 (Fa 34 4 2),
  Gf 33 (Ld 35 34),
  Gf 33 (Fa 36 4 3),
  Gf 33 (Ld 37 36),
  Gf 33 (Bi 38 .neq 35 37),
  Po 39 33 38,
  Mv 40 39,
  Gf 40 (Fa 41 5 2),
  Gf 40 (Ld 42 41),
  Gf 40 (Fa 43 5 3),
  Gf 40 (Ld 44 43),
  Gf 40 (Op 45 (.eqb true (.t 42) (.t 44))),
  Po 46 40 45,
  Mv 47 46,
  Gf 47 (Fa 48 6 2),
  Gf 47 (Ld 49 48),
  Gf 47 (Fa 50 6 3),
  Gf 47 (Ld 51 50),
  Gf 47 (Bi 52 .neq 49 51),
  Po 53 47 52,
  Mv 54 53,
  Gf 54 (Fa 55 7 2),
  Gf 54 (Ld 56 55),
  Gf 54 (Fa 57 7 3),
  Gf 54 (Ld 58 57),
  Gf 54 (Op 59 (.eqb true (.t 56) (.t 58))),
  Po 60 54 59]
def f72x2 : List AOper := [
  Mc 4 (.bool false)]
def f72x3 : List AOper := [
  Fa 61 8 2,
  Ld 62 61,
  Fa 63 8 3,
  Ld 64 63,
  Op 65 (.eqb true (.t 62) (.t 64)),
  Mv 66 65,
  Gf 66 (Fa 67 9 2),
  Gf 66 (Ld 68 67),
  Gf 66 (Fa 69 9 3),
  Gf 66 (Ld 70 69),
  Gf 66 (Bi 71 .neq 68 70),
  Po 72 66 71,
  Mv 73 72,
  Gf 73 (Fa 74 10 2),
  Gf 73 (Ld 75 74),
  Gf 73 (Fa 76 10 3),
  Gf 73 (Ld 77 76),
  Gf 73 (Bi 78 .neq 75 77),
  Po 79 73 78,
  Mv 80 79,
  Gf 80 (Fa 81 11 2),
  Gf 80 (Ld 82 81),
  Gf 80 (Fa 83 11 3),
  Gf 80 (Ld 84 83),
  Gf 80 (Ct 85 104 [82, 84]),
  Gf 80 (Un 86 .not 85),
  Po 87 80 86,
  Mv 88 87,
  Gf 88 (Fa 89 12 2),
  Gf 88 (Ld 90 89),
  Gf 88 (Fa 91 12 3),
  Gf 88 (Ld 92 91),
  Gf 88 (Op 93 (.eqb true (.t 90) (.t 92))),
  Po 94 88 93,
  Mv 95 94,
  Gf 95 (Fa 96 13 2),
  Gf 95 (Ld 97 96),
  Gf 95 (Fa 98 13 3),
  Gf 95 (Ld 99 98),
  Gf 95 (Bi 100 .neq 97 99),
  Po 101 95 100,
  Mv 102 101,
  Gf 102 (Fa 103 14 2),
  Gf 102 (Ld 104 103),
  Gf 102 (Fa 105 14 3),
  Gf 102 (Ld 106 105),
  Gf 102 (Ct 107 104 [104, 106]),
  Gf 102 (Un 108 .not 107),
  Po 109 102 108,
  Mv 110 109,
  Gf 110 (Fa 111 15 2),
  Gf 110 (Ld 112 111),
  Gf 110 (Ln 113 0 112),
  Gf 110 (Fa 114 15 3),
  Gf 110 (Ld 115 114),
  Gf 110 (Ln 116 0 115),
  Gf 110 (Bi 117 .neq 113 116),
  Po 118 110 117]
def f72x4 : List AOper := [
  Mc 4 (.bool false)]
def f72x5 : List AOper := [
  Fa 119 15 2,
  Ld 120 119,
  Ln 121 0 120,
  Mc 122 (.int .i64 0)]
def f72x6 : List AOper := [
  Bi 123 .lss 122 121]
def f72x7 : List AOper := [
  Mv 124 122,
  Mv 5 124]
def f72x8 : List AOper := [
  Fa 125 15 2,
  Ld 126 125,
  Mv 127 5,
  Af [1] (Ia 128 2 126 127),
  Fa 129 0 128,
  Af [3, 1] (Ld 130 129),
  Fa 131 15 3,
  Ld 132 131,
  Mv 133 5,
  Af [7] (Ia 134 2 132 133),
  Fa 135 0 134,
  Af [9, 7] (Ld 136 135),
  Bi 137 .neq 130 136,
  Mv 138 137,
  Gf 138 (Fa 139 15 2),
  Af [5, 11, 3, 1, 9, 7] (Gf 138 (Ld 140 139)),
  Gf 138 (Mv 141 5),
  Af [15, 5, 11, 3, 1, 9, 7] (Gf 138 (Ia 142 2 140 141)),
  Gf 138 (Fa 143 1 142),
  Af [17, 15, 5, 11, 3, 1, 9, 7] (Gf 138 (Ld 144 143)),
  Af [19, 17, 15, 5, 11, 3, 1, 9, 7] (Gf 138 (Op 145 (.b2s (.t 144)))),
  Gf 138 (Fa 146 15 3),
  Af [5, 11, 3, 1, 9, 7] (Gf 138 (Ld 147 146)),
  Gf 138 (Mv 148 5),
  Af [22, 5, 11, 3, 1, 9, 7] (Gf 138 (Ia 149 2 147 148)),
  Gf 138 (Fa 150 1 149),
  Af [24, 22, 5, 11, 3, 1, 9, 7] (Gf 138 (Ld 151 150)),
  Af [26, 24, 22, 5, 11, 3, 1, 9, 7] (Gf 138 (Op 152 (.b2s (.t 151)))),
  Gf 138 (Bi 153 .neq 145 152),
  Po 154 138 153]
def f72x9 : List AOper := [
  Mc 4 (.bool false)]
def f72x10 : List AOper := [
  Bc 155 .add 122 1,
  Mv 122 155]
def f72x11L : ACode := (.seq (.region f72x6 false) (.seq (.cond (.t 123) .skip (.exit 0)) (.seq (.block 1 (.seq (.region f72x7 false) (.seq (.region f72x8 true) (.cond (.t 154) (.seq (.region f72x9 false) .ret) .skip)))) (.region f72x10 false))))
def f72x12 : List AOper := [
  Mc 4 (.bool true)]
def f72 : AFunc := ⟨156, 2, false, [.t 4], (.seq (.region f72x0 false) (.seq (.seq (.region f72x1 false) (.cond (.t 60) (.seq (.region f72x2 false) .ret) .skip)) (.seq (.seq (.region f72x3 false) (.cond (.t 118) (.seq (.region f72x4 false) .ret) .skip)) (.seq (.seq (.region f72x5 false) (.block 0 (.loop f72x11L))) (.seq (.region f72x12 false) .ret)))))⟩
def f72x11LH : List AItem := [.inLoop f72x11L, .inBlock 0, .code (.seq (.region f72x12 false) .ret)]
def f26x0 : List AOper := [
  Op 1 (.box (.t 0)),
  Mc 2 (.int .i64 0)]
def f26x1 : List AOper := [
  Fa 6 1 1,
  Ld 7 6,
  Af [1] (Ct 8 54 [7]),
  Fa 9 11 1,
  Ld 10 9,
  Af [4] (Ln 11 0 10),
  Bi 12 .add 8 11,
  Fa 13 14 1,
  Ld 14 13,
  Af [8] (Ln 15 0 14),
  Bi 16 .add 12 15,
  Fa 17 15 1,
  Ld 18 17,
  Af [12] (Ln 19 0 18),
  Bi 20 .add 16 19,
  Mv 3 20]
def f26x2 : List AOper := [
  Fa 21 15 1,
  Ld 22 21,
  Ln 23 0 22,
  Mc 24 (.int .i64 0)]
def f26x3 : List AOper := [
  Bi 25 .lss 24 23]
def f26x4 : List AOper := [
  Ia 26 2 22 24,
  Ls 27 2 26,
  Op 5 (.alloc (.agg [.int .i64 0, .con (.slice none 0 0)])),
  St 2 5 27]
def f26x5 : List AOper := [
  Mv 28 3,
  Fa 29 1 5,
  Ld 30 29,
  Ln 31 0 30,
  Bc 32 .quo 31 8,
  Bi 33 .add 28 32,
  Mv 3 33]
def f26x6 : List AOper := [
  Bc 34 .add 24 1,
  Mv 24 34]
def f26x7L : ACode := (.seq (.region f26x3 false) (.seq (.cond (.t 25) .skip (.exit 0)) (.seq (.block 1 (.seq (.region f26x4 false) (.region f26x5 false))) (.region f26x6 false))))
def f26x8 : List AOper := [
  Mv 35 3,
  Mv 2 35]
def f26 : AFunc := ⟨36, 1, false, [.t 2], (.seq (.region f26x0 false) (.seq (.region f26x1 true) (.seq (.seq (.region f26x2 false) (.block 0 (.loop f26x7L))) (.seq (.region f26x8 false) .ret))))⟩
def f26x7LH : List AItem := [.inLoop f26x7L, .inBlock 0, .code (.seq (.region f26x8 false) .ret)]
def f170x0 : List AOper := [
  Op 1 (.box (.t 0)),
  Mc 2 (.int .i64 0)]
def f170x1 : List AOper := [
  Mc 3 (.int .i64 0),
  Mc 4 (.bool false)]
def f170x2 : List AOper := [
  Fa 8 5 1,
  Ld 9 8,
  Ln 10 0 9,
  Mc 11 (.int .i64 0)]
def f170x3 : List AOper := [
  Bi 12 .lss 11 10]
def f170x4 : List AOper := [
  Mv 13 11,
  Ia 14 2 9 11,
  Ls 15 2 14,
  Op 6 (.alloc (.agg [.int .i64 0, .con (.slice none 0 0)])),
  Mv 5 13,
  St 2 6 15]
def f170x5 : List AOper := [
  Fa 16 1 6,
  Ld 17 16,
  Ln 18 0 17,
  Mv 7 18]
def f170x6 : List AOper := [
  Fa 19 0 6,
  Ld 20 19]
def f170x7 : List AOper := [
  Bc 22 .eql 20 2,
  Mv 21 22]
def f170x8 : List AOper := [
  Mc 7 (.int .i64 0)]
def f170x9 : List AOper := [
  Bc 24 .eql 20 64,
  Mv 23 24]
def f170x10 : List AOper := [
  Mc 7 (.int .i64 2)]
def f170x11 : List AOper := [
  Bc 26 .eql 20 65,
  Mv 25 26]
def f170x12 : List AOper := [
  Mc 7 (.int .i64 4)]
def f170x13 : List AOper := [
  Mc 4 (.bool true)]
def f170x14 : List AOper := [
  Fa 28 0 6,
  Ld 29 28,
  Bc 30 .lss 29 1,
  Mv 31 30,
  Gf 31 (Fa 32 0 6),
  Gf 31 (Ld 33 32),
  Gf 31 (Bc 34 .gtr 33 255),
  Po 35 31 34,
  Mv 27 35]
def f170x15 : List AOper := [
  Mc 2 (.int .i64 5)]
def f170x16 : List AOper := [
  Mv 37 5,
  Bc 38 .gtr 37 0,
  Mv 39 38,
  Gt 39 (Fa 40 0 6),
  Gt 39 (Ld 41 40),
  Gt 39 (Fa 42 5 1),
  Gt 39 (Ld 43 42),
  Gt 39 (Mv 44 5),
  Gt 39 (Bc 45 .sub 44 1),
  Af [6] (Gt 39 (Ia 46 2 43 45)),
  Gt 39 (Fa 47 0 46),
  Af [9, 6] (Gt 39 (Ld 48 47)),
  Gt 39 (Bi 49 .leq 41 48),
  Pa 50 39 49,
  Mv 36 50]
def f170x17 : List AOper := [
  Mc 2 (.int .i64 16)]
def f170x18 : List AOper := [
  Fa 52 1 6,
  Ld 53 52,
  Ln 54 0 53,
  Mv 55 7,
  Bi 56 .neq 54 55,
  Mv 51 56]
def f170x19 : List AOper := [
  Mc 2 (.int .i64 1)]
def f170x20 : List AOper := [
  Fa 58 0 6,
  Ld 59 58,
  Bc 60 .eql 59 65,
  Mv 61 60,
  Gt 61 (Fa 62 1 6),
  Af [1] (Gt 61 (Ld 63 62)),
  Af [5, 1] (Gt 61 (Op 64 (.b2s (.t 63)))),
  Gt 61 (Fa 65 2 1),
  Af [1] (Gt 61 (Ld 66 65)),
  Gt 61 (Cv 67 .u64 66),
  Af [8, 1] (Gt 61 (Ca 68 109 [(.c (.con (.slice none 0 0))), (.c (.int .i64 4)), (.t 67)])),
  Af [10, 8, 1] (Gt 61 (Op 69 (.b2s (.t 68)))),
  Gt 61 (Bi 70 .neq 64 69),
  Pa 71 61 70,
  Mv 57 71]
def f170x21 : List AOper := [
  Mc 2 (.int .i64 14)]
def f170x22 : List AOper := [
  Mv 72 3,
  Fa 73 1 6,
  Ld 74 73,
  Ln 75 0 74,
  Op 76 (.bin .add (.c (.int .i64 2)) (.t 75)),
  Bi 77 .add 72 76,
  Mv 3 77]
def f170x23 : List AOper := [
  Bc 78 .add 11 1,
  Mv 11 78]
def f170x24L : ACode := (.seq (.region f170x3 false) (.seq (.cond (.t 12) .skip (.exit 0)) (.seq (.block 1 (.seq (.region f170x4 false) (.seq (.region f170x5 false) (.seq (.seq (.region f170x6 false) (.block 2 (.seq (.region f170x7 false) (.cond (.t 21) (.region f170x8 false) (.seq (.region f170x9 false) (.cond (.t 23) (.region f170x10 false) (.seq (.region f170x11 false) (.cond (.t 25) (.seq (.region f170x12 false) (.region f170x13 false)) .skip)))))))) (.seq (.block 3 (.seq (.region f170x14 false) (.cond (.t 27) (.seq (.region f170x15 false) .ret) (.seq (.region f170x16 true) (.cond (.t 36) (.seq (.region f170x17 false) .ret) (.seq (.region f170x18 false) (.cond (.t 51) (.seq (.region f170x19 false) .ret) (.seq (.region f170x20 true) (.cond (.t 57) (.seq (.region f170x21 false) .ret) .skip))))))))) (.region f170x22 false)))))) (.region f170x23 false))))
def f170x25 : List AOper := [
  Mv 80 3,
  Bc 81 .gtr 80 253,
  Mv 79 81]
def f170x26 : List AOper := [
  Mc 2 (.int .i64 4)]
def f170x27 : List AOper := [
  Fa 83 2 1,
  Ld 84 83,
  Bc 85 .gtr 84 65535,
  Mv 86 85,
  Gt 86 (Mv 87 4),
  Gt 86 (Un 88 .not 87),
  Pa 89 86 88,
  Mv 82 89]
def f170x28 : List AOper := [
  Mc 2 (.int .i64 22)]
def f170x29 : List AOper := [
  Mc 2 (.int .i64 0)]
def f170 : AFunc := ⟨90, 1, false, [.t 2], (.seq (.region f170x0 false) (.seq (.region f170x1 false) (.seq (.seq (.region f170x2 false) (.block 0 (.loop f170x24L))) (.seq (.block 4 (.seq (.region f170x25 false) (.cond (.t 79) (.seq (.region f170x26 false) .ret) (.seq (.region f170x27 false) (.cond (.t 82) (.seq (.region f170x28 false) .ret) .skip))))) (.seq (.region f170x29 false) .ret)))))⟩
def f170x24LH : List AItem := [.inLoop f170x24L, .inBlock 0, .code (.seq (.block 4 (.seq (.region f170x25 false) (.cond (.t 79) (.seq (.region f170x26 false) .ret) (.seq (.region f170x27 false) (.cond (.t 82) (.seq (.region f170x28 false) .ret) .skip))))) (.seq (.region f170x29 false) .ret))]
def f171x0 : List AOper := [
  Mc 2 (.int .i64 0)]
def f171x1 : List AOper := [
  Mv 5 0,
  Ln 6 0 5,
  Mc 7 (.int .i64 0)]
def f171x2 : List AOper := [
  Bi 8 .lss 7 6]
def f171x3 : List AOper := [
  Mv 9 7,
  Ia 10 2 5 7,
  Ls 11 2 10,
  Op 4 (.alloc (.agg [.int .u32 0, .int .i64 0])),
  Mv 3 9,
  St 2 4 11]
def f171x4 : List AOper := [
  Ls 13 2 4,
  Ct 14 178 [13],
  Un 15 .not 14,
  Mv 12 15]
def f171x5 : List AOper := [
  Mc 2 (.int .i64 1)]
def f171x6 : List AOper := [
  Mv 17 3,
  Bc 18 .gtr 17 0,
  Mv 19 18,
  Gt 19 (Ls 20 2 4),
  Gt 19 (Mv 21 0),
  Gt 19 (Mv 22 3),
  Gt 19 (Bc 23 .sub 22 1),
  Gt 19 (Ia 24 2 21 23),
  Af [7] (Gt 19 (Ls 25 2 24)),
  Af [3, 8, 7] (Gt 19 (Ct 26 172 [20, 25])),
  Gt 19 (Bc 27 .leq 26 0),
  Pa 28 19 27,
  Mv 16 28]
def f171x7 : List AOper := [
  Mc 2 (.int .i64 16)]
def f171x8 : List AOper := [
  Bc 29 .add 7 1,
  Mv 7 29]
def f171x9L : ACode := (.seq (.region f171x2 false) (.seq (.cond (.t 8) .skip (.exit 0)) (.seq (.block 1 (.seq (.region f171x3 false) (.block 2 (.seq (.region f171x4 false) (.cond (.t 12) (.seq (.region f171x5 false) .ret) (.seq (.region f171x6 true) (.cond (.t 16) (.seq (.region f171x7 false) .ret) .skip))))))) (.region f171x8 false))))
def f171x10 : List AOper := [
  Mc 2 (.int .i64 0)]
def f171 : AFunc := ⟨30, 1, false, [.t 2], (.seq (.region f171x0 false) (.seq (.seq (.region f171x1 false) (.block 0 (.loop f171x9L))) (.seq (.region f171x10 false) .ret)))⟩
def f171x9LH : List AItem := [.inLoop f171x9L, .inBlock 0, .code (.seq (.region f171x10 false) .ret)]
def f172x0 : List AOper := [
  Op 2 (.box (.t 0)),
  Op 3 (.box (.t 1)),
  Mc 4 (.int .i64 0)]
def f172x1 : List AOper := [
  Fa 6 0 2,
  Ld 7 6,
  Fa 8 0 3,
  Ld 9 8,
  Bi 10 .lss 7 9,
  Mv 11 10,
  Gf 11 (Fa 12 0 2),
  Gf 11 (Ld 13 12),
  Gf 11 (Fa 14 0 3),
  Gf 11 (Ld 15 14),
  Gf 11 (Bi 16 .eql 13 15),
  Gf 11 (Mv 17 16),
  Gt 17 (Fa 18 1 2),
  Gt 17 (Ld 19 18),
  Gt 17 (Fa 20 1 3),
  Gt 17 (Ld 21 20),
  Gt 17 (Bi 22 .lss 19 21),
  Gf 11 (Pa 23 17 22),
  Po 24 11 23,
  Mv 5 24]
def f172x2 : List AOper := [
  Mc 4 (.int .i64 (-1))]
def f172x3 : List AOper := [
  Ls 26 2 2,
  Ls 27 2 3,
  Op 28 (.eqs [.int, .int] false (.t 26) (.t 27)),
  Mv 25 28]
def f172x4 : List AOper := [
  Mc 4 (.int .i64 0)]
def f172x5 : List AOper := [
  Mc 4 (.int .i64 1)]
def f172 : AFunc := ⟨29, 2, false, [.t 4], (.seq (.region f172x0 false) (.seq (.block 0 (.seq (.region f172x1 false) (.cond (.t 5) (.seq (.region f172x2 false) .ret) (.seq (.region f172x3 false) (.cond (.t 25) (.seq (.region f172x4 false) .ret) .skip))))) (.seq (.region f172x5 false) .ret)))⟩
def f65x0 : List AOper := [
  Op 1 (.box (.t 0)),
  Mc 2 (.int .i64 0)]
def f65x1 : List AOper := [
  Fa 3 0 1,
  Ld 4 3,
  Bc 5 .lss 4 0,
  Mv 6 5,
  Gf 6 (Fa 7 0 1),
  Af [1] (Gf 6 (Ld 8 7)),
  Gf 6 (Bc 9 .gtr 8 2),
  Po 10 6 9,
  Af [5, 1] (Ca 11 74 [(.t 10), (.c (.int .i64 5))]),
  Fa 12 1 1,
  Ld 13 12,
  Af [10, 8, 5, 1] (Ct 14 75 [13]),
  Fa 15 2 1,
  Ld 16 15,
  Op 17 (.bin .eql (.t 16) (.c (.int .u32 0))),
  Af [11, 13, 10, 8, 5, 1] (Ca 18 74 [(.t 17), (.c (.int .i64 1))]),
  Fa 19 3 1,
  Ld 20 19,
  Fa 21 4 1,
  Ld 22 21,
  Af [17, 19, 15, 11, 13, 10, 8, 5, 1] (Ca 23 76 [(.t 20), (.t 22), (.c (.int .i64 0))]),
  Fa 24 5 1,
  Ld 25 24,
  Fa 26 6 1,
  Ld 27 26,
  Af [22, 24, 20, 17, 19, 15, 11, 13, 10, 8, 5, 1] (Ca 28 76 [(.t 25), (.t 27), (.c (.int .i64 0))]),
  Fa 29 8 1,
  Ld 30 29,
  Fa 31 9 1,
  Ld 32 31,
  Af [27, 29, 25, 22, 24, 20, 17, 19, 15, 11, 13, 10, 8, 5, 1] (Ca 33 76 [(.t 30), (.t 32), (.c (.int .i64 1))]),
  Fa 34 8 1,
  Ld 35 34,
  Un 36 .not 35,
  Mv 37 36,
  Gt 37 (Fa 38 10 1),
  Af [30, 32, 27, 29, 25, 22, 24, 20, 17, 19, 15, 11, 13, 10, 8, 5, 1] (Gt 37 (Ld 39 38)),
  Gt 37 (Op 40 (.bin .neq (.t 39) (.c (.int .u32 0)))),
  Pa 41 37 40,
  Af [36, 30, 32, 27, 29, 25, 22, 24, 20, 17, 19, 15, 11, 13, 10, 8, 5, 1] (Ca 42 74 [(.t 41), (.c (.int .i64 1))]),
  Fa 43 11 1,
  Ld 44 43,
  Af [41, 39, 36, 30, 32, 27, 29, 25, 22, 24, 20, 17, 19, 15, 11, 13, 10, 8, 5, 1] (Ct 45 77 [44]),
  Fa 46 12 1,
  Ld 47 46,
  Fa 48 13 1,
  Ld 49 48,
  Op 50 (.bin .eql (.t 49) (.c (.int .u32 0))),
  Op 51 (.eqb false (.t 47) (.t 50)),
  Af [42, 44, 46, 41, 39, 36, 30, 32, 27, 29, 25, 22, 24, 20, 17, 19, 15, 11, 13, 10, 8, 5, 1] (Ca 52 74 [(.t 51), (.c (.int .i64 1))]),
  Fa 53 14 1,
  Ld 54 53,
  Af [51, 49, 42, 44, 46, 41, 39, 36, 30, 32, 27, 29, 25, 22, 24, 20, 17, 19, 15, 11, 13, 10, 8, 5, 1] (Ct 55 78 [54]),
  Fa 56 15 1,
  Ld 57 56,
  Af [54, 52, 51, 49, 42, 44, 46, 41, 39, 36, 30, 32, 27, 29, 25, 22, 24, 20, 17, 19, 15, 11, 13, 10, 8, 5, 1] (Ct 58 79 [57]),
  Af [55, 54, 52, 51, 49, 42, 44, 46, 41, 39, 36, 30, 32, 27, 29, 25, 22, 24, 20, 17, 19, 15, 11, 13, 10, 8, 5, 1] (Op 59 (.bsl 1 [.int .i64 0] 11 [0, 1, 2, 3, 4, 5, 6, 7, 8, 9, 10] [(.t 11), (.t 14), (.t 18), (.t 23), (.t 28), (.t 33), (.t 42), (.t 45), (.t 52), (.t 55), (.t 58)])),
  Af [56, 55, 54, 52, 51, 49, 42, 44, 46, 41, 39, 36, 30, 32, 27, 29, 25, 22, 24, 20, 17, 19, 15, 11, 13, 10, 8, 5, 1] (Ct 60 73 [59]),
  Mv 2 60]
def f65 : AFunc := ⟨61, 1, false, [.t 2], (.seq (.region f65x0 false) (.seq (.region f65x1 true) .ret))⟩
def f204x0 : List AOper := [
  Mc 2 (.int .i64 0)]
def f204x1 : List AOper := [
  Mv 3 0,
  Bc 4 .gtr 3 65535]
def f204x2 : List AOper := [
  Mc 2 (.int .i64 23456)]
def f204x3 : List AOper := [
  Mv 5 0,
  Mv 2 5]
def f204 : AFunc := ⟨6, 1, false, [.t 2], (.seq (.region f204x0 false) (.seq (.seq (.region f204x1 false) (.cond (.t 4) (.seq (.region f204x2 false) .ret) .skip)) (.seq (.region f204x3 false) .ret)))⟩
def f205x0 : List AOper := [
  Mc 2 (.con (.slice none 0 0))]
def f205x1 : List AOper := [
  Mc 3 (.con (.slice none 0 0))]
def f205x2 : List AOper := [
  Mv 6 0,
  Ln 7 0 6,
  Mc 8 (.int .i64 0)]
def f205x3 : List AOper := [
  Bi 9 .lss 8 7]
def f205x4 : List AOper := [
  Ia 10 2 6 8,
  Ls 11 2 10,
  Op 5 (.alloc (.agg [.int .u32 0, .int .i64 0])),
  St 2 5 11]
def f205x5 : List AOper := [
  Mv 12 3,
  Fa 13 1 5,
  Ld 14 13,
  Cv 15 .u8 14,
  Op 16 (.bsl 1 [.int .u8 0] 1 [0] [(.t 15)]),
  Ap 17 1 1 12 16,
  Mv 3 17]
def f205x6 : List AOper := [
  Mv 18 3,
  Fa 19 0 5,
  Ld 20 19,
  Cv 21 .u64 20,
  Af [2] (Ca 22 109 [(.c (.con (.slice none 0 0))), (.c (.int .i64 4)), (.t 21)]),
  Fa 23 1 5,
  Ld 24 23,
  Bc 25 .add 24 7,
  Bc 26 .quo 25 8,
  Af [4, 2, 6] (Op 27 (.slc 1 (.t 22) none (some (.t 26)) none)),
  Af [9, 4, 6, 2] (Ap 28 1 1 18 27),
  Mv 3 28]
def f205x7 : List AOper := [
  Bc 29 .add 8 1,
  Mv 8 29]
def f205x8L : ACode := (.seq (.region f205x3 false) (.seq (.cond (.t 9) .skip (.exit 0)) (.seq (.block 1 (.seq (.region f205x4 false) (.seq (.region f205x5 false) (.region f205x6 true)))) (.region f205x7 false))))
def f205x9 : List AOper := [
  Mv 30 3,
  Mv 2 30]
def f205 : AFunc := ⟨31, 1, false, [.t 2], (.seq (.region f205x0 false) (.seq (.region f205x1 false) (.seq (.seq (.region f205x2 false) (.block 0 (.loop f205x8L))) (.seq (.region f205x9 false) .ret))))⟩
def f205x8LH : List AItem := [.inLoop f205x8L, .inBlock 0, .code (.seq (.region f205x9 false) .ret)]
def f119x0 : List AOper := [
  Mc 2 (.con (.slice none 0 0))]
def f119x1 : List AOper := [
  Mc 3 (.int .i64 0)]
def f119x2 : List AOper := [
  Mv 9 0,
  Ln 10 0 9,
  Mc 11 (.int .i64 0)]
def f119x3 : List AOper := [
  Bi 12 .lss 11 10]
def f119x4 : List AOper := [
  Ia 13 1 9 11,
  Ld 14 13,
  Mv 5 14]
def f119x5 : List AOper := [
  Mv 15 3,
  Mv 16 5,
  Ln 17 0 16,
  Bi 18 .add 15 17,
  Mv 3 18]
def f119x6 : List AOper := [
  Bc 19 .add 11 1,
  Mv 11 19]
def f119x7L : ACode := (.seq (.region f119x3 false) (.seq (.cond (.t 12) .skip (.exit 0)) (.seq (.block 1 (.seq (.region f119x4 false) (.region f119x5 false))) (.region f119x6 false))))
def f119x8 : List AOper := [
  Mv 20 3,
  Op 21 (.mksl 1 1 [.int .u8 0] (.c (.int .i64 0)) (.t 20)),
  Mv 6 21]
def f119x9 : List AOper := [
  Mv 22 0,
  Ln 23 0 22,
  Mc 24 (.int .i64 0)]
def f119x10 : List AOper := [
  Bi 25 .lss 24 23]
def f119x11 : List AOper := [
  Ia 26 1 22 24,
  Ld 27 26,
  Mv 8 27]
def f119x12 : List AOper := [
  Mv 28 6,
  Mv 29 8,
  Ap 30 1 1 28 29,
  Mv 6 30]
def f119x13 : List AOper := [
  Bc 31 .add 24 1,
  Mv 24 31]
def f119x14L : ACode := (.seq (.region f119x10 false) (.seq (.cond (.t 25) .skip (.exit 2)) (.seq (.block 3 (.seq (.region f119x11 false) (.region f119x12 false))) (.region f119x13 false))))
def f119x15 : List AOper := [
  Mv 32 6,
  Mv 2 32]
def f119 : AFunc := ⟨33, 1, false, [.t 2], (.seq (.region f119x0 false) (.seq (.region f119x1 false) (.seq (.seq (.region f119x2 false) (.block 0 (.loop f119x7L))) (.seq (.region f119x8 false) (.seq (.seq (.region f119x9 false) (.block 2 (.loop f119x14L))) (.seq (.region f119x15 false) .ret))))))⟩
def f119x7LH : List AItem := [.inLoop f119x7L, .inBlock 0, .code (.seq (.region f119x8 false) (.seq (.seq (.region f119x9 false) (.block 2 (.loop f119x14L))) (.seq (.region f119x15 false) .ret)))]
def f119x14LH : List AItem := [.inLoop f119x14L, .inBlock 2, .code (.seq (.region f119x15 false) .ret)]
def f120x0 : List AOper := [
  Mc 4 (.con (.slice none 0 0))]
def f120x1 : List AOper := [
  Mc 5 (.con (.slice none 0 0))]
def f120x2 : List AOper := [
  Mv 7 0,
  Bc 8 .sub 7 1,
  Mv 6 8]
def f120x3 : List AOper := [
  Mv 9 6,
  Bc 10 .geq 9 0]
def f120x4 : List AOper := [
  Mv 13 5,
  Mv 14 1,
  Mv 15 6,
  Op 16 (.bin .mul (.c (.int .i64 8)) (.t 15)),
  Bi 17 .shr 14 16,
  Cv 18 .u8 17,
  Op 19 (.bsl 1 [.int .u8 0] 1 [0] [(.t 18)]),
  Ap 20 1 1 13 19,
  Mv 5 20]
def f120x5 : List AOper := [
  Mv 11 6,
  Bc 12 .sub 11 1,
  Mv 6 12]
def f120x6L : ACode := (.seq (.seq (.region f120x3 false) (.cond (.t 10) .skip (.exit 0))) (.seq (.block 1 (.region f120x4 false)) (.region f120x5 false)))
def f120x7 : List AOper := [
  Mv 21 5,
  Mv 4 21]
def f120 : AFunc := ⟨22, 2, false, [.t 4], (.seq (.region f120x0 false) (.seq (.region f120x1 false) (.seq (.seq (.region f120x2 false) (.block 0 (.loop f120x6L))) (.seq (.region f120x7 false) .ret))))⟩
def f120x6LH : List AItem := [.inLoop f120x6L, .inBlock 0, .code (.seq (.region f120x7 false) .ret)]
def f206x0 : List AOper := [
  Mc 4 (.int .i64 0)]
def f206x1 : List AOper := [
  Mv 8 0,
  Nc 9 8,
  Fa 10 0 9,
  Ld 11 10,
  Mv 12 1,
  Ca 13 110 [(.t 11), (.c (.int .i64 0)), (.t 12)],
  Mv 7 13,
  Ex 14 7 0,
  Ex 15 7 1,
  Mv 5 14,
  Mv 6 15]
def f206x2 : List AOper := [
  Mv 16 0,
  Mv 17 0,
  Nc 18 17,
  Fa 19 0 18,
  Ld 20 19,
  Mv 21 1,
  Op 22 (.slc 1 (.t 20) (some (.t 21)) none none),
  Nc 23 16,
  Fa 24 0 23,
  St 1 24 22]
def f206x3 : List AOper := [
  Mv 25 5,
  Cv 26 .i64 25,
  Mv 4 26]
def f206 : AFunc := ⟨27, 2, false, [.t 4], (.seq (.region f206x0 false) (.seq (.region f206x1 false) (.seq (.region f206x2 false) (.seq (.region f206x3 false) .ret))))⟩
def f207x0 : List AOper := [
  Mc 4 (.bool false)]
def f207x1 : List AOper := [
  Mv 5 0,
  Nc 6 5,
  Fa 7 0 6,
  Ld 8 7,
  Ln 9 0 8,
  Mv 10 1,
  Bi 11 .geq 9 10,
  Mv 4 11]
def f207 : AFunc := ⟨12, 2, false, [.t 4], (.seq (.region f207x0 false) (.seq (.region f207x1 false) .ret))⟩
def f208x0 : List AOper := [
  Mc 2 (.bool false)]
def f208x1 : List AOper := [
  Mv 5 0,
  Nc 6 5,
  Fa 7 0 6,
  Fa 8 0 7,
  Ld 9 8,
  Ln 10 0 9,
  Bc 11 .gtr 10 0]
def f208x2 : List AOper := [
  Mv 12 0,
  Nc 13 12,
  Fa 14 0 13,
  Ca 15 207 [(.t 14), (.c (.int .i64 2))],
  Un 16 .not 15]
def f208x3 : List AOper := [
  Mc 2 (.bool false)]
def f208x4 : List AOper := [
  Mv 17 0,
  Nc 18 17,
  Fa 19 0 18,
  Ca 20 206 [(.t 19), (.c (.int .i64 1))],
  Mv 3 20]
def f208x5 : List AOper := [
  Mv 21 0,
  Nc 22 21,
  Fa 23 0 22,
  Ca 24 206 [(.t 23), (.c (.int .i64 1))],
  Mv 4 24]
def f208x6 : List AOper := [
  Mv 25 0,
  Nc 26 25,
  Fa 27 0 26,
  Mv 28 4,
  Ct 29 207 [27, 28],
  Un 30 .not 29]
def f208x7 : List AOper := [
  Mc 2 (.bool false)]
def f208x8 : List AOper := [
  Mv 31 0,
  Mv 32 0,
  Nc 33 32,
  Fa 34 1 33,
  Ld 35 34,
  Mv 36 3,
  Mv 37 0,
  Nc 38 37,
  Fa 39 0 38,
  Mv 40 4,
  Ct 41 209 [39, 40],
  Op 42 (.build [.int .i64 0, .con (.slice none 0 0)] [(0, 1), (1, 1)] [(.t 36), (.t 41)]),
  Af [10] (Op 43 (.bsl 2 [.int .i64 0, .con (.slice none 0 0)] 1 [0] [(.t 42)])),
  Af [4, 12, 10] (Ap 44 2 32 35 43),
  Nc 45 31,
  Fa 46 1 45,
  Af [13, 4, 12, 10] (St 1 46 44)]
def f208x9L : ACode := (.seq (.seq (.region f208x1 false) (.cond (.t 11) .skip (.exit 0))) (.block 1 (.seq (.seq (.region f208x2 false) (.cond (.t 16) (.seq (.region f208x3 false) .ret) .skip)) (.seq (.region f208x4 false) (.seq (.region f208x5 false) (.seq (.seq (.region f208x6 false) (.cond (.t 30) (.seq (.region f208x7 false) .ret) .skip)) (.region f208x8 true)))))))
def f208x10 : List AOper := [
  Mv 47 0,
  Nc 48 47,
  Fa 49 1 48,
  Ld 50 49,
  Ln 51 0 50,
  Bc 52 .gtr 51 0,
  Mv 2 52]
def f208 : AFunc := ⟨53, 1, false, [.t 2], (.seq (.region f208x0 false) (.seq (.block 0 (.loop f208x9L)) (.seq (.region f208x10 false) .ret)))⟩
def f208x9LH : List AItem := [.inLoop f208x9L, .inBlock 0, .code (.seq (.region f208x10 false) .ret)]
def f209x0 : List AOper := [
  Mc 4 (.con (.slice none 0 0))]
def f209x1 : List AOper := [
  Op 6 (.bsl 1 [.int .u8 0] 0 [] []),
  Mv 7 0,
  Nc 8 7,
  Fa 9 0 8,
  Ld 10 9,
  Mv 11 1,
  Op 12 (.slc 1 (.t 10) none (some (.t 11)) none),
  Ap 13 1 1 6 12,
  Mv 5 13]
def f209x2 : List AOper := [
  Mv 14 0,
  Mv 15 0,
  Nc 16 15,
  Fa 17 0 16,
  Ld 18 17,
  Mv 19 1,
  Op 20 (.slc 1 (.t 18) (some (.t 19)) none none),
  Nc 21 14,
  Fa 22 0 21,
  St 1 22 20]
def f209x3 : List AOper := [
  Mv 23 5,
  Mv 4 23]
def f209 : AFunc := ⟨24, 2, false, [.t 4], (.seq (.region f209x0 false) (.seq (.region f209x1 false) (.seq (.region f209x2 false) (.seq (.region f209x3 false) .ret))))⟩
def f210x0 : List AOper := [
  Mc 2 (.bool false)]
def f210x1 : List AOper := [
  Mv 6 0,
  Nc 7 6,
  Fa 8 0 7,
  Fa 9 0 8,
  Ld 10 9,
  Ln 11 0 10,
  Bc 12 .gtr 11 0]
def f210x2 : List AOper := [
  Mv 13 0,
  Nc 14 13,
  Fa 15 0 14,
  Ca 16 206 [(.t 15), (.c (.int .i64 1))],
  Mv 3 16]
def f210x3 : List AOper := [
  Mv 17 3,
  Bc 18 .add 17 7,
  Bc 19 .quo 18 8,
  Mv 4 19]
def f210x4 : List AOper := [
  Mv 20 3,
  Bc 21 .gtr 20 32,
  Mv 22 21,
  Gf 22 (Mv 23 0),
  Gf 22 (Nc 24 23),
  Gf 22 (Fa 25 0 24),
  Gf 22 (Mv 26 4),
  Gf 22 (Ct 27 207 [25, 26]),
  Gf 22 (Un 28 .not 27),
  Po 29 22 28]
def f210x5 : List AOper := [
  Mc 2 (.bool false)]
def f210x6 : List AOper := [
  Mv 30 0,
  Nc 31 30,
  Fa 32 0 31,
  Mv 33 4,
  Ct 34 206 [32, 33],
  Mv 35 4,
  Op 36 (.bin .mul (.c (.int .i64 8)) (.t 35)),
  Op 37 (.bin .sub (.c (.int .i64 32)) (.t 36)),
  Cv 38 .u64 37,
  Bi 39 .shl 34 38,
  Cv 40 .u32 39,
  Mv 41 3,
  Op 42 (.build [.int .u32 0, .int .i64 0] [(0, 1), (1, 1)] [(.t 40), (.t 41)]),
  Op 5 (.alloc (.agg [.int .u32 0, .int .i64 0])),
  St 2 5 42]
def f210x7 : List AOper := [
  Ls 43 2 5,
  Ct 44 178 [43],
  Un 45 .not 44]
def f210x8 : List AOper := [
  Mc 2 (.bool false)]
def f210x9 : List AOper := [
  Mv 46 0,
  Mv 47 0,
  Nc 48 47,
  Fa 49 1 48,
  Ld 50 49,
  Ls 51 2 5,
  Af [5] (Op 52 (.bsl 2 [.int .u32 0, .int .i64 0] 1 [0] [(.t 51)])),
  Af [4, 6, 5] (Ap 53 2 16 50 52),
  Nc 54 46,
  Fa 55 1 54,
  Af [7, 4, 6, 5] (St 1 55 53)]
def f210x10L : ACode := (.seq (.seq (.region f210x1 false) (.cond (.t 12) .skip (.exit 0))) (.block 1 (.seq (.region f210x2 false) (.seq (.region f210x3 false) (.seq (.seq (.region f210x4 false) (.cond (.t 29) (.seq (.region f210x5 false) .ret) .skip)) (.seq (.region f210x6 false) (.seq (.seq (.region f210x7 false) (.cond (.t 45) (.seq (.region f210x8 false) .ret) .skip)) (.region f210x9 true))))))))
def f210x11 : List AOper := [
  Mc 2 (.bool true)]
def f210 : AFunc := ⟨56, 1, false, [.t 2], (.seq (.region f210x0 false) (.seq (.block 0 (.loop f210x10L)) (.seq (.region f210x11 false) .ret)))⟩
def f210x10LH : List AItem := [.inLoop f210x10L, .inBlock 0, .code (.seq (.region f210x11 false) .ret)]
def f69x0 : List AOper := [
  Op 4 (.alloc (.agg [.int .i64 0, .con (.slice none 0 0), .int .u32 0, .bool false, .int .i64 0, .bool false, .int .i64 0, .bool false, .bool false, .int .i64 0, .int .u32 0, .con (.slice none 0 0), .bool false, .int .u32 0, .con (.slice none 0 0), .con (.slice none 0 0)])),
  Mc 5 (.int .i64 0)]
def f69x1 : List AOper := [
  Op 13 (.build [.int .i64 0, .con (.slice none 0 0), .int .u32 0, .bool false, .int .i64 0, .bool false, .int .i64 0, .bool false, .bool false, .int .i64 0, .int .u32 0, .con (.slice none 0 0), .bool false, .int .u32 0, .con (.slice none 0 0), .con (.slice none 0 0)] [] []),
  Op 6 (.alloc (.agg [.int .i64 0, .con (.slice none 0 0), .int .u32 0, .bool false, .int .i64 0, .bool false, .int .i64 0, .bool false, .bool false, .int .i64 0, .int .u32 0, .con (.slice none 0 0), .bool false, .int .u32 0, .con (.slice none 0 0), .con (.slice none 0 0)])),
  St 16 6 13]
def f69x2 : List AOper := [
  Mc 7 (.int .i64 (-1)),
  Mc 8 (.int .i64 0)]
def f69x3 : List AOper := [
  Mv 14 0,
  Ln 15 0 14,
  Bc 16 .gtr 15 0]
def f69x4 : List AOper := [
  Mc 9 (.int .i64 3)]
def f69x5 : List AOper := [
  Mv 17 0,
  Op 18 (.iadr 1 (.t 17) (.c (.int .i64 0))),
  Ld 19 18,
  Op 20 (.bin .and (.t 19) (.c (.int .u8 16))),
  Op 21 (.bin .neq (.t 20) (.c (.int .u8 0)))]
def f69x6 : List AOper := [
  Mc 9 (.int .i64 4)]
def f69x7 : List AOper := [
  Mv 22 0,
  Ln 23 0 22,
  Mv 24 9,
  Bi 25 .lss 23 24]
def f69x8 : List AOper := [
  Op 26 (.build [.int .i64 0, .con (.slice none 0 0), .int .u32 0, .bool false, .int .i64 0, .bool false, .int .i64 0, .bool false, .bool false, .int .i64 0, .int .u32 0, .con (.slice none 0 0), .bool false, .int .u32 0, .con (.slice none 0 0), .con (.slice none 0 0)] [] []),
  St 16 4 26,
  Mc 5 (.int .i64 3)]
def f69x9 : List AOper := [
  Mv 27 0,
  Mv 28 9,
  Bc 29 .sub 28 2,
  Ca 30 93 [(.t 27), (.c (.int .i64 2)), (.t 29)],
  Mv 10 30]
def f69x10 : List AOper := [
  Mv 31 0,
  Ln 32 0 31,
  Mv 33 9,
  Mv 34 10,
  Bi 35 .add 33 34,
  Bi 36 .lss 32 35]
def f69x11 : List AOper := [
  Op 37 (.build [.int .i64 0, .con (.slice none 0 0), .int .u32 0, .bool false, .int .i64 0, .bool false, .int .i64 0, .bool false, .bool false, .int .i64 0, .int .u32 0, .con (.slice none 0 0), .bool false, .int .u32 0, .con (.slice none 0 0), .con (.slice none 0 0)] [] []),
  St 16 4 37,
  Mc 5 (.int .i64 3)]
def f69x12 : List AOper := [
  Mv 38 0,
  Op 39 (.iadr 1 (.t 38) (.c (.int .i64 1))),
  Ld 40 39,
  Cv 41 .i64 40,
  Mv 11 41]
def f69x13 : List AOper := [
  Mv 42 11,
  Mv 43 7,
  Bi 44 .leq 42 43]
def f69x14 : List AOper := [
  Op 45 (.build [.int .i64 0, .con (.slice none 0 0), .int .u32 0, .bool false, .int .i64 0, .bool false, .int .i64 0, .bool false, .bool false, .int .i64 0, .int .u32 0, .con (.slice none 0 0), .bool false, .int .u32 0, .con (.slice none 0 0), .con (.slice none 0 0)] [] []),
  St 16 4 45,
  Mc 5 (.int .i64 16)]
def f69x15 : List AOper := [
  Mv 46 0,
  Op 47 (.iadr 1 (.t 46) (.c (.int .i64 0))),
  Af [1] (Ld 48 47),
  Op 49 (.bin .andNot (.t 48) (.c (.int .u8 16))),
  Mv 50 11,
  Ct 51 94 [50],
  Bi 52 .neq 49 51,
  Mv 53 52,
  Gf 53 (Mv 54 9),
  Gf 53 (Bc 55 .eql 54 4),
  Gf 53 (Mv 56 55),
  Gt 56 (Mv 57 10),
  Gt 56 (Bc 58 .leq 57 255),
  Gf 53 (Pa 59 56 58),
  Po 60 53 59,
  Mv 61 60,
  Gf 61 (Mv 62 11),
  Gf 61 (Mv 63 0),
  Gf 61 (Mv 64 9),
  Gf 61 (Mv 65 9),
  Gf 61 (Mv 66 10),
  Gf 61 (Bi 67 .add 65 66),
  Af [5, 2, 1] (Gf 61 (Op 68 (.slc 1 (.t 63) (some (.t 64)) (some (.t 67)) none))),
  Gf 61 (Mv 69 1),
  Af [5, 2, 1] (Gf 61 (Ct 70 96 [69])),
  Af [22, 24, 5, 2, 1] (Gf 61 (Ct 71 95 [6, 62, 68, 70])),
  Gf 61 (Un 72 .not 71),
  Po 73 61 72]
def f69x16 : List AOper := [
  Op 74 (.build [.int .i64 0, .con (.slice none 0 0), .int .u32 0, .bool false, .int .i64 0, .bool false, .int .i64 0, .bool false, .bool false, .int .i64 0, .int .u32 0, .con (.slice none 0 0), .bool false, .int .u32 0, .con (.slice none 0 0), .con (.slice none 0 0)] [] []),
  St 16 4 74,
  Mc 5 (.int .i64 2)]
def f69x17 : List AOper := [
  Mv 75 11,
  Bc 76 .geq 75 1,
  Mv 77 76,
  Gt 77 (Mv 78 11),
  Gt 77 (Bc 79 .leq 78 3),
  Pa 80 77 79]
def f69x18 : List AOper := [
  Mv 81 8,
  Bc 82 .add 81 1,
  Mv 8 82]
def f69x19 : List AOper := [
  Mv 83 11,
  Mv 7 83]
def f69x20 : List AOper := [
  Mv 84 0,
  Mv 85 9,
  Mv 86 10,
  Bi 87 .add 85 86,
  Op 88 (.slc 1 (.t 84) (some (.t 87)) none none),
  Mv 0 88]
def f69x21L : ACode := (.seq (.seq (.region f69x3 false) (.cond (.t 16) .skip (.exit 0))) (.block 1 (.seq (.region f69x4 false) (.seq (.seq (.region f69x5 false) (.cond (.t 21) (.region f69x6 false) .skip)) (.seq (.seq (.region f69x7 false) (.cond (.t 25) (.seq (.region f69x8 false) .ret) .skip)) (.seq (.region f69x9 false) (.seq (.seq (.region f69x10 false) (.cond (.t 36) (.seq (.region f69x11 false) .ret) .skip)) (.seq (.region f69x12 false) (.seq (.seq (.region f69x13 false) (.cond (.t 44) (.seq (.region f69x14 false) .ret) .skip)) (.seq (.seq (.region f69x15 true) (.cond (.t 73) (.seq (.region f69x16 false) .ret) .skip)) (.seq (.seq (.region f69x17 false) (.cond (.t 80) (.region f69x18 false) .skip)) (.seq (.region f69x19 false) (.region f69x20 false)))))))))))))
def f69x22 : List AOper := [
  Mv 89 8,
  Bc 90 .lss 89 3]
def f69x23 : List AOper := [
  Op 91 (.build [.int .i64 0, .con (.slice none 0 0), .int .u32 0, .bool false, .int .i64 0, .bool false, .int .i64 0, .bool false, .bool false, .int .i64 0, .int .u32 0, .con (.slice none 0 0), .bool false, .int .u32 0, .con (.slice none 0 0), .con (.slice none 0 0)] [] []),
  St 16 4 91,
  Mc 5 (.int .i64 6)]
def f69x24 : List AOper := [
  Ls 92 16 6,
  Ct 93 65 [92],
  Mv 12 93]
def f69x25 : List AOper := [
  Mv 94 12,
  Bc 95 .neq 94 0]
def f69x26 : List AOper := [
  Op 96 (.build [.int .i64 0, .con (.slice none 0 0), .int .u32 0, .bool false, .int .i64 0, .bool false, .int .i64 0, .bool false, .bool false, .int .i64 0, .int .u32 0, .con (.slice none 0 0), .bool false, .int .u32 0, .con (.slice none 0 0), .con (.slice none 0 0)] [] []),
  Mv 97 12,
  St 16 4 96,
  Mv 5 97]
def f69x27 : List AOper := [
  Ls 98 16 6,
  St 16 4 98,
  Mc 5 (.int .i64 0)]
def f69 : AFunc := ⟨99, 2, false, [.cell 4 (some 16), .t 5], (.seq (.region f69x0 false) (.seq (.region f69x1 false) (.seq (.region f69x2 false) (.seq (.block 0 (.loop f69x21L)) (.seq (.seq (.region f69x22 false) (.cond (.t 90) (.seq (.region f69x23 false) .ret) .skip)) (.seq (.seq (.region f69x24 false) (.seq (.region f69x25 false) (.cond (.t 95) (.seq (.region f69x26 false) .ret) .skip))) (.seq (.region f69x27 false) .ret)))))))⟩
def f69x21LH : List AItem := [.inLoop f69x21L, .inBlock 0, .code (.seq (.seq (.region f69x22 false) (.cond (.t 90) (.seq (.region f69x23 false) .ret) .skip)) (.seq (.seq (.region f69x24 false) (.seq (.region f69x25 false) (.cond (.t 95) (.seq (.region f69x26 false) .ret) .skip))) (.seq (.region f69x27 false) .ret)))]
def f83x0 : List AOper := [
  Mc 6 (.con (.slice none 0 0))]
def f83x1 : List AOper := [
  Mv 9 2,
  Ln 10 0 9,
  Mc 11 (.int .i64 0)]
def f83x2 : List AOper := [
  Bi 12 .lss 11 10]
def f83x3 : List AOper := [
  Ia 13 1 9 11,
  Ld 14 13,
  Mv 8 14]
def f83x4 : List AOper := [
  Mv 15 6,
  Mv 16 8,
  Ap 17 1 1 15 16,
  Mv 6 17]
def f83x5 : List AOper := [
  Bc 18 .add 11 1,
  Mv 11 18]
def f83x6L : ACode := (.seq (.region f83x2 false) (.seq (.cond (.t 12) .skip (.exit 0)) (.seq (.block 1 (.seq (.region f83x3 false) (.region f83x4 false))) (.region f83x5 false))))
def f83x7 : List AOper := [
  Mv 19 6,
  Ln 20 0 19,
  Bc 21 .gtr 20 255]
def f83x8 : List AOper := [
  Mv 22 0,
  Mv 23 0,
  Nc 24 23,
  Fa 25 0 24,
  Ld 26 25,
  Mv 27 1,
  Ct 28 94 [27],
  Op 29 (.bin .or (.t 28) (.c (.int .u8 16))),
  Mv 30 1,
  Cv 31 .u8 30,
  Af [6] (Op 32 (.bsl 1 [.int .u8 0] 2 [0, 1] [(.t 29), (.t 31)])),
  Af [4, 10, 6] (Ap 33 1 1 26 32),
  Nc 34 22,
  Fa 35 0 34,
  Af [11, 4, 10, 6] (St 1 35 33)]
def f83x9 : List AOper := [
  Mv 36 0,
  Mv 37 0,
  Nc 38 37,
  Fa 39 0 38,
  Ld 40 39,
  Mv 41 6,
  Ln 42 0 41,
  Cv 43 .u64 42,
  Ca 44 109 [(.t 40), (.c (.int .i64 2)), (.t 43)],
  Nc 45 36,
  Fa 46 0 45,
  St 1 46 44]
def f83x10 : List AOper := [
  Mv 47 0,
  Mv 48 0,
  Nc 49 48,
  Fa 50 0 49,
  Ld 51 50,
  Mv 52 1,
  Ct 53 94 [52],
  Mv 54 1,
  Cv 55 .u8 54,
  Mv 56 6,
  Ln 57 0 56,
  Cv 58 .u8 57,
  Af [6, 10] (Op 59 (.bsl 1 [.int .u8 0] 3 [0, 1, 2] [(.t 53), (.t 55), (.t 58)])),
  Af [4, 12, 6, 10] (Ap 60 1 1 51 59),
  Nc 61 47,
  Fa 62 0 61,
  Af [13, 4, 12, 6, 10] (St 1 62 60)]
def f83x11 : List AOper := [
  Mv 63 0,
  Mv 64 0,
  Nc 65 64,
  Fa 66 0 65,
  Ld 67 66,
  Mv 68 6,
  Ap 69 1 1 67 68,
  Nc 70 63,
  Fa 71 0 70,
  St 1 71 69]
def f83 : AFunc := ⟨72, 3, false, [], (.seq (.region f83x0 false) (.seq (.seq (.region f83x1 false) (.block 0 (.loop f83x6L))) (.seq (.seq (.region f83x7 false) (.cond (.t 21) (.seq (.region f83x8 true) (.region f83x9 false)) (.region f83x10 true))) (.region f83x11 false))))⟩
def f83x6LH : List AItem := [.inLoop f83x6L, .inBlock 0, .code (.seq (.seq (.region f83x7 false) (.cond (.t 21) (.seq (.region f83x8 true) (.region f83x9 false)) (.region f83x10 true))) (.region f83x11 false))]
def f84x0 : List AOper := [
  Mc 4 (.con (.slice none 0 0))]
def f84x1 : List AOper := [
  Mc 5 (.con (.slice none 0 0))]
def f84x2 : List AOper := [
  Mv 10 1,
  Ln 11 0 10,
  Mc 12 (.int .i64 0)]
def f84x3 : List AOper := [
  Bi 13 .lss 12 11]
def f84x4 : List AOper := [
  Ia 14 2 10 12,
  Ls 15 2 14,
  Op 7 (.alloc (.agg [.int .i64 0, .con (.slice none 0 0)])),
  St 2 7 15]
def f84x5 : List AOper := [
  Mv 16 5,
  Fa 17 0 7,
  Ld 18 17,
  Cv 19 .u8 18,
  Fa 20 1 7,
  Ld 21 20,
  Ln 22 0 21,
  Cv 23 .u8 22,
  Op 24 (.bsl 1 [.int .u8 0] 2 [0, 1] [(.t 19), (.t 23)]),
  Ap 25 1 1 16 24,
  Mv 5 25]
def f84x6 : List AOper := [
  Fa 26 1 7,
  Ld 27 26,
  Ln 28 0 27,
  Mc 29 (.int .i64 0)]
def f84x7 : List AOper := [
  Bi 30 .lss 29 28]
def f84x8 : List AOper := [
  Ia 31 1 27 29,
  Ld 32 31,
  Mv 9 32]
def f84x9 : List AOper := [
  Mv 33 5,
  Mv 34 0,
  Mv 35 9,
  Ct 36 86 [34, 35],
  Ap 37 1 1 33 36,
  Mv 5 37]
def f84x10 : List AOper := [
  Bc 38 .add 29 1,
  Mv 29 38]
def f84x11L : ACode := (.seq (.region f84x7 false) (.seq (.cond (.t 30) .skip (.exit 2)) (.seq (.block 3 (.seq (.region f84x8 false) (.region f84x9 false))) (.region f84x10 false))))
def f84x12 : List AOper := [
  Bc 39 .add 12 1,
  Mv 12 39]
def f84x13L : ACode := (.seq (.region f84x3 false) (.seq (.cond (.t 13) .skip (.exit 0)) (.seq (.block 1 (.seq (.region f84x4 false) (.seq (.region f84x5 false) (.seq (.region f84x6 false) (.block 2 (.loop f84x11L)))))) (.region f84x12 false))))
def f84x14 : List AOper := [
  Mv 40 5,
  Mv 4 40]
def f84 : AFunc := ⟨41, 2, false, [.t 4], (.seq (.region f84x0 false) (.seq (.region f84x1 false) (.seq (.seq (.region f84x2 false) (.block 0 (.loop f84x13L))) (.seq (.region f84x14 false) .ret))))⟩
def f84x13LH : List AItem := [.inLoop f84x13L, .inBlock 0, .code (.seq (.region f84x14 false) .ret)]
def f84x11LH : List AItem := [.inLoop f84x11L, .inBlock 2, .inBlock 1, .code (.region f84x12 false), .inLoop f84x13L, .inBlock 0, .code (.seq (.region f84x14 false) .ret)]
def f85x0 : List AOper := [
  Mc 2 (.con (.slice none 0 0))]
def f85x1 : List AOper := [
  Mv 3 0,
  Cv 4 .u64 3,
  Ca 5 109 [(.c (.con (.slice none 0 0))), (.c (.int .i64 4)), (.t 4)],
  Mv 2 5]
def f85 : AFunc := ⟨6, 1, false, [.t 2], (.seq (.region f85x0 false) (.seq (.region f85x1 false) .ret))⟩
def f86x0 : List AOper := [
  Mc 4 (.con (.slice none 0 0))]
def f86x1 : List AOper := [
  Mv 5 0,
  Mv 6 0,
  Nc 7 6,
  Fa 8 2 7,
  Ld 9 8,
  Mv 10 9,
  Gf 10 (Mv 11 0),
  Gf 10 (Nc 12 11),
  Gf 10 (Fa 13 1 12),
  Gf 10 (Ld 14 13),
  Gf 10 (Un 15 .not 14),
  Gf 10 (Mv 16 15),
  Gt 16 (Mv 17 1),
  Gt 16 (Bc 18 .gtr 17 65535),
  Gf 10 (Pa 19 16 18),
  Po 20 10 19,
  Nc 21 5,
  Fa 22 2 21,
  St 1 22 20]
def f86x2 : List AOper := [
  Mv 23 0,
  Nc 24 23,
  Fa 25 1 24,
  Ld 26 25,
  Ct 27 96 [26],
  Mv 28 1,
  Cv 29 .u64 28,
  Ca 30 109 [(.c (.con (.slice none 0 0))), (.t 27), (.t 29)],
  Mv 4 30]
def f86 : AFunc := ⟨31, 2, false, [.t 4], (.seq (.region f86x0 false) (.seq (.region f86x1 false) (.seq (.region f86x2 false) .ret)))⟩
def f87x0 : List AOper := [
  Mc 2 (.con (.slice none 0 0))]
def f87x1 : List AOper := [
  Mc 3 (.con (.slice none 0 0))]
def f87x2 : List AOper := [
  Mv 6 0,
  Ln 7 0 6,
  Mc 8 (.int .i64 0)]
def f87x3 : List AOper := [
  Bi 9 .lss 8 7]
def f87x4 : List AOper := [
  Ia 10 1 6 8,
  Ld 11 10,
  Mv 5 11]
def f87x5 : List AOper := [
  Mv 12 3,
  Mv 13 5,
  Cv 14 .i64 13,
  Ct 15 85 [14],
  Ap 16 1 1 12 15,
  Mv 3 16]
def f87x6 : List AOper := [
  Bc 17 .add 8 1,
  Mv 8 17]
def f87x7L : ACode := (.seq (.region f87x3 false) (.seq (.cond (.t 9) .skip (.exit 0)) (.seq (.block 1 (.seq (.region f87x4 false) (.region f87x5 false))) (.region f87x6 false))))
def f87x8 : List AOper := [
  Mv 18 3,
  Mv 2 18]
def f87 : AFunc := ⟨19, 1, false, [.t 2], (.seq (.region f87x0 false) (.seq (.region f87x1 false) (.seq (.seq (.region f87x2 false) (.block 0 (.loop f87x7L))) (.seq (.region f87x8 false) .ret))))⟩
def f87x7LH : List AItem := [.inLoop f87x7L, .inBlock 0, .code (.seq (.region f87x8 false) .ret)]
def f103x0 : List AOper := [
  Mc 4 (.bool false)]
def f103x1 : List AOper := [
  Mv 7 0,
  Ln 8 0 7,
  Mv 9 1,
  Ln 10 0 9,
  Bi 11 .neq 8 10]
def f103x2 : List AOper := [
  Mc 4 (.bool false)]
def f103x3 : List AOper := [
  Mv 12 0,
  Ln 13 0 12,
  Mc 14 (.int .i64 0)]
def f103x4 : List AOper := [
  Bi 15 .lss 14 13]
def f103x5 : List AOper := [
  Mv 16 14,
  Mv 5 16]
def f103x6 : List AOper := [
  Mv 17 0,
  Mv 18 5,
  Ia 19 2 17 18,
  Fa 20 0 19,
  Af [2] (Ld 21 20),
  Mv 22 1,
  Mv 23 5,
  Ia 24 2 22 23,
  Fa 25 0 24,
  Af [7] (Ld 26 25),
  Bi 27 .neq 21 26,
  Mv 28 27,
  Gf 28 (Mv 29 0),
  Gf 28 (Mv 30 5),
  Af [4, 9, 2, 7] (Gf 28 (Ia 31 2 29 30)),
  Gf 28 (Fa 32 1 31),
  Af [14, 4, 9, 2, 7] (Gf 28 (Ld 33 32)),
  Af [16, 14, 4, 9, 2, 7] (Gf 28 (Ln 34 0 33)),
  Gf 28 (Mv 35 1),
  Gf 28 (Mv 36 5),
  Af [4, 9, 2, 7] (Gf 28 (Ia 37 2 35 36)),
  Gf 28 (Fa 38 1 37),
  Af [20, 4, 9, 2, 7] (Gf 28 (Ld 39 38)),
  Af [22, 20, 4, 9, 2, 7] (Gf 28 (Ln 40 0 39)),
  Gf 28 (Bi 41 .neq 34 40),
  Po 42 28 41]
def f103x7 : List AOper := [
  Mc 4 (.bool false)]
def f103x8 : List AOper := [
  Mv 43 0,
  Mv 44 5,
  Ia 45 2 43 44,
  Fa 46 1 45,
  Ld 47 46,
  Ln 48 0 47,
  Mc 49 (.int .i64 0)]
def f103x9 : List AOper := [
  Bi 50 .lss 49 48]
def f103x10 : List AOper := [
  Mv 51 49,
  Mv 6 51]
def f103x11 : List AOper := [
  Mv 52 0,
  Mv 53 5,
  Ia 54 2 52 53,
  Fa 55 1 54,
  Af [2] (Ld 56 55),
  Mv 57 6,
  Af [4, 2] (Ia 58 1 56 57),
  Af [6, 4, 2] (Ld 59 58),
  Mv 60 1,
  Mv 61 5,
  Ia 62 2 60 61,
  Fa 63 1 62,
  Af [10] (Ld 64 63),
  Mv 65 6,
  Af [12, 10] (Ia 66 1 64 65),
  Af [14, 12, 10] (Ld 67 66),
  Bi 68 .neq 59 67]
def f103x12 : List AOper := [
  Mc 4 (.bool false)]
def f103x13 : List AOper := [
  Bc 69 .add 49 1,
  Mv 49 69]
def f103x14L : ACode := (.seq (.region f103x9 false) (.seq (.cond (.t 50) .skip (.exit 2)) (.seq (.block 3 (.seq (.region f103x10 false) (.seq (.region f103x11 true) (.cond (.t 68) (.seq (.region f103x12 false) .ret) .skip)))) (.region f103x13 false))))
def f103x15 : List AOper := [
  Bc 70 .add 14 1,
  Mv 14 70]
def f103x16L : ACode := (.seq (.region f103x4 false) (.seq (.cond (.t 15) .skip (.exit 0)) (.seq (.block 1 (.seq (.region f103x5 false) (.seq (.seq (.region f103x6 true) (.cond (.t 42) (.seq (.region f103x7 false) .ret) .skip)) (.seq (.region f103x8 false) (.block 2 (.loop f103x14L)))))) (.region f103x15 false))))
def f103x17 : List AOper := [
  Mc 4 (.bool true)]
def f103 : AFunc := ⟨71, 2, false, [.t 4], (.seq (.region f103x0 false) (.seq (.seq (.region f103x1 false) (.cond (.t 11) (.seq (.region f103x2 false) .ret) .skip)) (.seq (.seq (.region f103x3 false) (.block 0 (.loop f103x16L))) (.seq (.region f103x17 false) .ret))))⟩
def f103x16LH : List AItem := [.inLoop f103x16L, .inBlock 0, .code (.seq (.region f103x17 false) .ret)]
def f103x14LH : List AItem := [.inLoop f103x14L, .inBlock 2, .inBlock 1, .code (.region f103x15 false), .inLoop f103x16L, .inBlock 0, .code (.seq (.region f103x17 false) .ret)]
def f104x0 : List AOper := [
  Mc 4 (.bool false)]
def f104x1 : List AOper := [
  Mv 6 0,
  Ln 7 0 6,
  Mv 8 1,
  Ln 9 0 8,
  Bi 10 .neq 7 9]
def f104x2 : List AOper := [
  Mc 4 (.bool false)]
def f104x3 : List AOper := [
  Mv 11 0,
  Ln 12 0 11,
  Mc 13 (.int .i64 0)]
def f104x4 : List AOper := [
  Bi 14 .lss 13 12]
def f104x5 : List AOper := [
  Mv 15 13,
  Mv 5 15]
def f104x6 : List AOper := [
  Mv 16 0,
  Mv 17 5,
  Ia 18 1 16 17,
  Af [2] (Ld 19 18),
  Mv 20 1,
  Mv 21 5,
  Ia 22 1 20 21,
  Af [6] (Ld 23 22),
  Bi 24 .neq 19 23]
def f104x7 : List AOper := [
  Mc 4 (.bool false)]
def f104x8 : List AOper := [
  Bc 25 .add 13 1,
  Mv 13 25]
def f104x9L : ACode := (.seq (.region f104x4 false) (.seq (.cond (.t 14) .skip (.exit 0)) (.seq (.block 1 (.seq (.region f104x5 false) (.seq (.region f104x6 true) (.cond (.t 24) (.seq (.region f104x7 false) .ret) .skip)))) (.region f104x8 false))))
def f104x10 : List AOper := [
  Mc 4 (.bool true)]
def f104 : AFunc := ⟨26, 2, false, [.t 4], (.seq (.region f104x0 false) (.seq (.seq (.region f104x1 false) (.cond (.t 10) (.seq (.region f104x2 false) .ret) .skip)) (.seq (.seq (.region f104x3 false) (.block 0 (.loop f104x9L))) (.seq (.region f104x10 false) .ret))))⟩
def f104x9LH : List AItem := [.inLoop f104x9L, .inBlock 0, .code (.seq (.region f104x10 false) .ret)]
def f54x0 : List AOper := [
  Mc 2 (.int .i64 0)]
def f54x1 : List AOper := [
  Mv 3 0,
  Ln 4 0 3,
  Mv 5 0,
  Ct 6 57 [5],
  Ln 7 0 6,
  Bi 8 .add 4 7,
  Mv 2 8]
def f54 : AFunc := ⟨9, 1, false, [.t 2], (.seq (.region f54x0 false) (.seq (.region f54x1 false) .ret))⟩
def f178x0 : List AOper := [
  Op 1 (.box (.t 0)),
  Mc 2 (.bool false)]
def f178x1 : List AOper := [
  Fa 3 1 1,
  Ld 4 3,
  Bc 5 .geq 4 0,
  Mv 6 5,
  Gt 6 (Fa 7 1 1),
  Af [1] (Gt 6 (Ld 8 7)),
  Gt 6 (Bc 9 .leq 8 32),
  Pa 10 6 9,
  Mv 11 10,
  Gt 11 (Fa 12 0 1),
  Af [5, 1] (Gt 11 (Ld 13 12)),
  Gt 11 (Fa 14 1 1),
  Af [5, 1] (Gt 11 (Ld 15 14)),
  Af [10, 12, 5, 1] (Gt 11 (Ct 16 181 [13, 15])),
  Gt 11 (Fa 17 0 1),
  Af [5, 1] (Gt 11 (Ld 18 17)),
  Gt 11 (Bi 19 .eql 16 18),
  Pa 20 11 19,
  Mv 2 20]
def f178 : AFunc := ⟨21, 1, false, [.t 2], (.seq (.region f178x0 false) (.seq (.region f178x1 true) .ret))⟩
def f73x0 : List AOper := [
  Mc 2 (.int .i64 0)]
def f73x1 : List AOper := [
  Mv 5 0,
  Ln 6 0 5,
  Mc 7 (.int .i64 0)]
def f73x2 : List AOper := [
  Bi 8 .lss 7 6]
def f73x3 : List AOper := [
  Ia 9 1 5 7,
  Ld 10 9,
  Mv 4 10]
def f73x4 : List AOper := [
  Mv 11 4,
  Bc 12 .neq 11 0]
def f73x5 : List AOper := [
  Mv 13 4,
  Mv 2 13]
def f73x6 : List AOper := [
  Bc 14 .add 7 1,
  Mv 7 14]
def f73x7L : ACode := (.seq (.region f73x2 false) (.seq (.cond (.t 8) .skip (.exit 0)) (.seq (.block 1 (.seq (.region f73x3 false) (.seq (.region f73x4 false) (.cond (.t 12) (.seq (.region f73x5 false) .ret) .skip)))) (.region f73x6 false))))
def f73x8 : List AOper := [
  Mc 2 (.int .i64 0)]
def f73 : AFunc := ⟨15, 1, false, [.t 2], (.seq (.region f73x0 false) (.seq (.seq (.region f73x1 false) (.block 0 (.loop f73x7L))) (.seq (.region f73x8 false) .ret)))⟩
def f73x7LH : List AItem := [.inLoop f73x7L, .inBlock 0, .code (.seq (.region f73x8 false) .ret)]
def f74x0 : List AOper := [
  Mc 4 (.int .i64 0)]
def f74x1 : List AOper := [
  Mv 5 0]
def f74x2 : List AOper := [
  Mv 6 1,
  Mv 4 6]
def f74x3 : List AOper := [
  Mc 4 (.int .i64 0)]
def f74 : AFunc := ⟨7, 2, false, [.t 4], (.seq (.region f74x0 false) (.seq (.seq (.region f74x1 false) (.cond (.t 5) (.seq (.region f74x2 false) .ret) .skip)) (.seq (.region f74x3 false) .ret)))⟩
def f75x0 : List AOper := [
  Mc 2 (.int .i64 0)]
def f75x1 : List AOper := [
  Mv 7 0,
  Ln 8 0 7,
  Bc 9 .gtr 8 64]
def f75x2 : List AOper := [
  Mc 2 (.int .i64 4)]
def f75x3 : List AOper := [
  Mc 3 (.bool false)]
def f75x4 : List AOper := [
  Mv 10 0,
  Ln 11 0 10,
  Mc 12 (.int .i64 0)]
def f75x5 : List AOper := [
  Bi 13 .lss 12 11]
def f75x6 : List AOper := [
  Mv 14 12,
  Ia 15 2 10 12,
  Ls 16 2 15,
  Op 5 (.alloc (.agg [.int .i64 0, .con (.slice none 0 0)])),
  Mv 4 14,
  St 2 5 16]
def f75x7 : List AOper := [
  Ls 17 2 5,
  Ct 18 105 [17],
  Mv 6 18]
def f75x8 : List AOper := [
  Mv 19 6,
  Bc 20 .neq 19 0]
def f75x9 : List AOper := [
  Mv 21 6,
  Mv 2 21]
def f75x10 : List AOper := [
  Fa 22 0 5,
  Ld 23 22,
  Ct 24 106 [23],
  Mv 25 24,
  Gt 25 (Mv 26 3),
  Pa 27 25 26]
def f75x11 : List AOper := [
  Mc 2 (.int .i64 1)]
def f75x12 : List AOper := [
  Mv 28 4,
  Bc 29 .gtr 28 0,
  Mv 30 29,
  Gt 30 (Fa 31 0 5),
  Gt 30 (Ld 32 31),
  Gt 30 (Op 33 (.bsl 1 [.int .i64 0] 2 [0, 1] [(.c (.int .i64 2)), (.c (.int .i64 3))])),
  Af [4, 5] (Gt 30 (Ct 34 107 [32, 33])),
  Pa 35 30 34,
  Mv 36 35,
  Gt 36 (Mv 37 0),
  Gt 36 (Mv 38 4),
  Gt 36 (Bc 39 .sub 38 1),
  Af [6, 4, 5] (Gt 36 (Ia 40 2 37 39)),
  Gt 36 (Fa 41 0 40),
  Af [12, 6, 4, 5] (Gt 36 (Ld 42 41)),
  Gt 36 (Fa 43 0 5),
  Af [6, 4, 5] (Gt 36 (Ld 44 43)),
  Gt 36 (Bi 45 .eql 42 44),
  Pa 46 36 45,
  Mv 47 46,
  Gt 47 (Mv 48 0),
  Gt 47 (Mv 49 4),
  Gt 47 (Bc 50 .sub 49 1),
  Af [14, 16, 12, 6, 4, 5] (Gt 47 (Ia 51 2 48 50)),
  Gt 47 (Fa 52 1 51),
  Af [23, 14, 16, 12, 6, 4, 5] (Gt 47 (Ld 53 52)),
  Af [25, 23, 14, 16, 12, 6, 4, 5] (Gt 47 (Ln 54 0 53)),
  Gt 47 (Bc 55 .lss 54 255),
  Pa 56 47 55]
def f75x13 : List AOper := [
  Mc 2 (.int .i64 1)]
def f75x14 : List AOper := [
  Mv 57 3,
  Mv 58 57,
  Gf 58 (Fa 59 0 5),
  Gf 58 (Ld 60 59),
  Gf 58 (Ct 61 106 [60]),
  Gf 58 (Un 62 .not 61),
  Po 63 58 62,
  Mv 3 63]
def f75x15 : List AOper := [
  Bc 64 .add 12 1,
  Mv 12 64]
def f75x16L : ACode := (.seq (.region f75x5 false) (.seq (.cond (.t 13) .skip (.exit 0)) (.seq (.block 1 (.seq (.region f75x6 false) (.seq (.seq (.region f75x7 false) (.seq (.region f75x8 false) (.cond (.t 20) (.seq (.region f75x9 false) .ret) .skip))) (.seq (.seq (.region f75x10 false) (.cond (.t 27) (.seq (.region f75x11 false) .ret) .skip)) (.seq (.seq (.region f75x12 true) (.cond (.t 56) (.seq (.region f75x13 false) .ret) .skip)) (.region f75x14 false)))))) (.region f75x15 false))))
def f75x17 : List AOper := [
  Mc 2 (.int .i64 0)]
def f75 : AFunc := ⟨65, 1, false, [.t 2], (.seq (.region f75x0 false) (.seq (.seq (.region f75x1 false) (.cond (.t 9) (.seq (.region f75x2 false) .ret) .skip)) (.seq (.region f75x3 false) (.seq (.seq (.region f75x4 false) (.block 0 (.loop f75x16L))) (.seq (.region f75x17 false) .ret)))))⟩
def f75x16LH : List AItem := [.inLoop f75x16L, .inBlock 0, .code (.seq (.region f75x17 false) .ret)]
def f76x0 : List AOper := [
  Mc 6 (.int .i64 0)]
def f76x1 : List AOper := [
  Mv 8 0,
  Mv 9 8,
  Gt 9 (Mv 10 1),
  Gt 9 (Mv 11 2),
  Gt 9 (Bi 12 .lss 10 11),
  Gt 9 (Mv 13 12),
  Gf 13 (Mv 14 1),
  Gf 13 (Bc 15 .gtr 14 4294967295),
  Gt 9 (Po 16 13 15),
  Pa 17 9 16,
  Mv 7 17]
def f76x2 : List AOper := [
  Mc 6 (.int .i64 5)]
def f76x3 : List AOper := [
  Mv 19 0,
  Un 20 .not 19,
  Mv 21 20,
  Gt 21 (Mv 22 1),
  Gt 21 (Bc 23 .neq 22 0),
  Pa 24 21 23,
  Mv 18 24]
def f76x4 : List AOper := [
  Mc 6 (.int .i64 1)]
def f76x5 : List AOper := [
  Mc 6 (.int .i64 0)]
def f76 : AFunc := ⟨25, 3, false, [.t 6], (.seq (.region f76x0 false) (.seq (.block 0 (.seq (.region f76x1 false) (.cond (.t 7) (.seq (.region f76x2 false) .ret) (.seq (.region f76x3 false) (.cond (.t 18) (.seq (.region f76x4 false) .ret) .skip))))) (.seq (.region f76x5 false) .ret)))⟩
def f77x0 : List AOper := [
  Mc 2 (.int .i64 0)]
def f77x1 : List AOper := [
  Mv 4 0,
  Ln 5 0 4,
  Bc 6 .gtr 5 255]
def f77x2 : List AOper := [
  Mc 2 (.int .i64 4)]
def f77x3 : List AOper := [
  Mv 7 0,
  Ln 8 0 7,
  Mc 9 (.int .i64 0)]
def f77x4 : List AOper := [
  Bi 10 .lss 9 8]
def f77x5 : List AOper := [
  Mv 11 9,
  Mv 3 11]
def f77x6 : List AOper := [
  Mv 12 3,
  Bc 13 .gtr 12 0,
  Mv 14 13,
  Gt 14 (Mv 15 0),
  Gt 14 (Mv 16 3),
  Gt 14 (Ia 17 1 15 16),
  Af [5] (Gt 14 (Ld 18 17)),
  Gt 14 (Mv 19 0),
  Gt 14 (Mv 20 3),
  Gt 14 (Bc 21 .sub 20 1),
  Gt 14 (Ia 22 1 19 21),
  Af [10] (Gt 14 (Ld 23 22)),
  Gt 14 (Bi 24 .leq 18 23),
  Pa 25 14 24]
def f77x7 : List AOper := [
  Mc 2 (.int .i64 16)]
def f77x8 : List AOper := [
  Bc 26 .add 9 1,
  Mv 9 26]
def f77x9L : ACode := (.seq (.region f77x4 false) (.seq (.cond (.t 10) .skip (.exit 0)) (.seq (.block 1 (.seq (.region f77x5 false) (.seq (.region f77x6 true) (.cond (.t 25) (.seq (.region f77x7 false) .ret) .skip)))) (.region f77x8 false))))
def f77x10 : List AOper := [
  Mc 2 (.int .i64 0)]
def f77 : AFunc := ⟨27, 1, false, [.t 2], (.seq (.region f77x0 false) (.seq (.seq (.region f77x1 false) (.cond (.t 6) (.seq (.region f77x2 false) .ret) .skip)) (.seq (.seq (.region f77x3 false) (.block 0 (.loop f77x9L))) (.seq (.region f77x10 false) .ret))))⟩
def f77x9LH : List AItem := [.inLoop f77x9L, .inBlock 0, .code (.seq (.region f77x10 false) .ret)]
def f78x0 : List AOper := [
  Mc 2 (.int .i64 0)]
def f78x1 : List AOper := [
  Mv 5 0,
  Ln 6 0 5,
  Bc 7 .gtr 6 64]
def f78x2 : List AOper := [
  Mc 2 (.int .i64 4)]
def f78x3 : List AOper := [
  Mv 8 0,
  Ln 9 0 8,
  Mc 10 (.int .i64 0)]
def f78x4 : List AOper := [
  Bi 11 .lss 10 9]
def f78x5 : List AOper := [
  Ia 12 1 8 10,
  Ld 13 12,
  Mv 4 13]
def f78x6 : List AOper := [
  Mv 14 4,
  Op 15 (.bin .eql (.t 14) (.c (.int .u32 0)))]
def f78x7 : List AOper := [
  Mc 2 (.int .i64 1)]
def f78x8 : List AOper := [
  Bc 16 .add 10 1,
  Mv 10 16]
def f78x9L : ACode := (.seq (.region f78x4 false) (.seq (.cond (.t 11) .skip (.exit 0)) (.seq (.block 1 (.seq (.region f78x5 false) (.seq (.region f78x6 false) (.cond (.t 15) (.seq (.region f78x7 false) .ret) .skip)))) (.region f78x8 false))))
def f78x10 : List AOper := [
  Mc 2 (.int .i64 0)]
def f78 : AFunc := ⟨17, 1, false, [.t 2], (.seq (.region f78x0 false) (.seq (.seq (.region f78x1 false) (.cond (.t 7) (.seq (.region f78x2 false) .ret) .skip)) (.seq (.seq (.region f78x3 false) (.block 0 (.loop f78x9L))) (.seq (.region f78x10 false) .ret))))⟩
def f78x9LH : List AItem := [.inLoop f78x9L, .inBlock 0, .code (.seq (.region f78x10 false) .ret)]
def f79x0 : List AOper := [
  Mc 2 (.int .i64 0)]
def f79x1 : List AOper := [
  Mv 5 0,
  Ln 6 0 5,
  Bc 7 .gtr 6 64]
def f79x2 : List AOper := [
  Mc 2 (.int .i64 4)]
def f79x3 : List AOper := [
  Mv 8 0,
  Ln 9 0 8,
  Mc 10 (.int .i64 0)]
def f79x4 : List AOper := [
  Bi 11 .lss 10 9]
def f79x5 : List AOper := [
  Mv 12 10,
  Ia 13 2 8 10,
  Ls 14 2 13,
  Op 4 (.alloc (.agg [.int .i64 0, .con (.slice none 0 0)])),
  Mv 3 12,
  St 2 4 14]
def f79x6 : List AOper := [
  Fa 16 0 4,
  Ld 17 16,
  Bc 18 .leq 17 10,
  Mv 19 18,
  Gf 19 (Fa 20 0 4),
  Gf 19 (Ld 21 20),
  Gf 19 (Bc 22 .gtr 21 255),
  Po 23 19 22,
  Mv 15 23]
def f79x7 : List AOper := [
  Mc 2 (.int .i64 15)]
def f79x8 : List AOper := [
  Mv 25 3,
  Bc 26 .gtr 25 0,
  Mv 27 26,
  Gt 27 (Fa 28 0 4),
  Gt 27 (Ld 29 28),
  Gt 27 (Mv 30 0),
  Gt 27 (Mv 31 3),
  Gt 27 (Bc 32 .sub 31 1),
  Gt 27 (Ia 33 2 30 32),
  Gt 27 (Fa 34 0 33),
  Af [8] (Gt 27 (Ld 35 34)),
  Gt 27 (Bi 36 .leq 29 35),
  Pa 37 27 36,
  Mv 24 37]
def f79x9 : List AOper := [
  Mc 2 (.int .i64 16)]
def f79x10 : List AOper := [
  Fa 39 1 4,
  Ld 40 39,
  Ln 41 0 40,
  Bc 42 .gtr 41 255,
  Mv 38 42]
def f79x11 : List AOper := [
  Mc 2 (.int .i64 4)]
def f79x12 : List AOper := [
  Bc 43 .add 10 1,
  Mv 10 43]
def f79x13L : ACode := (.seq (.region f79x4 false) (.seq (.cond (.t 11) .skip (.exit 0)) (.seq (.block 1 (.seq (.region f79x5 false) (.block 2 (.seq (.region f79x6 false) (.cond (.t 15) (.seq (.region f79x7 false) .ret) (.seq (.region f79x8 true) (.cond (.t 24) (.seq (.region f79x9 false) .ret) (.seq (.region f79x10 false) (.cond (.t 38) (.seq (.region f79x11 false) .ret) .skip))))))))) (.region f79x12 false))))
def f79x14 : List AOper := [
  Mc 2 (.int .i64 0)]
def f79 : AFunc := ⟨44, 1, false, [.t 2], (.seq (.region f79x0 false) (.seq (.seq (.region f79x1 false) (.cond (.t 7) (.seq (.region f79x2 false) .ret) .skip)) (.seq (.seq (.region f79x3 false) (.block 0 (.loop f79x13L))) (.seq (.region f79x14 false) .ret))))⟩
def f79x13LH : List AItem := [.inLoop f79x13L, .inBlock 0, .code (.seq (.region f79x14 false) .ret)]
def f93x0 : List AOper := [
  Mc 6 (.int .i64 0)]
def f93x1 : List AOper := [
  Mv 10 0,
  Mv 11 1,
  Mv 12 2,
  Ct 13 110 [10, 11, 12],
  Mv 9 13,
  Ex 14 9 0,
  Ex 15 9 1,
  Mv 7 14,
  Mv 8 15]
def f93x2 : List AOper := [
  Mv 16 7,
  Cv 17 .i64 16,
  Mv 6 17]
def f93 : AFunc := ⟨18, 3, false, [.t 6], (.seq (.region f93x0 false) (.seq (.region f93x1 false) (.seq (.region f93x2 false) .ret)))⟩
def f94x0 : List AOper := [
  Mc 2 (.int .u8 0)]
def f94x1 : List AOper := [
  Mv 3 0,
  Bc 4 .gtr 3 10]
def f94x2 : List AOper := [
  Mc 2 (.int .u8 224)]
def f94x3 : List AOper := [
  Mv 5 0,
  Op 6 (.iarr 11 1 (.c (.rp [.int .u8 224, .int .u8 64, .int .u8 64, .int .u8 64, .int .u8 128, .int .u8 64, .int .u8 64, .int .u8 192, .int .u8 192, .int .u8 128, .int .u8 128])) (.t 5)),
  Ld 7 6,
  Mv 2 7]
def f94 : AFunc := ⟨8, 1, false, [.t 2], (.seq (.region f94x0 false) (.seq (.seq (.region f94x1 false) (.cond (.t 4) (.seq (.region f94x2 false) .ret) .skip)) (.seq (.region f94x3 false) .ret)))⟩
def f95x0 : List AOper := [
  Mc 8 (.bool false)]
def f95x1 : List AOper := [
  Mc 9 (.int .i64 0)]
def f95x2 : List AOper := [
  Mv 11 2,
  Ln 12 0 11,
  Bc 13 .eql 12 4]
def f95x3 : List AOper := [
  Mv 14 2,
  Ca 15 93 [(.t 14), (.c (.int .i64 0)), (.c (.int .i64 4))],
  Mv 9 15]
def f95x4 : List AOper := [
  Mv 16 2,
  Ln 17 0 16,
  Bc 18 .eql 17 4,
  Mv 10 18]
def f95x5 : List AOper := [
  Mv 19 1]
def f95x6 : List AOper := [
  Bc 35 .eql 19 1,
  Mv 34 35]
def f95x7 : List AOper := [
  Mv 36 2,
  Ln 37 0 36,
  Bc 38 .neq 37 1]
def f95x8 : List AOper := [
  Mc 8 (.bool false)]
def f95x9 : List AOper := [
  Mv 39 0,
  Mv 40 2,
  Op 41 (.iadr 1 (.t 40) (.c (.int .i64 0))),
  Ld 42 41,
  Cv 43 .i64 42,
  Nc 44 39,
  Fa 45 0 44,
  St 1 45 43]
def f95x10 : List AOper := [
  Mc 8 (.bool true)]
def f95x11 : List AOper := [
  Bc 47 .eql 19 2,
  Mv 46 47]
def f95x12 : List AOper := [
  Mv 49 0,
  Mv 50 2,
  Mv 51 3,
  Ct 52 111 [50, 51],
  Mv 48 52,
  Ex 53 48 0,
  Ex 54 48 1,
  Nc 55 49,
  Fa 56 1 55,
  St 1 56 53,
  Mv 10 54]
def f95x13 : List AOper := [
  Bc 58 .eql 19 3,
  Mv 57 58]
def f95x14 : List AOper := [
  Mv 59 0,
  Mv 60 9,
  Cv 61 .u32 60,
  Nc 62 59,
  Fa 63 2 62,
  St 1 63 61]
def f95x15 : List AOper := [
  Bc 65 .eql 19 4,
  Mv 64 65]
def f95x16 : List AOper := [
  Mv 66 0,
  Mv 67 0,
  Mv 68 9,
  Nc 69 66,
  Fa 70 3 69,
  ⟨none, .store 1 (.t 70) (.c (.bool true)), none, []⟩,
  Nc 71 67,
  Fa 72 4 71,
  St 1 72 68]
def f95x17 : List AOper := [
  Bc 74 .eql 19 5,
  Mv 73 74]
def f95x18 : List AOper := [
  Mv 75 0,
  Mv 76 0,
  Mv 77 9,
  Nc 78 75,
  Fa 79 5 78,
  ⟨none, .store 1 (.t 79) (.c (.bool true)), none, []⟩,
  Nc 80 76,
  Fa 81 6 80,
  St 1 81 77]
def f95x19 : List AOper := [
  Bc 83 .eql 19 6,
  Mv 82 83]
def f95x20 : List AOper := [
  Mv 84 0,
  Nc 85 84,
  Fa 86 7 85,
  ⟨none, .store 1 (.t 86) (.c (.bool true)), none, []⟩]
def f95x21 : List AOper := [
  Mv 87 2,
  Ln 88 0 87,
  Bc 89 .eql 88 0,
  Mv 8 89]
def f95x22 : List AOper := [
  Bc 91 .eql 19 7,
  Mv 90 91]
def f95x23 : List AOper := [
  Mv 92 2,
  Ln 93 0 92,
  Mv 94 3,
  Bc 95 .add 94 4,
  Bi 96 .neq 93 95]
def f95x24 : List AOper := [
  Mc 8 (.bool false)]
def f95x25 : List AOper := [
  Mv 97 0,
  Mv 98 0,
  Mv 99 0,
  Mv 100 2,
  Mv 101 3,
  Ca 102 93 [(.t 100), (.c (.int .i64 0)), (.t 101)],
  Mv 103 2,
  Mv 104 3,
  Ca 105 93 [(.t 103), (.t 104), (.c (.int .i64 4))],
  Cv 106 .u32 105,
  Nc 107 97,
  Fa 108 8 107,
  ⟨none, .store 1 (.t 108) (.c (.bool true)), none, []⟩,
  Nc 109 98,
  Fa 110 9 109,
  St 1 110 102,
  Nc 111 99,
  Fa 112 10 111,
  St 1 112 106]
def f95x26 : List AOper := [
  Mc 8 (.bool true)]
def f95x27 : List AOper := [
  Bc 114 .eql 19 8,
  Mv 113 114]
def f95x28 : List AOper := [
  Mv 116 0,
  Mv 117 2,
  Ct 118 112 [117],
  Mv 115 118,
  Ex 119 115 0,
  Ex 120 115 1,
  Nc 121 116,
  Fa 122 11 121,
  St 1 122 119,
  Mv 10 120]
def f95x29 : List AOper := [
  Bc 124 .eql 19 9,
  Mv 123 124]
def f95x30 : List AOper := [
  Mv 125 0,
  Mv 126 0,
  Mv 127 9,
  Cv 128 .u32 127,
  Nc 129 125,
  Fa 130 12 129,
  ⟨none, .store 1 (.t 130) (.c (.bool true)), none, []⟩,
  Nc 131 126,
  Fa 132 13 131,
  St 1 132 128]
def f95x31 : List AOper := [
  Bc 134 .eql 19 10,
  Mv 133 134]
def f95x32 : List AOper := [
  Mv 136 0,
  Mv 137 2,
  Ct 138 112 [137],
  Mv 135 138,
  Ex 139 135 0,
  Ex 140 135 1,
  Nc 141 136,
  Fa 142 14 141,
  St 1 142 139,
  Mv 10 140]
def f95x33 : List AOper := [
  Mv 20 0,
  Mv 21 0,
  Nc 22 21,
  Fa 23 15 22,
  Ld 24 23,
  Mv 25 1,
  Op 26 (.bsl 1 [.int .u8 0] 0 [] []),
  Mv 27 2,
  Af [6] (Ap 28 1 1 26 27),
  Op 29 (.build [.int .i64 0, .con (.slice none 0 0)] [(0, 1), (1, 1)] [(.t 25), (.t 28)]),
  Af [8, 6] (Op 30 (.bsl 2 [.int .i64 0, .con (.slice none 0 0)] 1 [0] [(.t 29)])),
  Af [4, 10, 8, 6] (Ap 31 2 32 24 30),
  Nc 32 20,
  Fa 33 15 32,
  Af [11, 4, 10, 8, 6] (St 1 33 31)]
def f95x34 : List AOper := [
  Mc 8 (.bool true)]
def f95x35 : List AOper := [
  Mv 143 10,
  Mv 8 143]
def f95 : AFunc := ⟨144, 4, false, [.t 8], (.seq (.region f95x0 false) (.seq (.region f95x1 false) (.seq (.seq (.region f95x2 false) (.cond (.t 13) (.region f95x3 false) .skip)) (.seq (.region f95x4 false) (.seq (.seq (.region f95x5 false) (.block 0 (.seq (.region f95x6 false) (.cond (.t 34) (.seq (.seq (.region f95x7 false) (.cond (.t 38) (.seq (.region f95x8 false) .ret) .skip)) (.seq (.region f95x9 false) (.seq (.region f95x10 false) .ret))) (.seq (.region f95x11 false) (.cond (.t 46) (.region f95x12 false) (.seq (.region f95x13 false) (.cond (.t 57) (.region f95x14 false) (.seq (.region f95x15 false) (.cond (.t 64) (.region f95x16 false) (.seq (.region f95x17 false) (.cond (.t 73) (.region f95x18 false) (.seq (.region f95x19 false) (.cond (.t 82) (.seq (.region f95x20 false) (.seq (.region f95x21 false) .ret)) (.seq (.region f95x22 false) (.cond (.t 90) (.seq (.seq (.region f95x23 false) (.cond (.t 96) (.seq (.region f95x24 false) .ret) .skip)) (.seq (.region f95x25 false) (.seq (.region f95x26 false) .ret))) (.seq (.region f95x27 false) (.cond (.t 113) (.region f95x28 false) (.seq (.region f95x29 false) (.cond (.t 123) (.region f95x30 false) (.seq (.region f95x31 false) (.cond (.t 133) (.region f95x32 false) (.seq (.region f95x33 true) (.seq (.region f95x34 false) .ret)))))))))))))))))))))))) (.seq (.region f95x35 false) .ret))))))⟩
def f96x0 : List AOper := [
  Mc 2 (.int .i64 0)]
def f96x1 : List AOper := [
  Mv 3 0]
def f96x2 : List AOper := [
  Mc 2 (.int .i64 4)]
def f96x3 : List AOper := [
  Mc 2 (.int .i64 2)]
def f96 : AFunc := ⟨4, 1, false, [.t 2], (.seq (.region f96x0 false) (.seq (.seq (.region f96x1 false) (.cond (.t 3) (.seq (.region f96x2 false) .ret) .skip)) (.seq (.region f96x3 false) .ret)))⟩
def f57x0 : List AOper := [
  Mc 2 (.con (.slice none 0 0))]
def f57x1 : List AOper := [
  Mc 3 (.con (.slice none 0 0))]
def f57x2 : List AOper := [
  Mv 6 0,
  Ln 7 0 6,
  Mc 8 (.int .i64 0)]
def f57x3 : List AOper := [
  Bi 9 .lss 8 7]
def f57x4 : List AOper := [
  Ia 10 2 6 8,
  Ls 11 2 10,
  Op 5 (.alloc (.agg [.int .i64 0, .con (.slice none 0 0)])),
  St 2 5 11]
def f57x5 : List AOper := [
  Mv 12 3,
  Fa 13 1 5,
  Ld 14 13,
  Ap 15 1 8 12 14,
  Mv 3 15]
def f57x6 : List AOper := [
  Bc 16 .add 8 1,
  Mv 8 16]
def f57x7L : ACode := (.seq (.region f57x3 false) (.seq (.cond (.t 9) .skip (.exit 0)) (.seq (.block 1 (.seq (.region f57x4 false) (.region f57x5 false))) (.region f57x6 false))))
def f57x8 : List AOper := [
  Mv 17 3,
  Mv 2 17]
def f57 : AFunc := ⟨18, 1, false, [.t 2], (.seq (.region f57x0 false) (.seq (.region f57x1 false) (.seq (.seq (.region f57x2 false) (.block 0 (.loop f57x7L))) (.seq (.region f57x8 false) .ret))))⟩
def f57x7LH : List AItem := [.inLoop f57x7L, .inBlock 0, .code (.seq (.region f57x8 false) .ret)]
def f181x0 : List AOper := [
  Mc 4 (.int .u32 0)]
def f181x1 : List AOper := [
  Mv 5 0,
  Mv 6 1,
  Ct 7 183 [6],
  Bi 8 .and 5 7,
  Mv 4 8]
def f181 : AFunc := ⟨9, 2, false, [.t 4], (.seq (.region f181x0 false) (.seq (.region f181x1 false) .ret))⟩
def f105x0 : List AOper := [
  Op 1 (.box (.t 0)),
  Mc 2 (.int .i64 0)]
def f105x1 : List AOper := [
  Fa 7 0 1,
  Ld 8 7,
  Op 9 (.bsl 1 [.int .i64 0] 4 [0, 1, 2, 3] [(.c (.int .i64 1)), (.c (.int .i64 2)), (.c (.int .i64 3)), (.c (.int .i64 4))]),
  Ct 10 107 [8, 9],
  Un 11 .not 10,
  Mv 6 11]
def f105x2 : List AOper := [
  Mc 2 (.int .i64 15)]
def f105x3 : List AOper := [
  Fa 13 1 1,
  Ld 14 13,
  Ln 15 0 14,
  Bc 16 .eql 15 0,
  Mv 12 16]
def f105x4 : List AOper := [
  Mc 2 (.int .i64 1)]
def f105x5 : List AOper := [
  Fa 18 1 1,
  Ld 19 18,
  Ln 20 0 19,
  Bc 21 .gtr 20 255,
  Mv 17 21]
def f105x6 : List AOper := [
  Mc 2 (.int .i64 4)]
def f105x7 : List AOper := [
  Fa 22 1 1,
  Ld 23 22,
  Ln 24 0 23,
  Mc 25 (.int .i64 0)]
def f105x8 : List AOper := [
  Bi 26 .lss 25 24]
def f105x9 : List AOper := [
  Ia 27 1 23 25,
  Ld 28 27,
  Mv 4 28]
def f105x10 : List AOper := [
  Mv 29 4,
  Bc 30 .lss 29 1,
  Mv 31 30,
  Gf 31 (Mv 32 4),
  Gf 31 (Bc 33 .gtr 32 4294967295),
  Po 34 31 33]
def f105x11 : List AOper := [
  Mc 2 (.int .i64 5)]
def f105x12 : List AOper := [
  Bc 35 .add 25 1,
  Mv 25 35]
def f105x13L : ACode := (.seq (.region f105x8 false) (.seq (.cond (.t 26) .skip (.exit 1)) (.seq (.block 2 (.seq (.region f105x9 false) (.seq (.region f105x10 false) (.cond (.t 34) (.seq (.region f105x11 false) .ret) .skip)))) (.region f105x12 false))))
def f105x14 : List AOper := [
  Fa 36 1 1,
  Ld 37 36,
  Ln 38 0 37,
  Mc 39 (.int .i64 0)]
def f105x15 : List AOper := [
  Bi 40 .lss 39 38]
def f105x16 : List AOper := [
  Mv 41 39,
  Mv 5 41]
def f105x17 : List AOper := [
  Mv 42 5,
  Bc 43 .gtr 42 0,
  Mv 44 43,
  Gt 44 (Fa 45 0 1),
  Gt 44 (Ld 46 45),
  Gt 44 (Op 47 (.bsl 1 [.int .i64 0] 2 [0, 1] [(.c (.int .i64 1)), (.c (.int .i64 4))])),
  Af [4, 5] (Gt 44 (Ct 48 107 [46, 47])),
  Pa 49 44 48,
  Mv 50 49,
  Gt 50 (Fa 51 1 1),
  Af [6, 4, 5] (Gt 50 (Ld 52 51)),
  Gt 50 (Mv 53 5),
  Af [10, 6, 4, 5] (Gt 50 (Ia 54 1 52 53)),
  Af [12, 10, 6, 4, 5] (Gt 50 (Ld 55 54)),
  Gt 50 (Fa 56 1 1),
  Af [6, 4, 5] (Gt 50 (Ld 57 56)),
  Gt 50 (Mv 58 5),
  Gt 50 (Bc 59 .sub 58 1),
  Af [15, 6, 4, 5] (Gt 50 (Ia 60 1 57 59)),
  Af [18, 15, 6, 4, 5] (Gt 50 (Ld 61 60)),
  Gt 50 (Bi 62 .leq 55 61),
  Pa 63 50 62]
def f105x18 : List AOper := [
  Mc 2 (.int .i64 16)]
def f105x19 : List AOper := [
  Bc 64 .add 39 1,
  Mv 39 64]
def f105x20L : ACode := (.seq (.region f105x15 false) (.seq (.cond (.t 40) .skip (.exit 3)) (.seq (.block 4 (.seq (.region f105x16 false) (.seq (.region f105x17 true) (.cond (.t 63) (.seq (.region f105x18 false) .ret) .skip)))) (.region f105x19 false))))
def f105x21 : List AOper := [
  Mc 2 (.int .i64 0)]
def f105 : AFunc := ⟨65, 1, false, [.t 2], (.seq (.region f105x0 false) (.seq (.block 0 (.seq (.region f105x1 false) (.cond (.t 6) (.seq (.region f105x2 false) .ret) (.seq (.region f105x3 false) (.cond (.t 12) (.seq (.region f105x4 false) .ret) (.seq (.region f105x5 false) (.cond (.t 17) (.seq (.region f105x6 false) .ret) .skip))))))) (.seq (.seq (.region f105x7 false) (.block 1 (.loop f105x13L))) (.seq (.seq (.region f105x14 false) (.block 3 (.loop f105x20L))) (.seq (.region f105x21 false) .ret)))))⟩
def f105x13LH : List AItem := [.inLoop f105x13L, .inBlock 1, .code (.seq (.seq (.region f105x14 false) (.block 3 (.loop f105x20L))) (.seq (.region f105x21 false) .ret))]
def f105x20LH : List AItem := [.inLoop f105x20L, .inBlock 3, .code (.seq (.region f105x21 false) .ret)]
def f106x0 : List AOper := [
  Mc 2 (.bool false)]
def f106x1 : List AOper := [
  Mv 3 0,
  Op 4 (.bsl 1 [.int .i64 0] 2 [0, 1] [(.c (.int .i64 3)), (.c (.int .i64 4))]),
  Ct 5 107 [3, 4],
  Mv 2 5]
def f106 : AFunc := ⟨6, 1, false, [.t 2], (.seq (.region f106x0 false) (.seq (.region f106x1 false) .ret))⟩
def f107x0 : List AOper := [
  Mc 4 (.bool false)]
def f107x1 : List AOper := [
  Mv 7 1,
  Ln 8 0 7,
  Mc 9 (.int .i64 0)]
def f107x2 : List AOper := [
  Bi 10 .lss 9 8]
def f107x3 : List AOper := [
  Ia 11 1 7 9,
  Ld 12 11,
  Mv 6 12]
def f107x4 : List AOper := [
  Mv 13 6,
  Mv 14 0,
  Bi 15 .eql 13 14]
def f107x5 : List AOper := [
  Mc 4 (.bool true)]
def f107x6 : List AOper := [
  Bc 16 .add 9 1,
  Mv 9 16]
def f107x7L : ACode := (.seq (.region f107x2 false) (.seq (.cond (.t 10) .skip (.exit 0)) (.seq (.block 1 (.seq (.region f107x3 false) (.seq (.region f107x4 false) (.cond (.t 15) (.seq (.region f107x5 false) .ret) .skip)))) (.region f107x6 false))))
def f107x8 : List AOper := [
  Mc 4 (.bool false)]
def f107 : AFunc := ⟨17, 2, false, [.t 4], (.seq (.region f107x0 false) (.seq (.seq (.region f107x1 false) (.block 0 (.loop f107x7L))) (.seq (.region f107x8 false) .ret)))⟩
def f107x7LH : List AItem := [.inLoop f107x7L, .inBlock 0, .code (.seq (.region f107x8 false) .ret)]
def f111x0 : List AOper := [
  Mc 4 (.con (.slice none 0 0)),
  Mc 5 (.bool false)]
def f111x1 : List AOper := [
  Mc 6 (.con (.slice none 0 0))]
def f111x2 : List AOper := [
  Mv 10 0,
  Ln 11 0 10,
  Bc 12 .gtr 11 0]
def f111x3 : List AOper := [
  Mv 13 0,
  Ln 14 0 13,
  Bc 15 .lss 14 2,
  Mv 16 15,
  Gf 16 (Mv 17 0),
  Gf 16 (Op 18 (.iadr 1 (.t 17) (.c (.int .i64 1)))),
  Gf 16 (Ld 19 18),
  Gf 16 (Op 20 (.bin .eql (.t 19) (.c (.int .u8 0)))),
  Po 21 16 20,
  Mv 22 21,
  Gf 22 (Mv 23 0),
  Gf 22 (Ln 24 0 23),
  Gf 22 (Mv 25 0),
  Gf 22 (Op 26 (.iadr 1 (.t 25) (.c (.int .i64 1)))),
  Gf 22 (Ld 27 26),
  Gf 22 (Cv 28 .i64 27),
  Gf 22 (Mv 29 1),
  Gf 22 (Bi 30 .mul 28 29),
  Gf 22 (Op 31 (.bin .add (.c (.int .i64 2)) (.t 30))),
  Gf 22 (Bi 32 .lss 24 31),
  Po 33 22 32]
def f111x4 : List AOper := [
  Mc 4 (.con (.slice none 0 0)),
  Mc 5 (.bool false)]
def f111x5 : List AOper := [
  Mv 34 0,
  Op 35 (.iadr 1 (.t 34) (.c (.int .i64 0))),
  Ld 36 35,
  Cv 37 .i64 36,
  Op 38 (.build [.int .i64 0, .con (.slice none 0 0)] [(0, 1)] [(.t 37)]),
  Op 7 (.alloc (.agg [.int .i64 0, .con (.slice none 0 0)])),
  St 2 7 38]
def f111x6 : List AOper := [
  Mv 39 0,
  Op 40 (.iadr 1 (.t 39) (.c (.int .i64 1))),
  Ld 41 40,
  Cv 42 .i64 41,
  Mv 8 42]
def f111x7 : List AOper := [
  Mv 43 8,
  Mc 44 (.int .i64 0)]
def f111x8 : List AOper := [
  Bi 45 .lss 44 43]
def f111x9 : List AOper := [
  Mv 46 44,
  Mv 9 46]
def f111x10 : List AOper := [
  Fa 47 1 7,
  Ld 48 47,
  Mv 49 0,
  Mv 50 9,
  Mv 51 1,
  Bi 52 .mul 50 51,
  Op 53 (.bin .add (.c (.int .i64 2)) (.t 52)),
  Mv 54 1,
  Ct 55 93 [49, 53, 54],
  Af [8] (Op 56 (.bsl 1 [.int .i64 0] 1 [0] [(.t 55)])),
  Af [1, 9, 8] (Ap 57 1 8 48 56),
  Fa 58 1 7,
  Af [10, 1, 9, 8] (St 1 58 57)]
def f111x11 : List AOper := [
  Bc 59 .add 44 1,
  Mv 44 59]
def f111x12L : ACode := (.seq (.region f111x8 false) (.seq (.cond (.t 45) .skip (.exit 2)) (.seq (.block 3 (.seq (.region f111x9 false) (.region f111x10 true))) (.region f111x11 false))))
def f111x13 : List AOper := [
  Mv 60 6,
  Ls 61 2 7,
  Op 62 (.bsl 2 [.int .i64 0, .con (.slice none 0 0)] 1 [0] [(.t 61)]),
  Ap 63 2 32 60 62,
  Mv 6 63]
def f111x14 : List AOper := [
  Mv 64 0,
  Mv 65 8,
  Mv 66 1,
  Bi 67 .mul 65 66,
  Op 68 (.bin .add (.c (.int .i64 2)) (.t 67)),
  Op 69 (.slc 1 (.t 64) (some (.t 68)) none none),
  Mv 0 69]
def f111x15L : ACode := (.seq (.seq (.region f111x2 false) (.cond (.t 12) .skip (.exit 0))) (.block 1 (.seq (.seq (.region f111x3 false) (.cond (.t 33) (.seq (.region f111x4 false) .ret) .skip)) (.seq (.region f111x5 false) (.seq (.region f111x6 false) (.seq (.seq (.region f111x7 false) (.block 2 (.loop f111x12L))) (.seq (.region f111x13 false) (.region f111x14 false))))))))
def f111x16 : List AOper := [
  Mv 70 6,
  Mv 4 70,
  Mc 5 (.bool true)]
def f111 : AFunc := ⟨71, 2, false, [.t 4, .t 5], (.seq (.region f111x0 false) (.seq (.region f111x1 false) (.seq (.block 0 (.loop f111x15L)) (.seq (.region f111x16 false) .ret))))⟩
def f111x15LH : List AItem := [.inLoop f111x15L, .inBlock 0, .code (.seq (.region f111x16 false) .ret)]
def f111x12LH : List AItem := [.inLoop f111x12L, .inBlock 2, .code (.seq (.region f111x13 false) (.region f111x14 false)), .inBlock 1, .inLoop f111x15L, .inBlock 0, .code (.seq (.region f111x16 false) .ret)]
def f112x0 : List AOper := [
  Mc 2 (.con (.slice none 0 0)),
  Mc 3 (.bool false)]
def f112x1 : List AOper := [
  Mc 4 (.con (.slice none 0 0))]
def f112x2 : List AOper := [
  Mc 5 (.int .i64 0)]
def f112x3 : List AOper := [
  Mv 6 5,
  Bc 7 .add 6 4,
  Mv 8 0,
  Ln 9 0 8,
  Bi 10 .leq 7 9]
def f112x4 : List AOper := [
  Mv 13 4,
  Mv 14 0,
  Mv 15 5,
  Ca 16 93 [(.t 14), (.t 15), (.c (.int .i64 4))],
  Cv 17 .u32 16,
  Op 18 (.bsl 1 [.int .u32 0] 1 [0] [(.t 17)]),
  Ap 19 1 4 13 18,
  Mv 4 19]
def f112x5 : List AOper := [
  Mv 11 5,
  Bc 12 .add 11 4,
  Mv 5 12]
def f112x6L : ACode := (.seq (.seq (.region f112x3 false) (.cond (.t 10) .skip (.exit 0))) (.seq (.block 1 (.region f112x4 false)) (.region f112x5 false)))
def f112x7 : List AOper := [
  Mv 20 4,
  Mv 21 0,
  Ln 22 0 21,
  Bc 23 .gtr 22 0,
  Mv 24 23,
  Gt 24 (Mv 25 0),
  Gt 24 (Ln 26 0 25),
  Gt 24 (Bc 27 .rem 26 4),
  Gt 24 (Bc 28 .eql 27 0),
  Pa 29 24 28,
  Mv 2 20,
  Mv 3 29]
def f112 : AFunc := ⟨30, 1, false, [.t 2, .t 3], (.seq (.region f112x0 false) (.seq (.region f112x1 false) (.seq (.seq (.region f112x2 false) (.block 0 (.loop f112x6L))) (.seq (.region f112x7 false) .ret))))⟩
def f112x6LH : List AItem := [.inLoop f112x6L, .inBlock 0, .code (.seq (.region f112x7 false) .ret)]
def f183x0 : List AOper := [
  Mc 2 (.int .u32 0)]
def f183x1 : List AOper := [
  Mv 3 0,
  Ca 4 186 [(.t 3), (.c (.int .i64 32))],
  Op 5 (.bin .sub (.c (.int .i64 32)) (.t 4)),
  Op 6 (.bin .shl (.c (.int .u32 4294967295)) (.t 5)),
  Mv 2 6]
def f183 : AFunc := ⟨7, 1, false, [.t 2], (.seq (.region f183x0 false) (.seq (.region f183x1 false) .ret))⟩
def f186x0 : List AOper := [
  Mc 4 (.int .i64 0)]
def f186x1 : List AOper := [
  Mv 5 0,
  Op 6 (.minmax true [(.t 5), (.c (.int .i64 0))]),
  Mv 7 1,
  Op 8 (.minmax false [(.t 6), (.t 7)]),
  Mv 4 8]
def f186 : AFunc := ⟨9, 2, false, [.t 4], (.seq (.region f186x0 false) (.seq (.region f186x1 false) .ret))⟩
end Go.AM.IR
namespace Go.AM.IR
def G (f : Nat) : Fun := bif Nat.blt f 130 then (bif Nat.blt f 85 then (bif Nat.blt f 73 then (bif Nat.blt f 65 then (bif Nat.blt f 54 then (bif Nat.blt f 26 then (bif Nat.beq f 21 then .code f21 else .none) else (bif Nat.beq f 26 then .code f26 else .none)) else (bif Nat.blt f 57 then (bif Nat.beq f 54 then .code f54 else .none) else (bif Nat.beq f 57 then .code f57 else .none))) else (bif Nat.blt f 69 then (bif Nat.blt f 67 then (bif Nat.beq f 65 then .code f65 else .none) else (bif Nat.beq f 67 then .code f67 else .none)) else (bif Nat.blt f 72 then (bif Nat.beq f 69 then .code f69 else .none) else (bif Nat.beq f 72 then .code f72 else .none)))) else (bif Nat.blt f 77 then (bif Nat.blt f 75 then (bif Nat.blt f 74 then (bif Nat.beq f 73 then .code f73 else .none) else (bif Nat.beq f 74 then .code f74 else .none)) else (bif Nat.blt f 76 then (bif Nat.beq f 75 then .code f75 else .none) else (bif Nat.beq f 76 then .code f76 else .none))) else (bif Nat.blt f 79 then (bif Nat.blt f 78 then (bif Nat.beq f 77 then .code f77 else .none) else (bif Nat.beq f 78 then .code f78 else .none)) else (bif Nat.blt f 83 then (bif Nat.beq f 79 then .code f79 else .none) else (bif Nat.blt f 84 then (bif Nat.beq f 83 then .code f83 else .none) else (bif Nat.beq f 84 then .code f84 else .none)))))) else (bif Nat.blt f 105 then (bif Nat.blt f 94 then (bif Nat.blt f 87 then (bif Nat.blt f 86 then (bif Nat.beq f 85 then .code f85 else .none) else (bif Nat.beq f 86 then .code f86 else .none)) else (bif Nat.blt f 93 then (bif Nat.beq f 87 then .code f87 else .none) else (bif Nat.beq f 93 then .code f93 else .none))) else (bif Nat.blt f 96 then (bif Nat.blt f 95 then (bif Nat.beq f 94 then .code f94 else .none) else (bif Nat.beq f 95 then .code f95 else .none)) else (bif Nat.blt f 103 then (bif Nat.beq f 96 then .code f96 else .none) else (bif Nat.blt f 104 then (bif Nat.beq f 103 then .code f103 else .none) else (bif Nat.beq f 104 then .code f104 else .none))))) else (bif Nat.blt f 110 then (bif Nat.blt f 107 then (bif Nat.blt f 106 then (bif Nat.beq f 105 then .code f105 else .none) else (bif Nat.beq f 106 then .code f106 else .none)) else (bif Nat.blt f 109 then (bif Nat.beq f 107 then .code f107 else .none) else (bif Nat.beq f 109 then .code f109 else .none))) else (bif Nat.blt f 112 then (bif Nat.blt f 111 then (bif Nat.beq f 110 then .code f110 else .none) else (bif Nat.beq f 111 then .code f111 else .none)) else (bif Nat.blt f 119 then (bif Nat.beq f 112 then .code f112 else .none) else (bif Nat.blt f 120 then (bif Nat.beq f 119 then .code f119 else .none) else (bif Nat.beq f 120 then .code f120 else .none))))))) else (bif Nat.blt f 193 then (bif Nat.blt f 170 then (bif Nat.blt f 157 then (bif Nat.blt f 144 then (bif Nat.blt f 139 then (bif Nat.beq f 130 then .code f130 else .none) else (bif Nat.beq f 139 then .code f139 else .none)) else (bif Nat.blt f 156 then (bif Nat.beq f 144 then .code f144 else .none) else (bif Nat.beq f 156 then .code f156 else .none))) else (bif Nat.blt f 159 then (bif Nat.blt f 158 then (bif Nat.beq f 157 then .code f157 else .none) else (bif Nat.beq f 158 then .code f158 else .none)) else (bif Nat.blt f 169 then (bif Nat.beq f 159 then .code f159 else .none) else (bif Nat.beq f 169 then .code f169 else .none)))) else (bif Nat.blt f 181 then (bif Nat.blt f 172 then (bif Nat.blt f 171 then (bif Nat.beq f 170 then .code f170 else .none) else (bif Nat.beq f 171 then .code f171 else .none)) else (bif Nat.blt f 178 then (bif Nat.beq f 172 then .code f172 else .none) else (bif Nat.beq f 178 then .code f178 else .none))) else (bif Nat.blt f 186 then (bif Nat.blt f 183 then (bif Nat.beq f 181 then .code f181 else .none) else (bif Nat.beq f 183 then .code f183 else .none)) else (bif Nat.blt f 190 then (bif Nat.beq f 186 then .code f186 else .none) else (bif Nat.blt f 192 then (bif Nat.beq f 190 then .code f190 else .none) else (bif Nat.beq f 192 then .code f192 else .none)))))) else (bif Nat.blt f 202 then (bif Nat.blt f 197 then (bif Nat.blt f 195 then (bif Nat.blt f 194 then (bif Nat.beq f 193 then .code f193 else .none) else (bif Nat.beq f 194 then .code f194 else .none)) else (bif Nat.blt f 196 then (bif Nat.beq f 195 then .code f195 else .none) else (bif Nat.beq f 196 then .code f196 else .none))) else (bif Nat.blt f 199 then (bif Nat.blt f 198 then (bif Nat.beq f 197 then .code f197 else .none) else (bif Nat.beq f 198 then .code f198 else .none)) else (bif Nat.blt f 200 then (bif Nat.beq f 199 then .code f199 else .none) else (bif Nat.blt f 201 then (bif Nat.beq f 200 then .code f200 else .none) else (bif Nat.beq f 201 then .code f201 else .none))))) else (bif Nat.blt f 206 then (bif Nat.blt f 204 then (bif Nat.blt f 203 then (bif Nat.beq f 202 then .code f202 else .none) else (bif Nat.beq f 203 then .code f203 else .none)) else (bif Nat.blt f 205 then (bif Nat.beq f 204 then .code f204 else .none) else (bif Nat.beq f 205 then .code f205 else .none))) else (bif Nat.blt f 208 then (bif Nat.blt f 207 then (bif Nat.beq f 206 then .code f206 else .none) else (bif Nat.beq f 207 then .code f207 else .none)) else (bif Nat.blt f 209 then (bif Nat.beq f 208 then .code f208 else .none) else (bif Nat.blt f 210 then (bif Nat.beq f 209 then .code f209 else .none) else (bif Nat.beq f 210 then .code f210 else .none)))))))
end Go.AM.IR
namespace Go.AM.IR
def encI (x : Int) : List AV := [.int .i64 x]
def encU (x : Int) : List AV := [.int .u32 x]
structure Seg where
  kind : Int
  as : List Int
def Seg.enc (s : Seg) : List AV := [.int .i64 s.kind, .sl 1 (s.as.map encI)]
structure TLV where
  kind : Int
  value : List UInt8
def TLV.enc (s : TLV) : List AV := [.int .i64 s.kind, .sl 1 (byteCells s.value)]
structure Attrs where
  origin : Int
  path : List Seg
  nextHop : Int
  hasMED : Bool
  med : Int
  hasPref : Bool
  pref : Int
  atomic : Bool
  hasAggr : Bool
  aggrAS : Int
  aggrAddr : Int
  comms : List Int
  hasOrig : Bool
  orig : Int
  clusters : List Int
  unknown : List TLV
def Attrs.enc (a : Attrs) : List AV := [.int .i64 a.origin, .sl 2 (a.path.map Seg.enc), .int .u32 a.nextHop, .bool a.hasMED, .int .i64 a.med, .bool a.hasPref, .int .i64 a.pref, .bool a.atomic, .bool a.hasAggr, .int .i64 a.aggrAS, .int .u32 a.aggrAddr,
  .sl 1 (a.comms.map encU), .bool a.hasOrig, .int .u32 a.orig, .sl 1 (a.clusters.map encU), .sl 2 (a.unknown.map TLV.enc)]
structure PVRoute where
  paddr : Int
  plen : Int
  attrs : Attrs
  peer : Int
  kind : Int
  router : Int
  stale : Bool
def PVRoute.enc (r : PVRoute) : List AV := [.int .u32 r.paddr, .int .i64 r.plen,
  .int .i64 r.attrs.origin, .sl 2 (r.attrs.path.map Seg.enc), .int .u32 r.attrs.nextHop, .bool r.attrs.hasMED, .int .i64 r.attrs.med, .bool r.attrs.hasPref, .int .i64 r.attrs.pref, .bool r.attrs.atomic, .bool r.attrs.hasAggr, .int .i64 r.attrs.aggrAS, .int .u32 r.attrs.aggrAddr,
  .sl 1 (r.attrs.comms.map encU), .bool r.attrs.hasOrig, .int .u32 r.attrs.orig, .sl 1 (r.attrs.clusters.map encU), .sl 2 (r.attrs.unknown.map TLV.enc),
  .int .i64 r.peer, .int .i64 r.kind, .int .u32 r.router, .bool r.stale]
structure IGP where
  addr : Int
  cost : Int
def IGP.enc (c : IGP) : List AV := [.int .u32 c.addr, .int .i64 c.cost]
theorem pureLL_map {α : Type} {f : α → List AV} (h : ∀ x, pureL (f x) = true) : ∀ l : List α, pureLL (l.map f) = true
  | [] => rfl
  | x :: r => by simp only [List.map_cons, pureLL, h x, pureLL_map h r, Bool.and_self]
theorem pureLL_bytes : ∀ l : List UInt8, pureLL (byteCells l) = true := fun l => pureLL_map (f := fun b : UInt8 => [AV.int .u8 (b.toNat : Int)]) (fun _ => rfl) l
@[simp] theorem pure_encI (l : List Int) : pureLL (l.map encI) = true := pureLL_map (fun _ => rfl) l
@[simp] theorem pure_encU (l : List Int) : pureLL (l.map encU) = true := pureLL_map (fun _ => rfl) l
theorem Seg.pure (s : Seg) : pureL s.enc = true := by simp [Seg.enc, pureL, AV.pure]
@[simp] theorem pure_segs (l : List Seg) : pureLL (l.map Seg.enc) = true := pureLL_map Seg.pure l
theorem TLV.pure (s : TLV) : pureL s.enc = true := by simp [TLV.enc, pureL, AV.pure, pureLL_bytes]
@[simp] theorem pure_tlvs (l : List TLV) : pureLL (l.map TLV.enc) = true := pureLL_map TLV.pure l
@[simp] theorem Attrs.pure (s : Attrs) : pureL s.enc = true := by simp [Attrs.enc, pureL, AV.pure]
@[simp] theorem PVRoute.pure (s : PVRoute) : pureL s.enc = true := by simp [PVRoute.enc, pureL, AV.pure]
@[simp] theorem pure_routes (l : List PVRoute) : pureLL (l.map PVRoute.enc) = true := pureLL_map PVRoute.pure l
@[simp] theorem pure_igps (l : List IGP) : pureLL (l.map IGP.enc) = true := pureLL_map (fun _ => rfl) l
end Go.AM.IR
namespace Go.AM.IR
theorem lift_enc {α : Type} {e : List AV → Prop} {enc : α → List AV} {Q : α → Prop} (h : ∀ x, e x → ∃ a, x = enc a ∧ Q a) : ∀ es : List (List AV), (∀ x ∈ es, e x) → ∃ l : List α, es = l.map enc ∧ ∀ a ∈ l, Q a
  | [], _ => ⟨[], rfl, by simp⟩
  | x :: r, hx => by
    obtain ⟨a, rfl, ha⟩ := h x (hx x (by simp))
    obtain ⟨l, rfl, hl⟩ := lift_enc h r fun y hy => hx y (by simp [hy])
    exact ⟨a :: l, rfl, by simpa using ⟨ha, hl⟩⟩
def okI (x : Int) : Prop := -9223372036854775808 ≤ x ∧ x ≤ 9223372036854775807
def okU (x : Int) : Prop := 0 ≤ x ∧ x ≤ 4294967295
theorem T_i64 {as : List AV} (h : Ty.T (.int .i64) as) : ∃ x, as = encI x ∧ okI x := by
  obtain ⟨n, rfl, h1, h2⟩ := h
  exact ⟨n, rfl, by simpa [IntKind.min, IntKind.max, IntKind.signed, IntKind.bits, okI] using And.intro h1 h2⟩
theorem T_u32 {as : List AV} (h : Ty.T (.int .u32) as) : ∃ x, as = encU x ∧ okU x := by
  obtain ⟨n, rfl, h1, h2⟩ := h
  exact ⟨n, rfl, by simpa [IntKind.min, IntKind.max, IntKind.signed, IntKind.bits, okU] using And.intro h1 h2⟩
theorem T_u8 {as : List AV} (h : Ty.T (.int .u8) as) : ∃ b : UInt8, as = [.int .u8 b.toNat] ∧ True := by
  obtain ⟨n, rfl, h1, h2⟩ := h
  have h1 : 0 ≤ n := by simpa [IntKind.min, IntKind.signed] using h1
  have h2 : n ≤ 255 := by simpa [IntKind.max, IntKind.signed, IntKind.bits] using h2
  refine ⟨UInt8.ofNat n.toNat, ?_, trivial⟩
  have : ((UInt8.ofNat n.toNat).toNat : Int) = n := by simp; omega
  rw [this]
theorem T_sl {α : Type} {τ : Ty} {enc : α → List AV} {Q : α → Prop} (h : ∀ x, τ.T x → ∃ a, x = enc a ∧ Q a) {as : List AV} (hs : Ty.T (.sl τ) as) : ∃ l : List α, as = [.sl τ.cells (l.map enc)] ∧ ∀ a ∈ l, Q a := by
  obtain ⟨es, rfl, h1, _⟩ := hs
  obtain ⟨l, rfl, h2⟩ := lift_enc h es h1
  exact ⟨l, rfl, h2⟩
theorem T_bytes {as : List AV} (hs : Ty.T (.sl (.int .u8)) as) : ∃ l : List UInt8, as = [.sl 1 (byteCells l)] := by
  obtain ⟨l, rfl, _⟩ := T_sl (fun x => T_u8) hs
  exact ⟨l, rfl⟩
def tSeg : Ty := .st [.int .i64, .sl (.int .i64)]
def tTLV : Ty := .st [.int .i64, .sl (.int .u8)]
def tAttrs : Ty := .st [.int .i64, .sl tSeg, .int .u32, .bool, .int .i64, .bool, .int .i64, .bool, .bool, .int .i64, .int .u32, .sl (.int .u32), .bool, .int .u32, .sl (.int .u32), .sl tTLV]
structure Seg.ok (s : Seg) : Prop where
  kind : okI s.kind
  as : ∀ x ∈ s.as, okI x
theorem T_seg {as : List AV} (h : tSeg.T as) : ∃ s : Seg, as = s.enc ∧ s.ok := by
  simp only [tSeg, Ty.T.eq_5, TT] at h
  obtain ⟨a1, b1, rfl, h1, a2, b2, rfl, h2, rfl⟩ := h
  obtain ⟨x1, rfl, k1⟩ := T_i64 h1
  obtain ⟨x2, rfl, k2⟩ := T_sl (fun x => T_i64) h2
  exact ⟨⟨x1, x2⟩, rfl, k1, k2⟩
structure TLV.ok (s : TLV) : Prop where
  kind : okI s.kind
theorem T_tlv {as : List AV} (h : tTLV.T as) : ∃ s : TLV, as = s.enc ∧ s.ok := by
  simp only [tTLV, Ty.T.eq_5, TT] at h
  obtain ⟨a1, b1, rfl, h1, a2, b2, rfl, h2, rfl⟩ := h
  obtain ⟨x1, rfl, k1⟩ := T_i64 h1
  obtain ⟨x2, rfl⟩ := T_bytes h2
  exact ⟨⟨x1, x2⟩, rfl, ⟨k1⟩⟩
structure IGP.ok (s : IGP) : Prop where
  addr : okU s.addr
  cost : okI s.cost
structure Attrs.ok (a : Attrs) : Prop where
  origin : okI a.origin
  path : ∀ s ∈ a.path, s.ok
  nextHop : okU a.nextHop
  med : okI a.med
  pref : okI a.pref
  aggrAS : okI a.aggrAS
  aggrAddr : okU a.aggrAddr
  comms : ∀ x ∈ a.comms, okU x
  orig : okU a.orig
  clusters : ∀ x ∈ a.clusters, okU x
  unknown : ∀ x ∈ a.unknown, x.ok
theorem T_attrs {as : List AV} (h : tAttrs.T as) : ∃ s : Attrs, as = s.enc ∧ s.ok := by
  simp only [tAttrs, Ty.T.eq_5, TT] at h
  obtain ⟨a1, b1, rfl, h1, a2, b2, rfl, h2, a3, b3, rfl, h3, a4, b4, rfl, h4, a5, b5, rfl, h5, a6, b6, rfl, h6, a7, b7, rfl, h7, a8, b8, rfl, h8, a9, b9, rfl, h9, a10, b10, rfl, h10, a11, b11, rfl, h11, a12, b12, rfl, h12, a13, b13, rfl, h13, a14, b14, rfl, h14, a15, b15, rfl, h15, a16, b16, rfl, h16, rfl⟩ := h
  obtain ⟨x1, rfl, k1⟩ := T_i64 h1
  obtain ⟨x2, rfl, k2⟩ := T_sl (fun x => T_seg) h2
  obtain ⟨x3, rfl, k3⟩ := T_u32 h3
  obtain ⟨x4, rfl⟩ := h4
  obtain ⟨x5, rfl, k5⟩ := T_i64 h5
  obtain ⟨x6, rfl⟩ := h6
  obtain ⟨x7, rfl, k7⟩ := T_i64 h7
  obtain ⟨x8, rfl⟩ := h8
  obtain ⟨x9, rfl⟩ := h9
  obtain ⟨x10, rfl, k10⟩ := T_i64 h10
  obtain ⟨x11, rfl, k11⟩ := T_u32 h11
  obtain ⟨x12, rfl, k12⟩ := T_sl (fun x => T_u32) h12
  obtain ⟨x13, rfl⟩ := h13
  obtain ⟨x14, rfl, k14⟩ := T_u32 h14
  obtain ⟨x15, rfl, k15⟩ := T_sl (fun x => T_u32) h15
  obtain ⟨x16, rfl, k16⟩ := T_sl (fun x => T_tlv) h16
  exact ⟨⟨x1, x2, x3, x4, x5, x6, x7, x8, x9, x10, x11, x12, x13, x14, x15, x16⟩, rfl, k1, k2, k3, k5, k7, k10, k11, k12, k14, k15, k16⟩
structure PVRoute.ok (r : PVRoute) : Prop where
  paddr : okU r.paddr
  plen : okI r.plen
  attrs : r.attrs.ok
  peer : okI r.peer
  kind : okI r.kind
  router : okU r.router
end Go.AM.IR
namespace Go.AM.IR
structure Pfx where
  addr : Int
  len : Int
  deriving DecidableEq
def Pfx.enc (p : Pfx) : List AV := [.int .u32 p.addr, .int .i64 p.len]
structure Cap where
  code : Int
  value : List UInt8
  deriving DecidableEq
def Cap.enc (p : Cap) : List AV := [.int .i64 p.code, .sl 1 (byteCells p.value)]
structure PMsg where
  kind : Int
  version : Int
  as : Int
  hold : Int
  router : Int
  caps : List Cap
  withdrawn : List Pfx
  attrs : Attrs
  reach : List Pfx
  code : Int
  sub : Int
  data : List UInt8
def PMsg.enc (m : PMsg) : List AV := [.int .i64 m.kind, .int .i64 m.version, .int .i64 m.as, .int .i64 m.hold, .int .u32 m.router, .sl 2 (m.caps.map Cap.enc), .sl 2 (m.withdrawn.map Pfx.enc),
  .int .i64 m.attrs.origin, .sl 2 (m.attrs.path.map Seg.enc), .int .u32 m.attrs.nextHop, .bool m.attrs.hasMED, .int .i64 m.attrs.med, .bool m.attrs.hasPref, .int .i64 m.attrs.pref, .bool m.attrs.atomic, .bool m.attrs.hasAggr, .int .i64 m.attrs.aggrAS, .int .u32 m.attrs.aggrAddr,
  .sl 1 (m.attrs.comms.map encU), .bool m.attrs.hasOrig, .int .u32 m.attrs.orig, .sl 1 (m.attrs.clusters.map encU), .sl 2 (m.attrs.unknown.map TLV.enc),
  .sl 2 (m.reach.map Pfx.enc), .int .i64 m.code, .int .i64 m.sub, .sl 1 (byteCells m.data)]
structure Peer where
  kind : Int
  as : Int
  addr : Int
  loc : Int
  client : Bool
  hold : Int
  restart : Int
  imp : List UInt8
  exp : List UInt8
  nextSelf : Bool
  damp : Bool
def Peer.enc (p : Peer) : List AV := [.int .i64 p.kind, .int .i64 p.as, .int .u32 p.addr, .int .u32 p.loc, .bool p.client, .int .i64 p.hold, .int .i64 p.restart, .str p.imp, .str p.exp, .bool p.nextSelf, .bool p.damp]
structure Conf where
  as : Int
  confed : Int
  router : Int
  cluster : Int
  peers : List Peer
  nets : AV
  p1 : AV
  p2 : AV
  p3 : AV
  p4 : AV
  d1 : Int
  d2 : Int
  d3 : Int
  d4 : Int
  multi : Int
def Conf.enc (c : Conf) : List AV := [.int .i64 c.as, .int .i64 c.confed, .int .u32 c.router, .int .u32 c.cluster, .sl 11 (c.peers.map Peer.enc), c.nets, c.p1, c.p2, c.p3, c.p4, .int .i64 c.d1, .int .i64 c.d2, .int .i64 c.d3, .int .i64 c.d4, .int .i64 c.multi]
structure Ses where
  state : Int
  retry : Int
  hold : Int
  keep : Int
  holdTime : Int
  router : Int
  restart : Int
  refresh : Bool
  untl : Int
def Ses.enc (s : Ses) : List AV := [.int .i64 s.state, .int .i64 s.retry, .int .i64 s.hold, .int .i64 s.keep, .int .i64 s.holdTime, .int .u32 s.router, .int .i64 s.restart, .bool s.refresh, .int .i64 s.untl]
structure Act where
  kind : Int
  msg : PMsg
def Act.enc (a : Act) : List AV := .int .i64 a.kind :: a.msg.enc
theorem Pfx.pure (s : Pfx) : pureL s.enc = true := rfl
@[simp] theorem pure_pfxs (l : List Pfx) : pureLL (l.map Pfx.enc) = true := pureLL_map Pfx.pure l
theorem Cap.pure (s : Cap) : pureL s.enc = true := by simp [Cap.enc, pureL, AV.pure, pureLL_bytes]
@[simp] theorem pure_caps (l : List Cap) : pureLL (l.map Cap.enc) = true := pureLL_map Cap.pure l
@[simp] theorem PMsg.pure (s : PMsg) : pureL s.enc = true := by simp [PMsg.enc, pureL, AV.pure, pureLL_bytes]
theorem Peer.pure (s : Peer) : pureL s.enc = true := rfl
@[simp] theorem pure_peers (l : List Peer) : pureLL (l.map Peer.enc) = true := pureLL_map Peer.pure l
@[simp] theorem Ses.pure (s : Ses) : pureL s.enc = true := rfl
@[simp] theorem Act.pure (s : Act) : pureL s.enc = true := by simp [Act.enc, pureL, AV.pure]
@[simp] theorem pure_acts (l : List Act) : pureLL (l.map Act.enc) = true := pureLL_map Act.pure l
structure Conf.ok (c : Conf) : Prop where
  nets : c.nets.pure = true
  p1 : c.p1.pure = true
  p2 : c.p2.pure = true
  p3 : c.p3.pure = true
  p4 : c.p4.pure = true
  as : okI c.as
  confed : okI c.confed
  router : okU c.router
  peers : ∀ p ∈ c.peers, okI p.as ∧ okI p.hold ∧ okI p.restart ∧ okI p.kind
  len : c.peers.length ≤ maxLen
theorem Conf.pure {c : Conf} (h : c.ok) : pureL c.enc = true := by simp [Conf.enc, pureL, AV.pure, h.nets, h.p1, h.p2, h.p3, h.p4]
def tPfx : Ty := .st [.int .u32, .int .i64]
def tCap : Ty := .st [.int .i64, .sl (.int .u8)]
def tMsg : Ty := .st [.int .i64, .int .i64, .int .i64, .int .i64, .int .u32, .sl tCap, .sl tPfx, tAttrs, .sl tPfx, .int .i64, .int .i64, .sl (.int .u8)]
structure Pfx.ok (p : Pfx) : Prop where
  addr : okU p.addr
  len : okI p.len
theorem T_pfx {as : List AV} (h : tPfx.T as) : ∃ s : Pfx, as = s.enc ∧ s.ok := by
  simp only [tPfx, Ty.T.eq_5, TT] at h
  obtain ⟨a1, b1, rfl, h1, a2, b2, rfl, h2, rfl⟩ := h
  obtain ⟨x1, rfl, k1⟩ := T_u32 h1
  obtain ⟨x2, rfl, k2⟩ := T_i64 h2
  exact ⟨⟨x1, x2⟩, rfl, k1, k2⟩
theorem T_cap {as : List AV} (h : tCap.T as) : ∃ s : Cap, as = s.enc ∧ okI s.code := by
  simp only [tCap, Ty.T.eq_5, TT] at h
  obtain ⟨a1, b1, rfl, h1, a2, b2, rfl, h2, rfl⟩ := h
  obtain ⟨x1, rfl, k1⟩ := T_i64 h1
  obtain ⟨x2, rfl⟩ := T_bytes h2
  exact ⟨⟨x1, x2⟩, rfl, k1⟩
structure PMsg.ok (m : PMsg) : Prop where
  kind : okI m.kind
  version : okI m.version
  as : okI m.as
  hold : okI m.hold
  router : okU m.router
  caps : ∀ c ∈ m.caps, okI c.code
  withdrawn : ∀ p ∈ m.withdrawn, p.ok
  attrs : m.attrs.ok
  reach : ∀ p ∈ m.reach, p.ok
  code : okI m.code
  sub : okI m.sub
theorem T_msg {as : List AV} (h : tMsg.T as) : ∃ s : PMsg, as = s.enc ∧ s.ok := by
  simp only [tMsg, Ty.T.eq_5, TT] at h
  obtain ⟨a1, b1, rfl, h1, a2, b2, rfl, h2, a3, b3, rfl, h3, a4, b4, rfl, h4, a5, b5, rfl, h5, a6, b6, rfl, h6, a7, b7, rfl, h7, a8, b8, rfl, h8, a9, b9, rfl, h9, a10, b10, rfl, h10, a11, b11, rfl, h11, a12, b12, rfl, h12, rfl⟩ := h
  obtain ⟨x1, rfl, k1⟩ := T_i64 h1
  obtain ⟨x2, rfl, k2⟩ := T_i64 h2
  obtain ⟨x3, rfl, k3⟩ := T_i64 h3
  obtain ⟨x4, rfl, k4⟩ := T_i64 h4
  obtain ⟨x5, rfl, k5⟩ := T_u32 h5
  obtain ⟨x6, rfl, k6⟩ := T_sl (fun x => T_cap) h6
  obtain ⟨x7, rfl, k7⟩ := T_sl (fun x => T_pfx) h7
  obtain ⟨x8, rfl, k8⟩ := T_attrs h8
  obtain ⟨x9, rfl, k9⟩ := T_sl (fun x => T_pfx) h9
  obtain ⟨x10, rfl, k10⟩ := T_i64 h10
  obtain ⟨x11, rfl, k11⟩ := T_i64 h11
  obtain ⟨x12, rfl⟩ := T_bytes h12
  exact ⟨⟨x1, x2, x3, x4, x5, x6, x7, x8, x9, x10, x11, x12⟩, rfl, k1, k2, k3, k4, k5, k6, k7, k8, k9, k10, k11⟩
structure Ses.ok (s : Ses) : Prop where
  state : okI s.state
  retry : okI s.retry
  hold : okI s.hold
  keep : okI s.keep
  holdTime : okI s.holdTime
  router : okU s.router
  restart : okI s.restart
  untl : okI s.untl
end Go.AM.IR
set_option maxHeartbeats 4000000
set_option maxRecDepth 20000
namespace Go.AM.IR
def keepN (x n : Nat) : Nat := x / 2 ^ (32 - n) * 2 ^ (32 - n)
def maskN (n : Nat) : Nat := 4294967296 - 2 ^ (32 - n)
theorem keepN_bit (x n j : Nat) (hn : n ≤ 32) : (keepN x n).testBit j = (decide (32 - n ≤ j) && x.testBit j) := by
  unfold keepN
  rw [Nat.testBit_mul_two_pow]
  by_cases h : 32 - n ≤ j
  · simp only [h, decide_true, Bool.true_and]
    rw [Nat.testBit_div_two_pow]; congr 1; omega
  · simp [h]
theorem maskN_eq (n : Nat) (hn : n ≤ 32) : maskN n = (2 ^ n - 1) * 2 ^ (32 - n) := by
  unfold maskN
  rw [Nat.sub_mul, ← Nat.pow_add, show n + (32 - n) = 32 by omega]; omega
theorem maskN_bit (n j : Nat) (hn : n ≤ 32) : (maskN n).testBit j = (decide (32 - n ≤ j) && decide (j < 32)) := by
  rw [maskN_eq n hn, Nat.testBit_mul_two_pow, Nat.testBit_two_pow_sub_one]
  by_cases h : 32 - n ≤ j
  · simp only [h, decide_true, Bool.true_and]
    congr 1; simp; omega
  · simp [h]
theorem and_mask (x n : Nat) (hx : x < 4294967296) (hn : n ≤ 32) : x &&& maskN n = keepN x n := by
  apply Nat.eq_of_testBit_eq
  intro j
  rw [Nat.testBit_and, keepN_bit x n j hn, maskN_bit n j hn]
  by_cases hj : j < 32
  · simp [hj, Bool.and_comm]
  · have : x.testBit j = false := Nat.testBit_lt_two_pow (Nat.lt_of_lt_of_le hx (by rw [show 4294967296 = 2 ^ 32 from rfl]; exact Nat.pow_le_pow_right (by omega) (by omega)))
    simp [this]
theorem keepN_le (x n : Nat) : keepN x n ≤ x := Nat.div_mul_le_self _ _
def clampN (n : Int) : Nat := if n ≤ 0 then 0 else if n ≤ 32 then n.toNat else 32
theorem clampN_le (n : Int) : clampN n ≤ 32 := by
  unfold clampN
  repeat' split
  all_goals omega
section
variable {k : AV → Prop}
theorem wrapU32 (r : Nat) (hr : r < 4294967296) : IntKind.wrap .u32 (r : Int) = (r : Int) := by
  simp [IntKind.wrap, IntKind.signed, IntKind.bits]; omega
theorem ofInt32 (a : Nat) (ha : a < 4294967296) : (BitVec.ofInt 32 (a : Int)).toNat = a := by
  rw [BitVec.toNat_ofInt]; omega
theorem and_u32 (a b : Nat) (ha : a < 4294967296) (hb : b < 4294967296) : intBits .and .u32 (a : Int) (b : Int) = ((a &&& b : Nat) : Int) := by
  have hl : a &&& b < 4294967296 := Nat.lt_of_le_of_lt Nat.and_le_left ha
  show IntKind.wrap .u32 (((BitVec.ofInt 32 (a : Int) &&& BitVec.ofInt 32 (b : Int)).toNat : Nat) : Int) = _
  rw [BitVec.toNat_and, ofInt32 a ha, ofInt32 b hb]; exact wrapU32 _ hl
theorem zAnd32 {a b : Nat} (h : k (.int .u32 ((a &&& b : Nat) : Int))) (ha : a < 4294967296 := by omega) (hb : b < 4294967296 := by omega) : ∃ v, binA .and (.int .u32 (a : Int)) (.int .u32 (b : Int)) = some v ∧ k v := ⟨_, by show some (AV.int .u32 (intBits .and .u32 _ _)) = _; rw [and_u32 a b ha hb], h⟩
theorem zMask {n : Nat} {j : Int} (h : k (.int .u32 ((maskN n : Nat) : Int))) (hj : j = 32 - (n : Int)) (hn : n ≤ 32) : ∃ v, binA .shl (.int .u32 4294967295) (.int .i64 j) = some v ∧ k v := by
  refine ⟨_, ?_, h⟩
  show (if j < 0 then none else some (AV.int .u32 (IntKind.wrap .u32 (4294967295 * 2 ^ (min j.toNat 32))))) = _
  rw [if_neg (by omega), show min j.toNat 32 = 32 - n by omega]
  have h1 : (2 : Nat) ^ (32 - n) ≤ 2 ^ 32 := Nat.pow_le_pow_right (by omega) (by omega)
  have h2 : 0 < (2 : Nat) ^ (32 - n) := Nat.pow_pos (by omega)
  have e : (4294967295 * 2 ^ (32 - n) : Int) = ((maskN n : Nat) : Int) + 4294967296 * ((2 ^ (32 - n) - 1 : Nat) : Int) := by
    unfold maskN
    have : ((2 ^ (32 - n) : Nat) : Int) = (2 : Int) ^ (32 - n) := by simp
    rw [← this]; omega
  congr 2
  rw [e]
  have h3 : maskN n < 4294967296 := by unfold maskN; omega
  simp [IntKind.wrap, IntKind.signed, IntKind.bits]; omega
end
end Go.AM.IR
set_option maxHeartbeats 4000000
set_option maxRecDepth 20000
namespace Go.AM.IR
theorem clamp_gives186 (n : Int) : Gives G 186 [.int .i64 n, .int .i64 32] [] ⟨.int .i64 (clampN n : Nat), []⟩ := by
  by_cases h0 : n ≤ 0
  · rw [show clampN n = 0 from by simp [clampN, h0]]
    by_cases h1 : n = 0
    · subst h1
      refine gives_code (F := f186) rfl rfl (W_ok 300 _ _ _ _ ?_)
      repeat' (first | refine stpA ?_ | (refine condS ?_ ?_ <;> intro h))
      (first | refine fin1 ?_ | refine fin0 ?_); rfl
    · have h2 : n < 0 := by omega
      refine gives_code (F := f186) rfl rfl (W_ok 300 _ _ _ _ ?_)
      repeat' (first | refine stpA ?_ | (refine condS ?_ ?_ <;> intro h))
      (first | refine fin1 ?_ | refine fin0 ?_); first | rfl | (simp [h2])
  · by_cases h1 : n ≤ 32
    · rw [show ((clampN n : Nat) : Int) = n from by simp [clampN, h0, h1]; omega]
      refine gives_code (F := f186) rfl rfl (W_ok 300 _ _ _ _ ?_)
      repeat' (first | refine stpA ?_ | (refine condS ?_ ?_ <;> intro h))
      (first | refine fin1 ?_ | refine fin0 ?_); rfl
    · rw [show clampN n = 32 from by simp [clampN, h0, h1]]
      refine gives_code (F := f186) rfl rfl (W_ok 300 _ _ _ _ ?_)
      repeat' (first | refine stpA ?_ | (refine condS ?_ ?_ <;> intro h))
      (first | refine fin1 ?_ | refine fin0 ?_); rfl
theorem mask_gives183 (n : Int) : Gives G 183 [.int .i64 n] [] ⟨.int .u32 (maskN (clampN n) : Nat), []⟩ := by
  have hc := clamp_gives186 n
  have hl := clampN_le n
  generalize clampN n = c at *
  refine gives_code (F := f183) rfl rfl (W_ok 300 _ _ _ _ ?_)
  repeat' ((conv => whnf); first | refine zMask (n := c) ?_ (by omega) (by omega) | refine bslP (by first | rfl | (simp [pureL, pureLL, AV.pure]; done) | fail) rfl ?_ | refine TakeC.full (by first | rfl | omega | (simp; done) | (simp; omega) | fail) ?_ | refine zBs ?_ | refine zBn ?_ | refine zBv rfl rfl ?_ | refine zN ?_ | refine zC ?_ | refine zC4 ?_ | refine zOr16 ?_ | refine zC1 ?_ | refine zByte ?_ | refine zMaxL ?_ | refine zMaxR ?_ | refine zMinL ?_ | refine zMinR ?_ | refine zShr ?_ | refine zC8 ?_ | refine zQ ?_ | refine zR ?_ | refine zS ?_ | refine zA ?_ | refine zM ?_ | refine xr rfl ?_ | refine ai rfl ?_ | refine condT ?_ | refine condF ?_ | refine condG1 ?_ | refine condG0 ?_ | refine cD ?_ | refine dD ?_ | refine cB ?_ | refine dB ?_ | refine cN ?_ | refine dN ?_ | refine cV ?_ | refine dV ?_ | refine cE ?_ | refine dE ?_ | refine condX0 ?_ | refine condX1 ?_ | refine condNot ?_ | refine condAnd ?_ | refine condOr ?_ | refine aO ?_ | refine aB ?_ | refine aR ?_ | refine aR ?_ (by simp; omega) | refine xr (by assumption) ?_ | refine ai (by assumption) ?_ | refine kV (by assumption) ?_ | refine kN (by assumption) ?_ | refine callW (by assumption) ?_ | refine condD (fun h => ?_) (fun h => ?_) | refine condB (fun h => ?_) (fun h => ?_) | refine condN (fun h => ?_) (fun h => ?_) | refine condE (fun h => ?_) (fun h => ?_) | refine condV (fun h => ?_) (fun h => ?_))
  (first | refine fin1 ?_ | refine fin0 ?_); rfl
theorem keep_gives181 (x : Nat) (n : Int) (hx : x < 4294967296) : Gives G 181 [.int .u32 (x : Int), .int .i64 n] [] ⟨.int .u32 (keepN x (clampN n) : Nat), []⟩ := by
  have hm := mask_gives183 n
  have hl := clampN_le n
  rw [← and_mask x (clampN n) hx hl]
  have hb : maskN (clampN n) < 4294967296 := by unfold maskN; have := Nat.pow_pos (n := 32 - clampN n) (show 0 < 2 by omega); omega
  generalize maskN (clampN n) = mk at *
  refine gives_code (F := f181) rfl rfl (W_ok 300 _ _ _ _ ?_)
  repeat' ((conv => whnf); first | refine zAnd32 ?_ hx hb | refine bslP (by first | rfl | (simp [pureL, pureLL, AV.pure]; done) | fail) rfl ?_ | refine TakeC.full (by first | rfl | omega | (simp; done) | (simp; omega) | fail) ?_ | refine zBs ?_ | refine zBn ?_ | refine zBv rfl rfl ?_ | refine zN ?_ | refine zC ?_ | refine zC4 ?_ | refine zOr16 ?_ | refine zC1 ?_ | refine zByte ?_ | refine zMaxL ?_ | refine zMaxR ?_ | refine zMinL ?_ | refine zMinR ?_ | refine zShr ?_ | refine zC8 ?_ | refine zQ ?_ | refine zR ?_ | refine zS ?_ | refine zA ?_ | refine zM ?_ | refine xr rfl ?_ | refine ai rfl ?_ | refine condT ?_ | refine condF ?_ | refine condG1 ?_ | refine condG0 ?_ | refine cD ?_ | refine dD ?_ | refine cB ?_ | refine dB ?_ | refine cN ?_ | refine dN ?_ | refine cV ?_ | refine dV ?_ | refine cE ?_ | refine dE ?_ | refine condX0 ?_ | refine condX1 ?_ | refine condNot ?_ | refine condAnd ?_ | refine condOr ?_ | refine aO ?_ | refine aB ?_ | refine aR ?_ | refine aR ?_ (by simp; omega) | refine xr (by assumption) ?_ | refine ai (by assumption) ?_ | refine kV (by assumption) ?_ | refine kN (by assumption) ?_ | refine callW (by assumption) ?_ | refine condD (fun h => ?_) (fun h => ?_) | refine condB (fun h => ?_) (fun h => ?_) | refine condN (fun h => ?_) (fun h => ?_) | refine condE (fun h => ?_) (fun h => ?_) | refine condV (fun h => ?_) (fun h => ?_))
  (first | refine fin1 ?_ | refine fin0 ?_); rfl
def validP (p : Pfx) : Bool := decide (0 ≤ p.len ∧ p.len ≤ 32 ∧ (keepN p.addr.toNat p.len.toNat : Int) = p.addr)
theorem valid_gives178 (p : Pfx) (h : p.ok) : Gives G 178 [.agg p.enc] [] ⟨.bool (validP p), []⟩ := by
  obtain ⟨a, n⟩ := p
  obtain ⟨x, rfl⟩ : ∃ x : Nat, a = x := ⟨a.toNat, by have := h.addr; unfold okU at this; simp only at this; omega⟩
  have hx : x < 4294967296 := by have := h.addr; unfold okU at this; simp only at this; omega
  have hk := keep_gives181 x n hx
  have hkl := keepN_le x (clampN n)
  by_cases hn : 0 ≤ n ∧ n ≤ 32
  · obtain ⟨n0, n1⟩ := hn
    have hc : clampN n = n.toNat := by unfold clampN; repeat' split <;> omega
    rw [hc] at hk hkl
    by_cases hq : keepN x n.toNat = x
    · rw [show validP ⟨x, n⟩ = true from by simp [validP, n0, n1, hq]]
      rw [hq] at hk
      refine gives_code (F := f178) rfl rfl (W_ok 300 _ _ _ _ ?_)
      repeat' (first | refine stpA ?_ | (refine condS ?_ ?_ <;> intro h))
      (first | refine fin1 ?_ | refine fin0 ?_); simp
    · rw [show validP ⟨x, n⟩ = false from by simp only [validP, decide_eq_false_iff_not]; intro hh; exact hq (by have := hh.2.2; simp only [Int.toNat_natCast] at this; omega)]
      have hq2 : ¬ ((keepN x n.toNat : Nat) : Int) = (x : Int) := by omega
      generalize keepN x n.toNat = kq at *
      refine gives_code (F := f178) rfl rfl (W_ok 300 _ _ _ _ ?_)
      repeat' (first | refine stpA ?_ | (refine condS ?_ ?_ <;> intro h))
      (first | refine fin1 ?_ | refine fin0 ?_); simp [hq2]
  · rw [show validP ⟨x, n⟩ = false from by simp [validP]; omega]
    by_cases n0 : 0 ≤ n
    · have n1 : ¬ n ≤ 32 := by omega
      refine gives_code (F := f178) rfl rfl (W_ok 300 _ _ _ _ ?_)
      repeat' (first | refine stpA ?_ | (refine condS ?_ ?_ <;> intro h))
      (first | refine fin1 ?_ | refine fin0 ?_); rfl
    · refine gives_code (F := f178) rfl rfl (W_ok 300 _ _ _ _ ?_)
      repeat' (first | refine stpA ?_ | (refine condS ?_ ?_ <;> intro h))
      (first | refine fin1 ?_ | refine fin0 ?_); rfl
end Go.AM.IR
set_option maxHeartbeats 4000000
set_option maxRecDepth 20000
namespace Go.AM.IR
def cmpP (p q : Pfx) : Int := if p.addr < q.addr ∨ (p.addr = q.addr ∧ p.len < q.len) then -1 else if p = q then 0 else 1
theorem cmp_gives172 (p q : Pfx) : Gives G 172 [.agg p.enc, .agg q.enc] [] ⟨.int .i64 (cmpP p q), []⟩ := by
  have hee : (p = q) ↔ (p.addr = q.addr ∧ p.len = q.len) := by cases p; cases q; simp
  by_cases h1 : p.addr < q.addr
  · rw [show cmpP p q = -1 from by simp [cmpP, h1]]
    refine gives_code (F := f172) rfl rfl (W_ok 300 _ _ _ _ ?_)
    repeat' (first | refine stpA ?_ | (refine condS ?_ ?_ <;> intro h))
    all_goals ((first | refine fin1 ?_ | refine fin0 ?_); first | rfl | (exfalso; omega))
  · by_cases h2 : p.addr = q.addr
    · by_cases h3 : p.len < q.len
      · rw [show cmpP p q = -1 from by simp [cmpP, h2, h3]]
        refine gives_code (F := f172) rfl rfl (W_ok 300 _ _ _ _ ?_)
        repeat' (first | refine stpA ?_ | (refine condS ?_ ?_ <;> intro h))
        all_goals ((first | refine fin1 ?_ | refine fin0 ?_); first | rfl | (exfalso; omega))
      · by_cases h4 : p.len = q.len
        · rw [show cmpP p q = 0 from by simp [cmpP, h2, h4, hee]]
          refine gives_code (F := f172) rfl rfl (W_ok 300 _ _ _ _ ?_)
          repeat' (first | refine stpA ?_ | (refine condS ?_ ?_ <;> intro h))
          all_goals ((first | refine fin1 ?_ | refine fin0 ?_); first | rfl | (exfalso; omega))
        · rw [show cmpP p q = 1 from by simp [cmpP, h2, h3, h4, hee]]
          refine gives_code (F := f172) rfl rfl (W_ok 300 _ _ _ _ ?_)
          repeat' (first | refine stpA ?_ | (refine condS ?_ ?_ <;> intro h))
          all_goals ((first | refine fin1 ?_ | refine fin0 ?_); first | rfl | (exfalso; omega))
    · rw [show cmpP p q = 1 from by simp [cmpP, h1, h2, hee]]
      refine gives_code (F := f172) rfl rfl (W_ok 300 _ _ _ _ ?_)
      repeat' (first | refine stpA ?_ | (refine condS ?_ ?_ <;> intro h))
      all_goals ((first | refine fin1 ?_ | refine fin0 ?_); first | rfl | (exfalso; omega))
end Go.AM.IR
set_option maxHeartbeats 4000000
set_option maxRecDepth 20000
namespace Go.AM.IR
theorem cmpP_zero (p q : Pfx) : cmpP p q = 0 ↔ p = q := by
  unfold cmpP
  split
  · rename_i h
    constructor
    · intro h1; omega
    · rintro rfl; omega
  · split <;> simp_all
theorem cmpP_swap (p q : Pfx) : cmpP q p = - cmpP p q := by
  have hee : (p = q) ↔ (p.addr = q.addr ∧ p.len = q.len) := by cases p; cases q; simp
  have hee2 : (q = p) ↔ (p.addr = q.addr ∧ p.len = q.len) := by rw [← hee]; exact eq_comm
  unfold cmpP
  simp only [hee, hee2]
  repeat' split
  all_goals omega
def pfxE : Option Pfx → List Pfx → Int
  | _, [] => 0
  | p, x :: r => if validP x = false then 1 else if p.any (fun q => decide (cmpP x q ≤ 0)) then 16 else pfxE (some x) r
theorem pfx_loop171 (l : List Pfx) (hok : ∀ x ∈ l, x.ok) (hl : l.length < 2 ^ 40) (ln : Int) (hln : ln = l.length) : ∀ (rest done : List Pfx) (p : Option Pfx) (T : List (Nat × AV)) (H : Heap) (c : Nat) (n : Int) (e : l = done ++ rest) (hn : n = done.length) (hp : p = done.getLast?), Ev G ⟨f171x9LH, ⟨(5, .sl 2 (l.map Pfx.enc)) :: (6, .int .i64 ln) :: (7, .int .i64 n) :: (0, .sl 2 (l.map Pfx.enc)) :: T, H, c⟩, [.t 2], 0⟩ (⟨.int .i64 (pfxE p rest), []⟩)
  | [], done, p, T, H, c, n, e, hn, hp => by
    have hd : l.length = done.length := by simp [e]
    have hll : (l.map Pfx.enc).length = l.length := by simp
    refine ev_loop' (W_ok 300 _ _ _ _ ?_)
    repeat' (first | refine stpA ?_ | (refine condS ?_ ?_ <;> intro h))
    all_goals try ((first | refine fin1 ?_ | refine fin0 ?_); first | rfl | (simp [pfxE, Bool.cond_eq_ite, *]; done) | (simp [pfxE, Bool.cond_eq_ite, *]; omega) | (unfold pfxE; repeat' split; all_goals first | rfl | (exfalso; omega) | (simp_all; done) | (simp_all; omega)))
  | x :: r, done, p, T, H, c, n, e, hn, hp => by
    have hd : l.length = done.length + (r.length + 1) := by simp [e]
    have hll : (l.map Pfx.enc).length = l.length := by simp
    have hx : (l.map Pfx.enc)[n.toNat]? = some (Pfx.enc x) := by simp [e, hn]
    have hv := valid_gives178 x (hok x (by simp [e]))
    rcases List.eq_nil_or_concat done with hd0 | ⟨d, q, hd1⟩
    · have hn' : n = 0 := by rw [hn, hd0]; rfl
      obtain rfl : p = none := by rw [hp, hd0]; rfl
      cases hvx : validP x
      · rw [hvx] at hv
        rw [show pfxE none (x :: r) = 1 from by simp [pfxE, hvx]]
        refine ev_loop' (W_ok 300 _ _ _ _ ?_)
        repeat' (first | refine stpA ?_ | (refine condS ?_ ?_ <;> intro h))
        (first | refine fin1 ?_ | refine fin0 ?_); rfl
      · rw [hvx] at hv
        rw [show pfxE none (x :: r) = pfxE (some x) r from by simp [pfxE, hvx]]
        refine ev_loop' (W_ok 300 _ _ _ _ ?_)
        repeat' (first | refine stpA ?_ | (refine condS ?_ ?_ <;> intro h))
        refine ev_keep [5, 6, 7, 0] [] ?_; exact pfx_loop171 l hok hl ln hln r (done ++ [x]) (some x) _ _ _ (n + 1) (by simp [e]) (by simp [hn] <;> omega) (by simp)
    · have hn' : n - 1 = d.length := by rw [hn, hd1]; simp
      have hn2 : n > 0 := by omega
      obtain rfl : p = some q := by rw [hp, hd1]; simp
      have hy : (l.map Pfx.enc)[(n - 1).toNat]? = some (Pfx.enc q) := by rw [e, hd1, hn']; simp
      have hb : (n - 1).toNat < (l.map Pfx.enc).length := by rw [hll, hd, hd1]; simp; omega
      have hc := cmp_gives172 x q
      cases hvx : validP x
      · rw [hvx] at hv
        rw [show pfxE (some q) (x :: r) = 1 from by simp [pfxE, hvx]]
        refine ev_loop' (W_ok 300 _ _ _ _ ?_)
        repeat' (first | refine stpA ?_ | (refine condS ?_ ?_ <;> intro h))
        (first | refine fin1 ?_ | refine fin0 ?_); rfl
      · rw [hvx] at hv
        by_cases hcx : cmpP x q ≤ 0
        · rw [show pfxE (some q) (x :: r) = 16 from by simp [pfxE, hvx, hcx]]
          generalize cmpP x q = cv at *
          refine ev_loop' (W_ok 300 _ _ _ _ ?_)
          repeat' (first | refine stpA ?_ | (refine condS ?_ ?_ <;> intro h))
          (first | refine fin1 ?_ | refine fin0 ?_); rfl
        · rw [show pfxE (some q) (x :: r) = pfxE (some x) r from by simp [pfxE, hvx, hcx]]
          generalize cmpP x q = cv at *
          refine ev_loop' (W_ok 300 _ _ _ _ ?_)
          repeat' (first | refine stpA ?_ | (refine condS ?_ ?_ <;> intro h))
          refine ev_keep [5, 6, 7, 0] [] ?_; exact pfx_loop171 l hok hl ln hln r (done ++ [x]) (some x) _ _ _ (n + 1) (by simp [e]) (by simp [hn] <;> omega) (by simp)
theorem pfx_gives171 (l : List Pfx) (hl : l.length < 2 ^ 40) (hok : ∀ x ∈ l, x.ok) : Gives G 171 [.sl 2 (l.map Pfx.enc)] [] ⟨.int .i64 (pfxE none l), []⟩ := by
  have l1 : (l.map Pfx.enc).length = l.length := by simp
  refine gives_code (F := f171) rfl rfl (W_ok 300 _ _ _ _ ?_)
  repeat' (first | refine stpA ?_ | (refine condS ?_ ?_ <;> intro h))
  refine ev_keep [5, 6, 7, 0] [] ?_
  rw [l1]
  exact pfx_loop171 l hok hl _ rfl l [] none _ _ _ 0 rfl rfl rfl
def comF : Nat → List Pfx → List Pfx → Bool
  | 0, _, _ => false
  | _ + 1, [], _ => false
  | _ + 1, _ :: _, [] => false
  | N + 1, x :: a, y :: b => if cmpP x y = 0 then true else if cmpP x y < 0 then comF N a (y :: b) else comF N (x :: a) b
def comS (a b : List Pfx) : Bool := comF (a.length + b.length + 1) a b
end Go.AM.IR
set_option maxHeartbeats 4000000
set_option maxRecDepth 20000
namespace Go.AM.IR
theorem byte_step (acc : List UInt8) (x j : Nat) (i : Int) (hi : i = j) : byteCells acc ++ [[AV.int .u8 (UInt8.ofNat (x / 2 ^ (8 * i).toNat)).toNat]] = byteCells (acc ++ [UInt8.ofNat (x / 256 ^ j)]) := by
  subst hi
  rw [show (8 * (j : Int)).toNat = 8 * j from by omega, pow_256]
  simp [byteCells]
theorem num_loop120 (x : Nat) : ∀ (j : Nat) (acc : List UInt8) (T : List (Nat × AV)) (H : Heap) (c g m : Nat) (key : Nat) (es : List (List AV)) (i : Int) (hk : key = 69) (hi : i = (j : Int) - 1) (hj : j ≤ 8) (hm : m = acc.length) (hes : es = byteCells acc) (ha : acc.length + j < 2 ^ 40),
   Ev G ⟨f120x6LH, ⟨(6, .int .i64 i) :: (1, .int .u64 (x : Int)) :: (5, .vs 69 g m) :: T, (69, some (g, .vec 1 es)) :: H, c⟩, [.t 4], 0⟩ (rB (acc ++ be j x))
  | 0, acc, T, H, c, g, m, key, es, i, hk, hi, hj, hm, hes, ha => by
    refine ev_loop' (W_ok 300 _ _ _ _ ?_)
    repeat' (first | refine stpA ?_ | (refine condS ?_ ?_ <;> intro h))
    refine ev_retB 69 ⟨_, _, _, rfl, rfl, ?_, ?_⟩
    · simp [hm, be]
    · simp [hes, be]
  | j + 1, acc, T, H, c, g, m, key, es, i, hk, hi, hj, hm, hes, ha => by
    have hel : es.length = acc.length := by simp [hes]
    rw [show acc ++ be (j + 1) x = acc ++ [UInt8.ofNat (x / 256 ^ j)] ++ be j x from by simp [be]]
    refine ev_loop' (W_ok 300 _ _ _ _ ?_)
    repeat' (first | refine stpA ?_ | (refine condS ?_ ?_ <;> intro h))
    refine ev_keep [6, 1, 5] [69] ?_
    refine num_loop120 x j (acc ++ [UInt8.ofNat (x / 256 ^ j)]) _ _ _ _ _ key _ (i - 1) hk (by omega) (by omega) ?_ ?_ ?_
    · simp [hm]
    · rw [hes]; exact byte_step acc x j i (by omega)
    · simp; omega
theorem number_gives120 (n x : Nat) (hn : n ≤ 8) : Gives G 120 [.int .i64 n, .int .u64 (x : Int)] [] (rB (be n x)) := by
  refine gives_code (F := f120) rfl rfl (W_ok 300 _ _ _ _ ?_)
  repeat' (first | refine stpA ?_ | (refine condS ?_ ?_ <;> intro h))
  refine ev_nil 69 1 [(5, .vs 69 _ 0)] [] ⟨LeP.nilV _ _ _, trivial⟩ trivial ?_
  refine ev_keep [6, 1, 5] [69] ?_
  exact num_loop120 x n [] _ _ _ _ _ 69 _ _ rfl rfl hn rfl rfl (by simp; omega)
def cat (l : List (List UInt8)) : List UInt8 := l.flatMap id
def bEnc (l : List UInt8) : List AV := [.sl 1 (byteCells l)]
theorem app_loop119 (l : List (List UInt8)) (hc : (cat l).length < 2 ^ 40) (hl : l.length < 2 ^ 40) (ln : Int) (hln : ln = l.length) : ∀ (rest done : List (List UInt8)) (g m : Nat) (es : List (List AV)) (T : List (Nat × AV)) (H : Heap) (c : Nat) (n : Int) (e : l = done ++ rest) (hn : n = done.length) (hm : m = (cat done).length) (hes : es = byteCells (cat done)), Ev G ⟨f119x14LH, ⟨(22, .sl 1 (l.map bEnc)) :: (23, .int .i64 ln) :: (24, .int .i64 n) :: (6, .vs 85 g m) :: T, (85, some (g, .vec 1 es)) :: H, c⟩, [.t 2], 0⟩ (rB (cat l))
  | [], done, g, m, es, T, H, c, n, e, hn, hm, hes => by
    have hd : l.length = done.length := by simp [e]
    have hll : (l.map bEnc).length = l.length := by simp
    obtain rfl : l = done := by simpa using e
    refine ev_loop' (W_ok 300 _ _ _ _ ?_)
    repeat' (first | refine stpA ?_ | (refine condS ?_ ?_ <;> intro h))
    exact ev_retB 85 ⟨_, _, _, rfl, rfl, hm, hes⟩
  | x :: r, done, g, m, es, T, H, c, n, e, hn, hm, hes => by
    have hd : l.length = done.length + (r.length + 1) := by simp [e]
    have hll : (l.map bEnc).length = l.length := by simp
    have hx : (l.map bEnc)[n.toNat]? = some (bEnc x) := by simp [e, hn]
    have hcl : (cat l).length = (cat done).length + (x.length + (cat r).length) := by rw [e]; simp [cat]
    have hbl := byteCells_length x
    have hel : m = es.length := by rw [hm, hes]; simp
    refine ev_loop' (W_ok 300 _ _ _ _ ?_)
    repeat' (first | refine stpA ?_ | (refine condS ?_ ?_ <;> intro h))
    refine ev_keep [22, 23, 24, 6] [85] ?_; exact app_loop119 l hc hl ln hln r (done ++ [x]) _ _ _ _ _ _ (n + 1) (by simp [e]) (by simp [hn] <;> omega) (by simp [hm, cat]) (by rw [hes]; simp [cat])
theorem len_loop119 (l : List (List UInt8)) (hc : (cat l).length < 2 ^ 40) (hl : l.length < 2 ^ 40) (ln : Int) (hln : ln = l.length) : ∀ (rest done : List (List UInt8)) (s : Int) (T : List (Nat × AV)) (H : Heap) (c : Nat) (n : Int) (e : l = done ++ rest) (hn : n = done.length) (hs : s = (cat done).length), Ev G ⟨f119x7LH, ⟨(9, .sl 1 (l.map bEnc)) :: (10, .int .i64 ln) :: (11, .int .i64 n) :: (3, .int .i64 s) :: (0, .sl 1 (l.map bEnc)) :: T, H, c⟩, [.t 2], 0⟩ (rB (cat l))
  | [], done, s, T, H, c, n, e, hn, hs => by
    have hd : l.length = done.length := by simp [e]
    have hll : (l.map bEnc).length = l.length := by simp
    obtain rfl : l = done := by simpa using e
    refine ev_loop' (W_ok 300 _ _ _ _ ?_)
    repeat' (first | refine stpA ?_ | (refine condS ?_ ?_ <;> intro h))
    refine ev_keep [22, 23, 24, 6] [85] ?_
    exact app_loop119 l hc hl _ (by simp) l [] _ 0 _ _ _ _ 0 rfl rfl rfl rfl
  | x :: r, done, s, T, H, c, n, e, hn, hs => by
    have hd : l.length = done.length + (r.length + 1) := by simp [e]
    have hll : (l.map bEnc).length = l.length := by simp
    have hx : (l.map bEnc)[n.toNat]? = some (bEnc x) := by simp [e, hn]
    have hcl : (cat l).length = (cat done).length + (x.length + (cat r).length) := by rw [e]; simp [cat]
    have hbl := byteCells_length x
    refine ev_loop' (W_ok 300 _ _ _ _ ?_)
    repeat' (first | refine stpA ?_ | (refine condS ?_ ?_ <;> intro h))
    refine ev_keep [9, 10, 11, 3, 0] [] ?_; exact len_loop119 l hc hl ln hln r (done ++ [x]) _ _ _ _ (n + 1) (by simp [e]) (by simp [hn] <;> omega) (by rw [hs]; simp [cat])
theorem join_gives119 (l : List (List UInt8)) (hl : l.length < 2 ^ 40) (hc : (cat l).length < 2 ^ 40) : Gives G 119 [.sl 1 (l.map bEnc)] [] (rB (cat l)) := by
  refine gives_code (F := f119) rfl rfl (W_ok 300 _ _ _ _ ?_)
  repeat' (first | refine stpA ?_ | (refine condS ?_ ?_ <;> intro h))
  refine ev_keep [9, 10, 11, 3, 0] [] ?_
  exact len_loop119 l hc hl _ (by simp) l [] _ _ _ _ 0 rfl rfl rfl
theorem put_gives109 (b : List UInt8) (hb : b.length < 2 ^ 39) (n x : Nat) (hn : n ≤ 8) : Gives G 109 [.sl 1 (byteCells b), .int .i64 n, .int .u64 (x : Int)] [] (rB (b ++ be n x)) := by
  have hj := join_gives119 [b, be n x] (by simp) (by simp [cat, be_length]; omega)
  rw [show cat [b, be n x] = b ++ be n x from by simp [cat]] at hj
  refine gives_code (F := f109) rfl rfl (W_ok 300 _ _ _ _ ?_)
  repeat' (first | refine stpA ?_ | refine kN (number_gives120 n x hn) ?_ | refine kB [(76, _, _)] ⟨rfl, pz trivial⟩ ?_ | refine kX [] [(77, _, _)] trivial ⟨rfl, pz trivial⟩ (hj) ?_ | (refine condS ?_ ?_ <;> intro h))
  exact ev_retB 78 ⟨_, _, _, rfl, rfl, rfl, rfl⟩
end Go.AM.IR
set_option maxHeartbeats 4000000
set_option maxRecDepth 20000
namespace Go.AM.IR
def flatS (l : List Seg) : List Int := l.flatMap (·.as)
theorem flat_loop57 (l : List Seg) (hs : (flatS l).length < 2 ^ 40) (hl : l.length < 2 ^ 62) (ln : Int) (hln : ln = l.length) : ∀ (rest done : List Seg) (g m : Nat) (es : List (List AV)) (T : List (Nat × AV)) (H : Heap) (c : Nat) (n : Int) (e : l = done ++ rest) (hn : n = done.length) (hm : m = es.length) (hes : es = (flatS done).map encI), Ev G ⟨f57x7LH, ⟨(6, .sl 2 (l.map Seg.enc)) :: (7, .int .i64 ln) :: (8, .int .i64 n) :: (3, .vs 79 g m) :: T, (79, some (g, .vec 1 es)) :: H, c⟩, [.t 2], 0⟩ ⟨.vs 0 0 (flatS l).length, [(false, .vec 1 ((flatS l).map encI))]⟩
  | [], done, g, m, es, T, H, c, n, e, hn, hm, hes => by
    have hd : l.length = done.length := by simp [e]
    have hll : (l.map Seg.enc).length = l.length := by simp
    obtain rfl : l = done := by simpa using e
    refine ev_loop' (W_ok 300 _ _ _ _ ?_)
    try refine stpA ?_
    refine ev_retV 79 g m _ rfl rfl (by simp [Blk.pure, hes]) ?_
    simp [hm, hes]
  | x :: r, done, g, m, es, T, H, c, n, e, hn, hm, hes => by
    have hd : l.length = done.length + (r.length + 1) := by simp [e]
    have hll : (l.map Seg.enc).length = l.length := by simp
    have hx : (l.map Seg.enc)[n.toNat]? = some (Seg.enc x) := by simp [e, hn]
    have hsz : es.length + (x.as.map encI).length < 2 ^ 40 := by
      rw [e] at hs; simp [flatS] at hs; simp [hes, flatS]; omega
    refine ev_loop' (W_ok 300 _ _ _ _ ?_)
    try refine stpA ?_
    refine ev_keep [6, 7, 8, 3] [79] ?_; exact flat_loop57 l hs hl ln hln r (done ++ [x]) _ _ _ _ _ _ (n + 1) (by simp [e]) (by simp [hn] <;> omega) (by simp [hm]) (by rw [hes]; simp [flatS])
theorem flat_gives57 (l : List Seg) (hl : l.length < 2 ^ 62) (hs : (flatS l).length < 2 ^ 40) : Gives G 57 [.sl 2 (l.map Seg.enc)] [] ⟨.vs 0 0 (flatS l).length, [(false, .vec 1 ((flatS l).map encI))]⟩ := by
  refine gives_code (F := f57) rfl rfl (W_ok 300 _ _ _ _ ?_)
  try refine stpA ?_
  refine ev_nil 79 1 [(3, .vs 79 _ 0)] [] ⟨LeP.nilV _ _ _, trivial⟩ trivial ?_
  refine ev_keep [6, 7, 8, 3] [79] ?_
  exact flat_loop57 l hs hl _ (by simp) l [] _ _ _ _ _ _ 0 rfl rfl rfl rfl
theorem size_gives54 (l : List Seg) (hl : l.length < 2 ^ 40) (hs : (flatS l).length < 2 ^ 40) : Gives G 54 [.sl 2 (l.map Seg.enc)] [] ⟨.int .i64 (l.length + (flatS l).length), []⟩ := by
  have hlm : (l.map Seg.enc).length = l.length := by simp
  refine gives_code (F := f54) rfl rfl (W_ok 300 _ _ _ _ ?_)
  try refine stpA ?_
  refine callN (flat_gives57 l (by omega) hs) (by simp [pureL, AV.pure]) rfl (by simp [pureBs, Blk.pure]) rfl ?_
  try refine stpA ?_
  (first | refine fin1 ?_ | refine fin0 ?_)
  simp
def unkS (l : List TLV) : Int := (l.map fun t => (t.value.length : Int) / 8).sum
def sizeS (a : Attrs) : Int := a.path.length + (flatS a.path).length + a.comms.length + a.clusters.length + a.unknown.length + unkS a.unknown
structure AB (a : Attrs) : Prop where
  path : a.path.length < 2 ^ 40
  flat : (flatS a.path).length < 2 ^ 40
  comms : a.comms.length < 2 ^ 40
  clusters : a.clusters.length < 2 ^ 40
  unknown : a.unknown.length < 2 ^ 40
  vals : ∀ t ∈ a.unknown, t.value.length < 2 ^ 40
  unk : unkS a.unknown < 2 ^ 40
theorem unk_nonneg : ∀ l : List TLV, 0 ≤ unkS l
  | [] => by simp [unkS]
  | t :: r => by
    have := unk_nonneg r
    simp only [unkS, List.map_cons, List.sum_cons] at this ⊢
    have h2 : 0 ≤ (t.value.length : Int) / 8 := by omega
    omega
theorem size_loop26 (l : List TLV) (s0 : Int) (hv : ∀ t ∈ l, t.value.length < 2 ^ 40) (hu : unkS l < 2 ^ 40) (hs0 : 0 ≤ s0) (hs1 : s0 < 2 ^ 50) (hl : l.length < 2 ^ 40) (ln : Int) (hln : ln = l.length) : ∀ (rest done : List TLV) (s : Int) (T : List (Nat × AV)) (H : Heap) (c : Nat) (n : Int) (e : l = done ++ rest) (hn : n = done.length) (hs : s = s0 + unkS done), Ev G ⟨f26x7LH, ⟨(22, .sl 2 (l.map TLV.enc)) :: (23, .int .i64 ln) :: (24, .int .i64 n) :: (3, .int .i64 s) :: T, H, c⟩, [.t 2], 0⟩ ⟨.int .i64 (s0 + unkS l), []⟩
  | [], done, s, T, H, c, n, e, hn, hs => by
    have hd : l.length = done.length := by simp [e]
    have hll : (l.map TLV.enc).length = l.length := by simp
    obtain rfl : l = done := by simpa using e
    refine ev_loop' (W_ok 300 _ _ _ _ ?_)
    try refine stpA ?_
    rw [hs]
    first | exact ev_ret rfl | exact ev_end rfl
  | x :: r, done, s, T, H, c, n, e, hn, hs => by
    have hd : l.length = done.length + (r.length + 1) := by simp [e]
    have hll : (l.map TLV.enc).length = l.length := by simp
    have hx : (l.map TLV.enc)[n.toNat]? = some (TLV.enc x) := by simp [e, hn]
    have hxv : x.value.length < 2 ^ 40 := hv x (by simp [e])
    have hbl : (byteCells x.value).length = x.value.length := by simp [byteCells]
    have hsum : unkS l = unkS done + ((x.value.length : Int) / 8 + unkS r) := by rw [e]; simp [unkS]
    have hr := unk_nonneg r
    have hdn := unk_nonneg done
    refine ev_loop' (W_ok 300 _ _ _ _ ?_)
    try refine stpA ?_
    refine ev_keep [22, 23, 24, 3] [] ?_; exact size_loop26 l s0 hv hu hs0 hs1 hl ln hln r (done ++ [x]) _ _ _ _ (n + 1) (by simp [e]) (by simp [hn] <;> omega) (by rw [hs, hbl]; simp [unkS]; omega)
theorem size_gives26 (a : Attrs) (h : AB a) : Gives G 26 [.agg a.enc] [] ⟨.int .i64 (sizeS a), []⟩ := by
  obtain ⟨h1, h2, h3, h4, h5, h6, h7⟩ := h
  have l3 : (a.comms.map encU).length = a.comms.length := by simp
  have l4 : (a.clusters.map encU).length = a.clusters.length := by simp
  have l5 : (a.unknown.map TLV.enc).length = a.unknown.length := by simp
  refine gives_code (F := f26) rfl rfl (W_ok 300 _ _ _ _ ?_)
  try refine stpA ?_
  refine callV (size_gives54 a.path h1 h2) (by first | rfl | (simp [pureL, pureLL, AV.pure]; done) | fail) (by first | rfl | (simp [AV.dry, dryL]; done) | fail) ?_
  try refine stpA ?_
  refine ev_keep [22, 23, 24, 3] [] ?_
  rw [l3, l4, l5]
  refine size_loop26 a.unknown (a.path.length + (flatS a.path).length + a.comms.length + a.clusters.length + a.unknown.length) h6 h7 (by omega) (by omega) h5 _ (by simp) a.unknown [] _ _ _ _ 0 rfl rfl ?_
  simp [unkS]
theorem large_gives21 (a : Attrs) (h : AB a) : Gives G 21 [.agg a.enc] [] ⟨.bool (decide (sizeS a > 3000)), []⟩ := by
  refine gives_code (F := f21) rfl rfl (W_ok 60 _ _ _ _ ?_)
  try refine stpA ?_
  refine callV (size_gives26 a h) (by first | rfl | (simp [pureL, pureLL, AV.pure]; done) | fail) (by first | rfl | (simp [AV.dry, dryL]; done) | fail) ?_
  try refine stpA ?_
  first | exact ev_ret rfl | exact ev_end rfl
end Go.AM.IR
set_option maxHeartbeats 4000000
set_option maxRecDepth 20000
namespace Go.AM.IR
@[irreducible] def setK (k : Int) : Bool := k == 1 || k == 4
@[irreducible] def confK (k : Int) : Bool := k == 3 || k == 4
theorem when_gives74 (b : Bool) (e : Int) : Gives G 74 [.bool b, .int .i64 e] [] ⟨.int .i64 (if b = true then e else 0), []⟩ := by
  refine gives_code (F := f74) rfl rfl (W_ok 300 _ _ _ _ ?_)
  repeat' (first | refine stpA ?_ | (refine condS ?_ ?_ <;> intro h))
  all_goals try ((first | refine fin1 ?_ | refine fin0 ?_); first | rfl | (simp [Bool.cond_eq_ite, *]; done) | (simp [Bool.cond_eq_ite, *]; omega))
def optE (has : Bool) (n low : Int) : Int := if has = true then (if n < low ∨ n > 4294967295 then 5 else 0) else (if n = 0 then 0 else 1)
theorem optional_gives76 (has : Bool) (n low : Int) : Gives G 76 [.bool has, .int .i64 n, .int .i64 low] [] ⟨.int .i64 (optE has n low), []⟩ := by
  refine gives_code (F := f76) rfl rfl (W_ok 300 _ _ _ _ ?_)
  repeat' (first | refine stpA ?_ | (refine condS ?_ ?_ <;> intro h))
  all_goals try ((first | refine fin1 ?_ | refine fin0 ?_); first | rfl | (simp [optE, Bool.cond_eq_ite, *]; done) | (simp [optE, Bool.cond_eq_ite, *]; omega) | (unfold optE; repeat' split; all_goals first | rfl | (exfalso; omega) | (simp_all; done) | (simp_all; omega)))
end Go.AM.IR
set_option maxHeartbeats 4000000
set_option maxRecDepth 20000
namespace Go.AM.IR
def firstS : List Int → Int
  | [] => 0
  | x :: r => if x = 0 then firstS r else x
theorem first_loop73 (l : List Int)  (hl : l.length < 2 ^ 40) (ln : Int) (hln : ln = l.length) : ∀ (rest done : List Int)  (T : List (Nat × AV)) (H : Heap) (c : Nat) (n : Int) (e : l = done ++ rest) (hn : n = done.length) , Ev G ⟨f73x7LH, ⟨(5, .sl 1 (l.map encI)) :: (6, .int .i64 ln) :: (7, .int .i64 n) :: T, H, c⟩, [.t 2], 0⟩ ⟨.int .i64 (firstS rest), []⟩
  | [], done,  T, H, c, n, e, hn => by
    have hd : l.length = done.length := by simp [e]
    have hll : (l.map encI).length = l.length := by simp
    refine ev_loop' (W_ok 300 _ _ _ _ ?_)
    repeat' (first | refine stpA ?_ | (refine condS ?_ ?_ <;> intro h))
    all_goals try ((first | refine fin1 ?_ | refine fin0 ?_); first | rfl | (simp [firstS, Bool.cond_eq_ite, *]; done) | (simp [firstS, Bool.cond_eq_ite, *]; omega) | (unfold firstS; repeat' split; all_goals first | rfl | (exfalso; omega) | (simp_all; done) | (simp_all; omega)))
  | x :: r, done,  T, H, c, n, e, hn => by
    have hd : l.length = done.length + (r.length + 1) := by simp [e]
    have hll : (l.map encI).length = l.length := by simp
    have hx : (l.map encI)[n.toNat]? = some (encI x) := by simp [e, hn]
    refine ev_loop' (W_ok 300 _ _ _ _ ?_)
    repeat' (first | refine stpA ?_ | (refine condS ?_ ?_ <;> intro h))
    all_goals try ((first | refine fin1 ?_ | refine fin0 ?_); first | rfl | (simp [firstS, Bool.cond_eq_ite, *]; done) | (simp [firstS, Bool.cond_eq_ite, *]; omega) | (unfold firstS; repeat' split; all_goals first | rfl | (exfalso; omega) | (simp_all; done) | (simp_all; omega)))
    rw [show firstS (x :: r) = firstS r from by simp [firstS, *]]
    refine ev_keep [5, 6, 7] [] ?_; exact first_loop73 l  hl ln hln r (done ++ [x])  _ _ _ (n + 1) (by simp [e]) (by simp [hn] <;> omega)
theorem first_gives73 (l : List Int) (hl : l.length < 2 ^ 40) : Gives G 73 [.sl 1 (l.map encI)] [] ⟨.int .i64 (firstS l), []⟩ := by
  refine gives_code (F := f73) rfl rfl (W_ok 300 _ _ _ _ ?_)
  repeat' (first | refine stpA ?_ | (refine condS ?_ ?_ <;> intro h))
  refine ev_keep [5, 6, 7] [] ?_
  exact first_loop73 l hl _ (by simp) l [] _ _ _ 0 rfl rfl
theorem among_loop107 (l : List Int) (k : Int) (hl : l.length < 2 ^ 40) (ln : Int) (hln : ln = l.length) : ∀ (rest done : List Int)  (T : List (Nat × AV)) (H : Heap) (c : Nat) (n : Int) (e : l = done ++ rest) (hn : n = done.length) , Ev G ⟨f107x7LH, ⟨(7, .sl 1 (l.map encI)) :: (8, .int .i64 ln) :: (9, .int .i64 n) :: (0, .int .i64 k) :: T, H, c⟩, [.t 4], 0⟩ ⟨.bool (rest.any (· == k)), []⟩
  | [], done,  T, H, c, n, e, hn => by
    have hd : l.length = done.length := by simp [e]
    have hll : (l.map encI).length = l.length := by simp
    refine ev_loop' (W_ok 300 _ _ _ _ ?_)
    repeat' (first | refine stpA ?_ | (refine condS ?_ ?_ <;> intro h))
    all_goals try ((first | refine fin1 ?_ | refine fin0 ?_); first | rfl | (simp [Bool.cond_eq_ite, *]; done) | (simp [Bool.cond_eq_ite, *]; omega))
  | x :: r, done,  T, H, c, n, e, hn => by
    have hd : l.length = done.length + (r.length + 1) := by simp [e]
    have hll : (l.map encI).length = l.length := by simp
    have hx : (l.map encI)[n.toNat]? = some (encI x) := by simp [e, hn]
    refine ev_loop' (W_ok 300 _ _ _ _ ?_)
    repeat' (first | refine stpA ?_ | (refine condS ?_ ?_ <;> intro h))
    all_goals try ((first | refine fin1 ?_ | refine fin0 ?_); first | rfl | (simp [Bool.cond_eq_ite, *]; done) | (simp [Bool.cond_eq_ite, *]; omega))
    rw [show (x :: r).any (· == k) = r.any (· == k) from by simp [*]]
    refine ev_keep [7, 8, 9, 0] [] ?_; exact among_loop107 l k hl ln hln r (done ++ [x])  _ _ _ (n + 1) (by simp [e]) (by simp [hn] <;> omega)
theorem among_gives107 (k : Int) (l : List Int) (hl : l.length < 2 ^ 40) : Gives G 107 [.int .i64 k, .sl 1 (l.map encI)] [] ⟨.bool (l.any (· == k)), []⟩ := by
  refine gives_code (F := f107) rfl rfl (W_ok 300 _ _ _ _ ?_)
  repeat' (first | refine stpA ?_ | (refine condS ?_ ?_ <;> intro h))
  refine ev_keep [7, 8, 9, 0] [] ?_
  exact among_loop107 l k hl _ (by simp) l [] _ _ _ 0 rfl rfl
def clS : List Int → Int
  | [] => 0
  | x :: r => if x = 0 then 1 else clS r
theorem clusters_loop78 (l : List Int)  (hl : l.length < 2 ^ 40) (ln : Int) (hln : ln = l.length) : ∀ (rest done : List Int)  (T : List (Nat × AV)) (H : Heap) (c : Nat) (n : Int) (e : l = done ++ rest) (hn : n = done.length) , Ev G ⟨f78x9LH, ⟨(8, .sl 1 (l.map encU)) :: (9, .int .i64 ln) :: (10, .int .i64 n) :: T, H, c⟩, [.t 2], 0⟩ ⟨.int .i64 (clS rest), []⟩
  | [], done,  T, H, c, n, e, hn => by
    have hd : l.length = done.length := by simp [e]
    have hll : (l.map encU).length = l.length := by simp
    refine ev_loop' (W_ok 300 _ _ _ _ ?_)
    repeat' (first | refine stpA ?_ | (refine condS ?_ ?_ <;> intro h))
    all_goals try ((first | refine fin1 ?_ | refine fin0 ?_); first | rfl | (simp [clS, Bool.cond_eq_ite, *]; done) | (simp [clS, Bool.cond_eq_ite, *]; omega) | (unfold clS; repeat' split; all_goals first | rfl | (exfalso; omega) | (simp_all; done) | (simp_all; omega)))
  | x :: r, done,  T, H, c, n, e, hn => by
    have hd : l.length = done.length + (r.length + 1) := by simp [e]
    have hll : (l.map encU).length = l.length := by simp
    have hx : (l.map encU)[n.toNat]? = some (encU x) := by simp [e, hn]
    refine ev_loop' (W_ok 300 _ _ _ _ ?_)
    repeat' (first | refine stpA ?_ | (refine condS ?_ ?_ <;> intro h))
    all_goals try ((first | refine fin1 ?_ | refine fin0 ?_); first | rfl | (simp [clS, Bool.cond_eq_ite, *]; done) | (simp [clS, Bool.cond_eq_ite, *]; omega) | (unfold clS; repeat' split; all_goals first | rfl | (exfalso; omega) | (simp_all; done) | (simp_all; omega)))
    rw [show clS (x :: r) = clS r from by simp [clS, *]]
    refine ev_keep [8, 9, 10] [] ?_; exact clusters_loop78 l  hl ln hln r (done ++ [x])  _ _ _ (n + 1) (by simp [e]) (by simp [hn] <;> omega)
def clustersE (l : List Int) : Int := if l.length > 64 then 4 else clS l
theorem clusters_gives78 (l : List Int) (hl : l.length < 2 ^ 40) : Gives G 78 [.sl 1 (l.map encU)] [] ⟨.int .i64 (clustersE l), []⟩ := by
  have ll : (l.map encU).length = l.length := by simp
  refine gives_code (F := f78) rfl rfl (W_ok 300 _ _ _ _ ?_)
  repeat' (first | refine stpA ?_ | (refine condS ?_ ?_ <;> intro h))
  all_goals try ((first | refine fin1 ?_ | refine fin0 ?_); first | rfl | (simp [clustersE, Bool.cond_eq_ite, *]; done) | (simp [clustersE, Bool.cond_eq_ite, *]; omega) | (unfold clustersE; repeat' split; all_goals first | rfl | (exfalso; omega) | (simp_all; done) | (simp_all; omega)))
  rw [show clustersE l = clS l from by simp [clustersE]; omega]
  refine ev_keep [8, 9, 10] [] ?_
  exact clusters_loop78 l hl _ (by simp) l [] _ _ _ 0 rfl rfl
end Go.AM.IR
set_option maxHeartbeats 4000000
set_option maxRecDepth 20000
namespace Go.AM.IR
theorem confed_gives106 (k : Int) : Gives G 106 [.int .i64 k] [] ⟨.bool (confK k), []⟩ := by
  have hr : ([3, 4] : List Int).any (· == k) = confK k := by
    unfold confK; simp only [List.any_cons, List.any_nil, Bool.or_false]
    rw [Bool.eq_iff_iff]; simp; omega
  have e1 := among_gives107 k [3, 4] (by simp)
  rw [hr] at e1
  refine gives_code (F := f106) rfl rfl (W_ok 300 _ _ _ _ ?_)
  repeat' (first | refine stpA ?_ | (refine condS ?_ ?_ <;> intro h))
  refine callF [(68, _, .vec 1 [encI 3, encI 4])] ⟨rfl, rfl, trivial⟩ rfl (by simp) rfl rfl e1 rfl ?_
  repeat' (first | refine stpA ?_ | (refine condS ?_ ?_ <;> intro h))
  all_goals try ((first | refine fin1 ?_ | refine fin0 ?_); first | rfl | (simp [Bool.cond_eq_ite, *]; done) | (simp [Bool.cond_eq_ite, *]; omega))
def ordS (p : Int) : List Int → Int
  | [] => 0
  | x :: r => if x ≤ p then 16 else ordS x r
def orderS : List Int → Int
  | [] => 0
  | x :: r => ordS x r
theorem order_loop77 (l : List Int) (hl : l.length < 2 ^ 40) (ln : Int) (hln : ln = l.length) : ∀ (rest done : List Int) (p : Int) (T : List (Nat × AV)) (H : Heap) (c : Nat) (n : Int) (e : l = done ++ p :: rest) (hn : n = done.length + 1),
   Ev G ⟨f77x9LH, ⟨(7, .sl 1 (l.map encU)) :: (8, .int .i64 ln) :: (9, .int .i64 n) :: (0, .sl 1 (l.map encU)) :: T, H, c⟩, [.t 2], 0⟩ ⟨.int .i64 (ordS p rest), []⟩
  | [], done, p, T, H, c, n, e, hn => by
    have hd : l.length = done.length + 1 := by simp [e]
    refine ev_loop' (W_ok 300 _ _ _ _ ?_)
    repeat' (first | refine stpA ?_ | (refine condS ?_ ?_ <;> intro h))
    all_goals try ((first | refine fin1 ?_ | refine fin0 ?_); first | rfl | (simp [ordS, Bool.cond_eq_ite, *]; done) | (simp [ordS, Bool.cond_eq_ite, *]; omega) | (unfold ordS; repeat' split; all_goals first | rfl | (exfalso; omega) | (simp_all; done) | (simp_all; omega)))
  | x :: r, done, p, T, H, c, n, e, hn => by
    have hd : l.length = done.length + (r.length + 2) := by simp [e]
    have ll : (l.map encU).length = l.length := by simp
    have hn1 : (n - 1).toNat = done.length := by omega
    have hn0 : n.toNat = done.length + 1 := by omega
    have hx : (l.map encU)[n.toNat]? = some (encU x) := by rw [hn0, e]; simp
    have hy : (l.map encU)[(n - 1).toNat]? = some (encU p) := by rw [hn1, e]; simp
    refine ev_loop' (W_ok 300 _ _ _ _ ?_)
    repeat' (first | refine stpA ?_ | (refine condS ?_ ?_ <;> intro h))
    all_goals try ((first | refine fin1 ?_ | refine fin0 ?_); first | rfl | (simp [ordS, Bool.cond_eq_ite, *]; done) | (simp [ordS, Bool.cond_eq_ite, *]; omega) | (unfold ordS; repeat' split; all_goals first | rfl | (exfalso; omega) | (simp_all; done) | (simp_all; omega)))
    rw [show ordS p (x :: r) = ordS x r from by simp [ordS, *]]
    refine ev_keep [7, 8, 9, 0] [] ?_
    exact order_loop77 l hl ln hln r (done ++ [p]) x _ _ _ (n + 1) (by simp [e]) (by simp [hn])
def commE (l : List Int) : Int := if l.length > 255 then 4 else orderS l
theorem comm_gives77 (l : List Int) (hl : l.length < 2 ^ 40) : Gives G 77 [.sl 1 (l.map encU)] [] ⟨.int .i64 (commE l), []⟩ := by
  have ll : (l.map encU).length = l.length := by simp
  cases l with
  | nil =>
    refine gives_code (F := f77) rfl rfl (W_ok 300 _ _ _ _ ?_)
    repeat' (first | refine stpA ?_ | (refine condS ?_ ?_ <;> intro h))
    refine ev_loop' (W_ok 300 _ _ _ _ ?_)
    repeat' (first | refine stpA ?_ | (refine condS ?_ ?_ <;> intro h))
    all_goals try ((first | refine fin1 ?_ | refine fin0 ?_); first | rfl | (simp [commE, orderS, Bool.cond_eq_ite, *]; done) | (simp [commE, orderS, Bool.cond_eq_ite, *]; omega) | (unfold commE orderS; repeat' split; all_goals first | rfl | (exfalso; omega) | (simp_all; done) | (simp_all; omega)))
  | cons x r =>
    have hx : ((x :: r).map encU)[(0 : Int).toNat]? = some (encU x) := rfl
    have h2 := ll
    simp only [List.length_cons] at hl
    rw [List.length_cons] at h2
    refine gives_code (F := f77) rfl rfl (W_ok 300 _ _ _ _ ?_)
    repeat' (first | refine stpA ?_ | (refine condS ?_ ?_ <;> intro h))
    all_goals try ((first | refine fin1 ?_ | refine fin0 ?_); first | rfl | (simp [commE, Bool.cond_eq_ite, *]; done) | (simp [commE, Bool.cond_eq_ite, *]; omega) | (unfold commE; repeat' split; all_goals first | rfl | (exfalso; omega) | (simp_all; done) | (simp_all; omega)))
    rw [show commE (x :: r) = ordS x r from by simp [commE, orderS]; omega]
    refine ev_loop' (W_ok 300 _ _ _ _ ?_)
    repeat' (first | refine stpA ?_ | (refine condS ?_ ?_ <;> intro h))
    refine ev_keep [7, 8, 9, 0] [] ?_
    exact order_loop77 (x :: r) hl _ (by simp) r [] x _ _ _ 1 rfl rfl
end Go.AM.IR
set_option maxHeartbeats 4000000
set_option maxRecDepth 20000
namespace Go.AM.IR
def rngS : List Int → Bool
  | [] => true
  | x :: r => decide (1 ≤ x ∧ x ≤ 4294967295) && rngS r
def ordC (k : Int) : Option Int → List Int → Bool
  | _, [] => true
  | none, x :: r => ordC k (some x) r
  | some p, x :: r => !(setK k && decide (x ≤ p)) && ordC k (some x) r
def segE (s : Seg) : Int := if s.kind < 1 ∨ s.kind > 4 then 15 else if s.as.length = 0 then 1 else if s.as.length > 255 then 4 else if rngS s.as = false then 5 else if ordC s.kind none s.as = false then 16 else 0
theorem among1 (k : Int) : Gives G 107 [.int .i64 k, .sl 1 [encI 1, encI 4]] [] ⟨.bool (setK k), []⟩ := by
  have hr : ([1, 4] : List Int).any (· == k) = setK k := by
    unfold setK; simp only [List.any_cons, List.any_nil, Bool.or_false]
    rw [Bool.eq_iff_iff]; simp; omega
  rw [← hr]; exact among_gives107 k [1, 4] (by simp)
theorem among2 (k : Int) : Gives G 107 [.int .i64 k, .sl 1 [encI 1, encI 2, encI 3, encI 4]] [] ⟨.bool (decide (1 ≤ k ∧ k ≤ 4)), []⟩ := by
  have hr : ([1, 2, 3, 4] : List Int).any (· == k) = decide (1 ≤ k ∧ k ≤ 4) := by
    simp only [List.any_cons, List.any_nil, Bool.or_false]
    rw [Bool.eq_iff_iff]; simp; omega
  rw [← hr]; exact among_gives107 k [1, 2, 3, 4] (by simp)
theorem among3 (k : Int) : Gives G 107 [.int .i64 k, .sl 1 [encI 2, encI 3]] [] ⟨.bool (decide (k = 2 ∨ k = 3)), []⟩ := by
  have hr : ([2, 3] : List Int).any (· == k) = decide (k = 2 ∨ k = 3) := by
    simp only [List.any_cons, List.any_nil, Bool.or_false]
    rw [Bool.eq_iff_iff]; simp; omega
  rw [← hr]; exact among_gives107 k [2, 3] (by simp)
theorem ord_loop105 (s : Seg) (hl : s.as.length < 2 ^ 40) : ∀ (rest done : List Int) (p : Option Int) (T : List (Nat × AV)) (H : Heap) (c : Nat) (n : Int) (e : s.as = done ++ rest) (hn : n = done.length) (hp : p = done.getLast?),
   Ev G ⟨f105x20LH, ⟨(39, .int .i64 n) :: (1, .ref 65 1 0) :: (38, .int .i64 s.as.length) :: T, (65, some (1, .cells s.enc)) :: H, c⟩, [.t 2], 0⟩ ⟨.int .i64 (if ordC s.kind p rest = false then 16 else 0), []⟩
  | [], done, p, T, H, c, n, e, hn, hp => by
    have hd : s.as.length = done.length := by simp [e]
    refine ev_loop' (W_ok 300 _ _ _ _ ?_)
    repeat' (first | refine stpA ?_ | (refine condS ?_ ?_ <;> intro h))
    all_goals try ((first | refine fin1 ?_ | refine fin0 ?_); first | rfl | (simp [ordC, setK, Bool.cond_eq_ite, *]; done) | (simp [ordC, setK, Bool.cond_eq_ite, *]; omega) | (unfold ordC setK; repeat' split; all_goals first | rfl | (exfalso; omega) | (simp_all; done) | (simp_all; omega)))
  | x :: r, done, p, T, H, c, n, e, hn, hp => by
    have hd : s.as.length = done.length + (r.length + 1) := by simp [e]
    have hx : (s.as.map encI)[n.toNat]? = some (encI x) := by simp [e, hn]
    rcases List.eq_nil_or_concat done with rfl | ⟨d, q, rfl⟩
    · obtain rfl : p = none := by simp [hp]
      simp only [List.length_nil] at hn hd
      refine ev_loop' (W_ok 300 _ _ _ _ ?_)
      repeat' (first | refine stpA ?_ | (refine condS ?_ ?_ <;> intro h))
      rw [show ordC s.kind none (x :: r) = ordC s.kind (some x) r from rfl]
      refine ev_keep [39, 1, 38] [65] ?_; exact ord_loop105 s hl r [x] _ _ _ _ (n + 1) (by simp [e]) (by simp [hn]) rfl
    · obtain rfl : p = some q := by simp [hp]
      simp only [List.concat_eq_append, List.length_append, List.length_singleton] at hn hd
      have hn1 : (n - 1).toNat = d.length := by omega
      have hy : (s.as.map encI)[(n - 1).toNat]? = some (encI q) := by rw [hn1, e]; simp
      refine ev_loop' (W_ok 300 _ _ _ _ ?_)
      repeat' (first | refine stpA ?_ | (refine condS ?_ ?_ <;> intro h))
      all_goals refine callF [(111, _, .vec 1 [encI 1, encI 4])] ⟨rfl, rfl, trivial⟩ rfl (by simp) rfl (by simp [renL, AV.ren, φF, encI, encU, kloc, Nat.beq_refl]) (among1 s.kind) rfl ?_
      repeat' (first | refine stpA ?_ | (refine condS ?_ ?_ <;> intro h))
      all_goals try ((first | refine fin1 ?_ | refine fin0 ?_); first | rfl | (simp [ordC, setK, Bool.cond_eq_ite, *]; done) | (simp [ordC, setK, Bool.cond_eq_ite, *]; omega) | (unfold ordC setK; repeat' split; all_goals first | rfl | (exfalso; omega) | (simp_all; done) | (simp_all; omega)))
      all_goals (rw [show ordC s.kind (some q) (x :: r) = ordC s.kind (some x) r from by simp [ordC, setK, *]]; refine ev_keep [39, 1, 38] [65] ?_; exact ord_loop105 s hl r (d ++ [q] ++ [x]) _ _ _ _ (n + 1) (by simp [e]) (by simp [hn] <;> omega) (by simp))
end Go.AM.IR
set_option maxHeartbeats 4000000
set_option maxRecDepth 20000
namespace Go.AM.IR
theorem rng_loop105 (l : List Int) (s : Seg) (hs : s.as = l) (hl : l.length < 2 ^ 40) (ln : Int) (hln : ln = l.length) : ∀ (rest done : List Int)  (T : List (Nat × AV)) (H : Heap) (c : Nat) (n : Int) (e : l = done ++ rest) (hn : n = done.length) , Ev G ⟨f105x13LH, ⟨(23, .sl 1 (l.map encI)) :: (24, .int .i64 ln) :: (25, .int .i64 n) :: (1, .ref 65 1 0) :: T, (65, some (1, .cells s.enc)) :: H, c⟩, [.t 2], 0⟩ ⟨.int .i64 (if rngS rest = false then 5 else if ordC s.kind none l = false then 16 else 0), []⟩
  | [], done,  T, H, c, n, e, hn => by
    have hd : l.length = done.length := by simp [e]
    have hll : (l.map encI).length = l.length := by simp
    subst hs
    refine ev_loop' (W_ok 300 _ _ _ _ ?_)
    repeat' (first | refine stpA ?_ | (refine condS ?_ ?_ <;> intro h))
    refine ev_keep [39, 1, 38] [65] ?_
    rw [show (if rngS [] = false then (5 : Int) else if ordC s.kind none s.as = false then 16 else 0) = if ordC s.kind none s.as = false then 16 else 0 from by simp [rngS]]
    simp only [List.length_map]
    exact ord_loop105 s hl s.as [] none _ _ _ 0 rfl rfl rfl
  | x :: r, done,  T, H, c, n, e, hn => by
    have hd : l.length = done.length + (r.length + 1) := by simp [e]
    have hll : (l.map encI).length = l.length := by simp
    have hx : (l.map encI)[n.toNat]? = some (encI x) := by simp [e, hn]
    refine ev_loop' (W_ok 300 _ _ _ _ ?_)
    repeat' (first | refine stpA ?_ | (refine condS ?_ ?_ <;> intro h))
    all_goals try ((first | refine fin1 ?_ | refine fin0 ?_); first | rfl | (simp [rngS, Bool.cond_eq_ite, *]; done) | (simp [rngS, Bool.cond_eq_ite, *]; omega) | (unfold rngS; repeat' split; all_goals first | rfl | (exfalso; omega) | (simp_all; done) | (simp_all; omega)))
    rw [show rngS (x :: r) = rngS r from by simp [rngS]; omega]
    refine ev_keep [23, 24, 25, 1] [65] ?_; exact rng_loop105 l s hs hl ln hln r (done ++ [x])  _ _ _ (n + 1) (by simp [e]) (by simp [hn] <;> omega)
theorem segment_gives105 (s : Seg) (hl : s.as.length < 2 ^ 40) : Gives G 105 [.agg s.enc] [] ⟨.int .i64 (segE s), []⟩ := by
  have ll : (s.as.map encI).length = s.as.length := by simp
  refine gives_code (F := f105) rfl rfl (W_ok 300 _ _ _ _ ?_)
  repeat' (first | refine stpA ?_ | refine callF [(73, _, .vec 1 [encI 1, encI 2, encI 3, encI 4])] ⟨rfl, rfl, trivial⟩ rfl (by simp) rfl (by simp [renL, AV.ren, φF, encI, encU, kloc, Nat.beq_refl]) (among2 s.kind) rfl ?_ | (refine condS ?_ ?_ <;> intro h))
  all_goals try ((first | refine fin1 ?_ | refine fin0 ?_); first | rfl | (simp [segE, Bool.cond_eq_ite, *]; done) | (simp [segE, Bool.cond_eq_ite, *]; omega) | (unfold segE; repeat' split; all_goals first | rfl | (exfalso; omega) | (simp_all; done) | (simp_all; omega)))
  rw [show segE s = (if rngS s.as = false then 5 else if ordC s.kind none s.as = false then 16 else 0) from by unfold segE; rw [if_neg (by omega), if_neg (by omega), if_neg (by omega)]]
  refine ev_keep [23, 24, 25, 1] [65] ?_
  exact rng_loop105 s.as s rfl hl _ (by simp) s.as [] _ _ _ 0 rfl rfl
def joinC : Option Seg → Seg → Bool
  | some q, s => (decide (s.kind = 2 ∨ s.kind = 3) && (q.kind == s.kind)) && decide (q.as.length < 255)
  | none, _ => false
def pathC (pl : Bool) (prev : Option Seg) : List Seg → Int
  | [] => 0
  | s :: r => if segE s ≠ 0 then segE s else if (confK s.kind && pl) = true then 1 else if joinC prev s = true then 1 else pathC (pl || !confK s.kind) (some s) r
def pathE (p : List Seg) : Int := if p.length > 64 then 4 else pathC false none p
theorem pathC_next {pl : Bool} {p : Option Seg} {x : Seg} {r : List Seg} (h1 : segE x = 0) (h2 : (confK x.kind && pl) = false) (h3 : joinC p x = false) : pathC pl p (x :: r) = pathC (pl || !confK x.kind) (some x) r := by
  rw [pathC, if_neg (by simp [h1]), if_neg (by simp [h2]), if_neg (by simp [h3])]
theorem check_loop75 (l : List Seg) (hs : ∀ s ∈ l, s.as.length < 2 ^ 40) (hl : l.length < 2 ^ 40) (ln : Int) (hln : ln = l.length) : ∀ (rest done : List Seg) (pl pS : Bool) (p : Option Seg) (T : List (Nat × AV)) (H : Heap) (c : Nat) (n : Int) (e : l = done ++ rest) (hn : n = done.length) (hpl : pl = pS) (hp : p = done.getLast?), Ev G ⟨f75x16LH, ⟨(10, .sl 2 (l.map Seg.enc)) :: (11, .int .i64 ln) :: (12, .int .i64 n) :: (3, .bool pl) :: (0, .sl 2 (l.map Seg.enc)) :: T, H, c⟩, [.t 2], 0⟩ ⟨.int .i64 (pathC pS p rest), []⟩
  | [], done, pl, pS, p, T, H, c, n, e, hn, hpl, hp => by
    have hd : l.length = done.length := by simp [e]
    have hll : (l.map Seg.enc).length = l.length := by simp
    refine ev_loop' (W_ok 300 _ _ _ _ ?_)
    repeat' (first | refine stpA ?_ | (refine condS ?_ ?_ <;> intro h))
    all_goals try ((first | refine fin1 ?_ | refine fin0 ?_); first | rfl | (simp [pathC, Bool.cond_eq_ite, *]; done) | (simp [pathC, Bool.cond_eq_ite, *]; omega) | (unfold pathC; repeat' split; all_goals first | rfl | (exfalso; omega) | (simp_all; done) | (simp_all; omega)))
  | x :: r, done, pl, pS, p, T, H, c, n, e, hn, hpl, hp => by
    have hd : l.length = done.length + (r.length + 1) := by simp [e]
    have hll : (l.map Seg.enc).length = l.length := by simp
    have hx : (l.map Seg.enc)[n.toNat]? = some (Seg.enc x) := by simp [e, hn]
    subst hpl
    have hsx := hs x (by simp [e])
    have hxl : (x.as.map encI).length = x.as.length := by simp
    rcases List.eq_nil_or_concat done with rfl | ⟨d, q, rfl⟩
    · obtain rfl : p = none := by simp [hp]
      simp only [List.length_nil] at hn hd
      refine ev_loop' (W_ok 300 _ _ _ _ ?_)
      repeat' (first | refine stpA ?_ | refine kV (segment_gives105 x hsx) ?_ | refine kV (confed_gives106 x.kind) ?_ | (refine condS ?_ ?_ <;> intro h))
      all_goals try ((first | refine fin1 ?_ | refine fin0 ?_); first | rfl | (simp [pathC, joinC, Bool.cond_eq_ite, *]; done) | (simp [pathC, joinC, Bool.cond_eq_ite, *]; omega) | (unfold pathC joinC; repeat' split; all_goals first | rfl | (exfalso; omega) | (simp_all; done) | (simp_all; omega)))
      all_goals (rw [pathC_next (by assumption) (by simp [*]) (by simp [joinC, *])]; refine ev_keep [10, 11, 12, 3, 0] [] ?_; exact check_loop75 l hs hl ln hln r [x] _ _ (some x) _ _ _ (n + 1) (by simp [e]) (by simp [hn] <;> omega) (by simp [*]) (by simp))
    · obtain rfl : p = some q := by simp [hp]
      simp only [List.concat_eq_append, List.length_append, List.length_singleton] at hn hd
      have hn1 : (n - 1).toNat = d.length := by omega
      have hy : (l.map Seg.enc)[(n - 1).toNat]? = some (Seg.enc q) := by rw [hn1, e]; simp
      have hql : (q.as.map encI).length = q.as.length := by simp
      refine ev_loop' (W_ok 300 _ _ _ _ ?_)
      repeat' (first | refine stpA ?_ | refine kV (segment_gives105 x hsx) ?_ | refine kV (confed_gives106 x.kind) ?_ | refine callF [(97, _, .vec 1 [encI 2, encI 3])] ⟨rfl, rfl, trivial⟩ rfl (by simp) rfl (by simp [renL, AV.ren, φF, encI, encU, kloc, Nat.beq_refl]) (among3 x.kind) rfl ?_ | (refine condS ?_ ?_ <;> intro h))
      all_goals try ((first | refine fin1 ?_ | refine fin0 ?_); first | rfl | (simp [pathC, joinC, Bool.cond_eq_ite, *]; done) | (simp [pathC, joinC, Bool.cond_eq_ite, *]; omega) | (unfold pathC joinC; repeat' split; all_goals first | rfl | (exfalso; omega) | (simp_all; done) | (simp_all; omega)))
      all_goals (rw [pathC_next (by assumption) (by simp [*]) (by simp [joinC, *] <;> omega)]; refine ev_keep [10, 11, 12, 3, 0] [] ?_; exact check_loop75 l hs hl ln hln r (d ++ [q] ++ [x]) _ _ (some x) _ _ _ (n + 1) (by simp [e]) (by simp [hn] <;> omega) (by simp [*]) (by simp))
theorem check_gives75 (l : List Seg) (hl : l.length < 2 ^ 40) (hs : ∀ s ∈ l, s.as.length < 2 ^ 40) : Gives G 75 [.sl 2 (l.map Seg.enc)] [] ⟨.int .i64 (pathE l), []⟩ := by
  have ll : (l.map Seg.enc).length = l.length := by simp
  refine gives_code (F := f75) rfl rfl (W_ok 300 _ _ _ _ ?_)
  repeat' (first | refine stpA ?_ | (refine condS ?_ ?_ <;> intro h))
  all_goals try ((first | refine fin1 ?_ | refine fin0 ?_); first | rfl | (simp [pathE, Bool.cond_eq_ite, *]; done) | (simp [pathE, Bool.cond_eq_ite, *]; omega) | (unfold pathE; repeat' split; all_goals first | rfl | (exfalso; omega) | (simp_all; done) | (simp_all; omega)))
  rw [show pathE l = pathC false none l from by simp [pathE]; omega]
  refine ev_keep [10, 11, 12, 3, 0] [] ?_
  exact check_loop75 l hs hl _ (by simp) l [] _ _ _ _ _ _ 0 rfl rfl rfl rfl
end Go.AM.IR
set_option maxHeartbeats 4000000
set_option maxRecDepth 20000
namespace Go.AM.IR
end Go.AM.IR
set_option maxHeartbeats 4000000
set_option maxRecDepth 20000
namespace Go.AM.IR
def unkC : Option Int → List TLV → Int
  | _, [] => 0
  | none, t :: r => if t.kind ≤ 10 ∨ t.kind > 255 then 15 else if t.value.length > 255 then 4 else unkC (some t.kind) r
  | some p, t :: r => if t.kind ≤ 10 ∨ t.kind > 255 then 15 else if t.kind ≤ p then 16 else if t.value.length > 255 then 4 else unkC (some t.kind) r
def unknownE (l : List TLV) : Int := if l.length > 64 then 4 else unkC none l
theorem unknown_loop79 (l : List TLV) (hv : ∀ t ∈ l, t.value.length < 2 ^ 40) (hl : l.length < 2 ^ 40) (ln : Int) (hln : ln = l.length) : ∀ (rest done : List TLV) (p : Option Int) (T : List (Nat × AV)) (H : Heap) (c : Nat) (n : Int) (e : l = done ++ rest) (hn : n = done.length) (hp : p = done.getLast?.map (·.kind)), Ev G ⟨f79x13LH, ⟨(8, .sl 2 (l.map TLV.enc)) :: (9, .int .i64 ln) :: (10, .int .i64 n) :: (0, .sl 2 (l.map TLV.enc)) :: T, H, c⟩, [.t 2], 0⟩ ⟨.int .i64 (unkC p rest), []⟩
  | [], done, p, T, H, c, n, e, hn, hp => by
    have hd : l.length = done.length := by simp [e]
    have hll : (l.map TLV.enc).length = l.length := by simp
    refine ev_loop' (W_ok 300 _ _ _ _ ?_)
    repeat' (first | refine stpA ?_ | (refine condS ?_ ?_ <;> intro h))
    all_goals try ((first | refine fin1 ?_ | refine fin0 ?_); first | rfl | (simp [unkC, Bool.cond_eq_ite, *]; done) | (simp [unkC, Bool.cond_eq_ite, *]; omega) | (unfold unkC; repeat' split; all_goals first | rfl | (exfalso; omega) | (simp_all; done) | (simp_all; omega)))
  | x :: r, done, p, T, H, c, n, e, hn, hp => by
    have hd : l.length = done.length + (r.length + 1) := by simp [e]
    have hll : (l.map TLV.enc).length = l.length := by simp
    have hx : (l.map TLV.enc)[n.toNat]? = some (TLV.enc x) := by simp [e, hn]
    have hxv : x.value.length < 2 ^ 40 := hv x (by simp [e])
    have hbl : (byteCells x.value).length = x.value.length := by simp [byteCells]
    rcases List.eq_nil_or_concat done with rfl | ⟨d, q, rfl⟩
    · obtain rfl : p = none := by simp [hp]
      simp only [List.length_nil] at hn hd
      refine ev_loop' (W_ok 300 _ _ _ _ ?_)
      repeat' (first | refine stpA ?_ | (refine condS ?_ ?_ <;> intro h))
      all_goals try ((first | refine fin1 ?_ | refine fin0 ?_); first | rfl | (simp [unkC, Bool.cond_eq_ite, *]; done) | (simp [unkC, Bool.cond_eq_ite, *]; omega) | (unfold unkC; repeat' split; all_goals first | rfl | (exfalso; omega) | (simp_all; done) | (simp_all; omega)))
      rw [show unkC none (x :: r) = unkC (some x.kind) r from by simp [unkC]; omega]
      refine ev_keep [8, 9, 10, 0] [] ?_; exact unknown_loop79 l hv hl ln hln r [x] _ _ _ _ (n + 1) (by simp [e]) (by simp [hn] <;> omega) (by simp)
    · obtain rfl : p = some q.kind := by simp [hp]
      simp only [List.concat_eq_append, List.length_append, List.length_singleton] at hn hd
      have hn1 : (n - 1).toNat = d.length := by omega
      have hy : (l.map TLV.enc)[(n - 1).toNat]? = some (TLV.enc q) := by rw [hn1, e]; simp
      refine ev_loop' (W_ok 300 _ _ _ _ ?_)
      repeat' (first | refine stpA ?_ | (refine condS ?_ ?_ <;> intro h))
      all_goals try ((first | refine fin1 ?_ | refine fin0 ?_); first | rfl | (simp [unkC, Bool.cond_eq_ite, *]; done) | (simp [unkC, Bool.cond_eq_ite, *]; omega) | (unfold unkC; repeat' split; all_goals first | rfl | (exfalso; omega) | (simp_all; done) | (simp_all; omega)))
      rw [show unkC (some q.kind) (x :: r) = unkC (some x.kind) r from by simp [unkC]; omega]
      refine ev_keep [8, 9, 10, 0] [] ?_; exact unknown_loop79 l hv hl ln hln r (d ++ [q] ++ [x]) _ _ _ _ (n + 1) (by simp [e]) (by simp [hn] <;> omega) (by simp)
theorem unknown_gives79 (l : List TLV) (hl : l.length < 2 ^ 40) (hv : ∀ t ∈ l, t.value.length < 2 ^ 40) : Gives G 79 [.sl 2 (l.map TLV.enc)] [] ⟨.int .i64 (unknownE l), []⟩ := by
  have ll : (l.map TLV.enc).length = l.length := by simp
  refine gives_code (F := f79) rfl rfl (W_ok 300 _ _ _ _ ?_)
  repeat' (first | refine stpA ?_ | (refine condS ?_ ?_ <;> intro h))
  all_goals try ((first | refine fin1 ?_ | refine fin0 ?_); first | rfl | (simp [unknownE, Bool.cond_eq_ite, *]; done) | (simp [unknownE, Bool.cond_eq_ite, *]; omega) | (unfold unknownE; repeat' split; all_goals first | rfl | (exfalso; omega) | (simp_all; done) | (simp_all; omega)))
  rw [show unknownE l = unkC none l from by simp [unknownE]; omega]
  refine ev_keep [8, 9, 10, 0] [] ?_
  exact unknown_loop79 l hv hl _ (by simp) l [] _ _ _ _ 0 rfl rfl rfl
end Go.AM.IR
set_option maxHeartbeats 4000000
set_option maxRecDepth 20000
namespace Go.AM.IR
def origE (h : Bool) (x : Int) : Int := if h = (x == 0) then 1 else 0
def checkL (a : Attrs) : List Int := [if a.origin < 0 ∨ a.origin > 2 then 5 else 0, pathE a.path, if a.nextHop = 0 then 1 else 0, optE a.hasMED a.med 0, optE a.hasPref a.pref 0, optE a.hasAggr a.aggrAS 1, if a.hasAggr = false ∧ a.aggrAddr ≠ 0 then 1 else 0, commE a.comms, origE a.hasOrig a.orig, clustersE a.clusters, unknownE a.unknown]
def checkS (a : Attrs) : Int := firstS (checkL a)
structure LenB (a : Attrs) : Prop where
  path : a.path.length < 2 ^ 40
  segs : ∀ s ∈ a.path, s.as.length < 2 ^ 40
  comms : a.comms.length < 2 ^ 40
  clusters : a.clusters.length < 2 ^ 40
  unknown : a.unknown.length < 2 ^ 40
  vals : ∀ t ∈ a.unknown, t.value.length < 2 ^ 40
theorem check_gives65 (a : Attrs) (h : LenB a) : Gives G 65 [.agg a.enc] [] ⟨.int .i64 (checkS a), []⟩ := by
  obtain ⟨h1, h2, h3, h4, h5, h6⟩ := h
  refine gives_code (F := f65) rfl rfl (W_ok 300 _ _ _ _ ?_)
  repeat' (first | refine stpA ?_ | refine kV (when_gives74 _ _) ?_ | refine kV (optional_gives76 _ _ _) ?_ | refine kV (check_gives75 a.path h1 h2) ?_ | refine kV (comm_gives77 a.comms h3) ?_ | refine kV (clusters_gives78 a.clusters h4) ?_ | refine kV (unknown_gives79 a.unknown h5 h6) ?_ | (refine condS ?_ ?_ <;> intro h))
  all_goals (refine callF [(123, _, .vec 1 _)] ⟨rfl, rfl, trivial⟩ rfl (by simp) rfl rfl (first_gives73 [_, _, _, _, _, _, _, _, _, _, _] (by simp)) rfl ?_)
  repeat' (first | refine stpA ?_ | (refine condS ?_ ?_ <;> intro h))
  all_goals ((first | refine fin1 ?_ | refine fin0 ?_); refine congrArg (fun x => Ret.mk (.int .i64 x) []) ?_; unfold checkS; refine congrArg firstS ?_; simp [checkL, origE, *]; try omega)
end Go.AM.IR
set_option maxHeartbeats 4000000
set_option maxRecDepth 20000
namespace Go.AM.IR
def u64 (n : Int) : Nat := (n % 18446744073709551616).toNat
theorem zCU {k : Eff → Prop} {x : Opd} {g key : Nat} {hg : Nat → Option (Nat × Blk)} {n : Int} (h : k { res := .int .u64 ((u64 n : Nat) : Int) }) : ∃ e, aopV (.conv .u64 x) g key [.int .i64 n] hg = some e ∧ k e :=
  ⟨_, by
    show some (({ res := .int .u64 (IntKind.wrap .u64 n) } : Eff)) = _
    have : IntKind.wrap .u64 n = ((u64 n : Nat) : Int) := by
      simp [IntKind.wrap, IntKind.signed, IntKind.bits, u64]; omega
    rw [this], h⟩
theorem put0_gives109 (n x : Nat) (hn : n ≤ 8) : Gives G 109 [.con (.slice none 0 0), .int .i64 n, .int .u64 (x : Int)] [] (rB (be n x)) :=
  gives_le rfl (put_gives109 [] (by simp) n x hn) ⟨LeP.nil 1, .refl _, .refl _, trivial⟩
def zeroA : Attrs := ⟨0, [], 0, false, 0, false, 0, false, false, 0, 0, [], false, 0, [], []⟩
def zeroM : PMsg := ⟨0, 0, 0, 0, 0, [], [], zeroA, [], 0, 0, []⟩
theorem rBl {p q : Bool} (h : p = q) : (⟨.bool p, []⟩ : Ret) = ⟨.bool q, []⟩ := by rw [h]
end Go.AM.IR
set_option maxHeartbeats 4000000
set_option maxRecDepth 20000
namespace Go.AM.IR
deriving instance DecidableEq for Seg, TLV, Attrs
theorem eq_loop104 (la lb : List Int) (hlen : la.length = lb.length) (hl : la.length < 2 ^ 40) : ∀ (r1 d1 r2 d2 : List Int) (T : List (Nat × AV)) (H : Heap) (c : Nat) (n : Int) (e1 : la = d1 ++ r1) (e2 : lb = d2 ++ r2) (hn1 : n = d1.length) (hn2 : n = d2.length),
   Ev G ⟨f104x9LH, ⟨(13, .int .i64 n) :: (1, .sl 1 (lb.map encU)) :: (0, .sl 1 (la.map encU)) :: (12, .int .i64 la.length) :: T, H, c⟩, [.t 4], 0⟩ ⟨.bool (decide (r1 = r2)), []⟩
  | [], d1, [], d2, T, H, c, n, e1, e2, hn1, hn2 => by
    have hd : la.length = d1.length := by simp [e1]
    refine ev_loop' (W_ok 300 _ _ _ _ ?_)
    repeat' (first | refine stpA ?_ | (refine condS ?_ ?_ <;> intro h))
    all_goals try ((first | refine fin1 ?_ | refine fin0 ?_); first | rfl | (simp [Bool.cond_eq_ite, *]; done) | (simp [Bool.cond_eq_ite, *]; omega))
  | x :: r1, d1, y :: r2, d2, T, H, c, n, e1, e2, hn1, hn2 => by
    have hd : la.length = d1.length + (r1.length + 1) := by simp [e1]
    have hx : (la.map encU)[n.toNat]? = some (encU x) := by simp [e1, hn1]
    have hy : (lb.map encU)[n.toNat]? = some (encU y) := by simp [e2, hn2]
    refine ev_loop' (W_ok 300 _ _ _ _ ?_)
    repeat' (first | refine stpA ?_ | (refine condS ?_ ?_ <;> intro h))
    all_goals try ((first | refine fin1 ?_ | refine fin0 ?_); first | rfl | (simp [Bool.cond_eq_ite, *]; done) | (simp [Bool.cond_eq_ite, *]; omega))
    rw [show decide (x :: r1 = y :: r2) = decide (r1 = r2) from by simp [*]]
    refine ev_keep [13, 1, 0, 12] [] ?_; exact eq_loop104 la lb hlen hl r1 (d1 ++ [x]) r2 (d2 ++ [y]) _ _ _ (n + 1) (by simp [e1]) (by simp [e2]) (by simp [hn1]) (by simp; omega)
  | [], d1, y :: r2, d2, T, H, c, n, e1, e2, hn1, hn2 => by
    exfalso; rw [e1, e2] at hlen; simp at hlen; omega
  | x :: r1, d1, [], d2, T, H, c, n, e1, e2, hn1, hn2 => by
    exfalso; rw [e1, e2] at hlen; simp at hlen; omega
theorem eq_gives104 (la lb : List Int) (h1 : la.length < 2 ^ 40) (h2 : lb.length < 2 ^ 40) : Gives G 104 [.sl 1 (la.map encU), .sl 1 (lb.map encU)] [] ⟨.bool (decide (la = lb)), []⟩ := by
  have l1 : (la.map encU).length = la.length := by simp
  have l2 : (lb.map encU).length = lb.length := by simp
  by_cases hlen : la.length = lb.length
  · refine gives_code (F := f104) rfl rfl (W_ok 300 _ _ _ _ ?_)
    repeat' (first | refine stpA ?_ | (refine condS ?_ ?_ <;> intro h))
    refine ev_keep [13, 1, 0, 12] [] ?_
    rw [l1]
    exact eq_loop104 la lb hlen h1 la [] lb [] _ _ _ 0 rfl rfl rfl rfl
  · rw [show decide (la = lb) = false from by simp; intro h; exact hlen (by rw [h])]
    refine gives_code (F := f104) rfl rfl (W_ok 300 _ _ _ _ ?_)
    repeat' (first | refine stpA ?_ | (refine condS ?_ ?_ <;> intro h))
    all_goals try ((first | refine fin1 ?_ | refine fin0 ?_); first | rfl | (simp [Bool.cond_eq_ite, *]; done) | (simp [Bool.cond_eq_ite, *]; omega))
theorem in_loop103 (pa pb : List Seg) (hlen : pa.length = pb.length) (hl : pa.length < 2 ^ 40) (i : Int) (s t : Seg) (h0 : 0 ≤ i) (hs : (pa.map Seg.enc)[i.toNat]? = some s.enc) (ht : (pb.map Seg.enc)[i.toNat]? = some t.enc) (hi : i < 2 ^ 40)
   (hst : s.as.length = t.as.length) (hsl : s.as.length < 2 ^ 40) (R : Bool)
   (go : ∀ T H c, Ev G ⟨f103x16LH, ⟨(14, .int .i64 (i + 1)) :: (1, .sl 2 (pb.map Seg.enc)) :: (0, .sl 2 (pa.map Seg.enc)) :: (13, .int .i64 pa.length) :: T, H, c⟩, [.t 4], 0⟩ ⟨.bool R, []⟩) : ∀ (r1 d1 r2 d2 : List Int) (T : List (Nat × AV)) (H : Heap) (c : Nat) (n : Int) (e1 : s.as = d1 ++ r1) (e2 : t.as = d2 ++ r2) (hn1 : n = d1.length) (hn2 : n = d2.length),
   Ev G ⟨f103x14LH, ⟨(49, .int .i64 n) :: (5, .int .i64 i) :: (1, .sl 2 (pb.map Seg.enc)) :: (0, .sl 2 (pa.map Seg.enc)) :: (13, .int .i64 pa.length) :: (14, .int .i64 i) :: (48, .int .i64 s.as.length) :: T, H, c⟩, [.t 4], 0⟩ ⟨.bool (decide (r1 = r2) && R), []⟩
  | [], d1, [], d2, T, H, c, n, e1, e2, hn1, hn2 => by
    have hd : s.as.length = d1.length := by simp [e1]
    refine ev_loop' (W_ok 300 _ _ _ _ ?_)
    repeat' (first | refine stpA ?_ | (refine condS ?_ ?_ <;> intro h))
    refine ev_keep [14, 1, 0, 13] [] ?_
    rw [show (decide (([] : List Int) = []) && R) = R from by simp]
    exact go _ _ _
  | x :: r1, d1, y :: r2, d2, T, H, c, n, e1, e2, hn1, hn2 => by
    have hd : s.as.length = d1.length + (r1.length + 1) := by simp [e1]
    have hx : (s.as.map encI)[n.toNat]? = some (encI x) := by simp [e1, hn1]
    have hy : (t.as.map encI)[n.toNat]? = some (encI y) := by simp [e2, hn2]
    refine ev_loop' (W_ok 300 _ _ _ _ ?_)
    repeat' (first | refine stpA ?_ | (refine condS ?_ ?_ <;> intro h))
    all_goals try ((first | refine fin1 ?_ | refine fin0 ?_); first | rfl | (simp [Bool.cond_eq_ite, *]; done) | (simp [Bool.cond_eq_ite, *]; omega))
    rw [show decide (x :: r1 = y :: r2) = decide (r1 = r2) from by simp [*]]
    refine ev_keep [49, 5, 1, 0, 13, 14, 48] [] ?_; exact in_loop103 pa pb hlen hl i s t h0 hs ht hi hst hsl R go r1 (d1 ++ [x]) r2 (d2 ++ [y]) _ _ _ (n + 1) (by simp [e1]) (by simp [e2]) (by simp [hn1]) (by simp; omega)
  | [], d1, y :: r2, d2, T, H, c, n, e1, e2, hn1, hn2 => by
    exfalso; rw [e1, e2] at hst; simp at hst; omega
  | x :: r1, d1, [], d2, T, H, c, n, e1, e2, hn1, hn2 => by
    exfalso; rw [e1, e2] at hst; simp at hst; omega
theorem out_loop103 (pa pb : List Seg) (hlen : pa.length = pb.length) (hl : pa.length < 2 ^ 40) (ha : ∀ s ∈ pa, s.as.length < 2 ^ 40) (hb : ∀ s ∈ pb, s.as.length < 2 ^ 40) : ∀ (r1 d1 r2 d2 : List Seg) (T : List (Nat × AV)) (H : Heap) (c : Nat) (n : Int) (e1 : pa = d1 ++ r1) (e2 : pb = d2 ++ r2) (hn1 : n = d1.length) (hn2 : n = d2.length),
   Ev G ⟨f103x16LH, ⟨(14, .int .i64 n) :: (1, .sl 2 (pb.map Seg.enc)) :: (0, .sl 2 (pa.map Seg.enc)) :: (13, .int .i64 pa.length) :: T, H, c⟩, [.t 4], 0⟩ ⟨.bool (decide (r1 = r2)), []⟩
  | [], d1, [], d2, T, H, c, n, e1, e2, hn1, hn2 => by
    have hd : pa.length = d1.length := by simp [e1]
    refine ev_loop' (W_ok 300 _ _ _ _ ?_)
    repeat' (first | refine stpA ?_ | (refine condS ?_ ?_ <;> intro h))
    all_goals try ((first | refine fin1 ?_ | refine fin0 ?_); first | rfl | (simp [Bool.cond_eq_ite, *]; done) | (simp [Bool.cond_eq_ite, *]; omega))
  | x :: r1, d1, y :: r2, d2, T, H, c, n, e1, e2, hn1, hn2 => by
    have hd : pa.length = d1.length + (r1.length + 1) := by simp [e1]
    have hx : (pa.map Seg.enc)[n.toNat]? = some x.enc := by simp [e1, hn1]
    have hy : (pb.map Seg.enc)[n.toNat]? = some y.enc := by simp [e2, hn2]
    have hxl := ha x (by simp [e1])
    have hyl := hb y (by simp [e2])
    have l1 : (x.as.map encI).length = x.as.length := by simp
    have l2 : (y.as.map encI).length = y.as.length := by simp
    have hee : (x = y) ↔ (x.kind = y.kind ∧ x.as = y.as) := by cases x; cases y; simp
    have ih := fun T H c => out_loop103 pa pb hlen hl ha hb r1 (d1 ++ [x]) r2 (d2 ++ [y]) T H c (n + 1) (by simp [e1]) (by simp [e2]) (by simp [hn1]) (by simp; omega)
    by_cases hk : x.kind = y.kind
    · by_cases hal : x.as.length = y.as.length
      · refine ev_loop' (W_ok 300 _ _ _ _ ?_)
        repeat' (first | refine stpA ?_ | (refine condS ?_ ?_ <;> intro h))
        refine ev_keep [49, 5, 1, 0, 13, 14, 48] [] ?_
        rw [l1]
        have := in_loop103 pa pb hlen hl n x y (by omega) hx hy (by omega) hal hxl _ ih x.as [] y.as []
        rw [show decide (x :: r1 = y :: r2) = (decide (x.as = y.as) && decide (r1 = r2)) from by simp [hee, hk]]
        exact this _ _ _ 0 rfl rfl rfl rfl
      · rw [show decide (x :: r1 = y :: r2) = false from by simp [hee]; intro _ h; exact absurd (by rw [h]) hal]
        refine ev_loop' (W_ok 300 _ _ _ _ ?_)
        repeat' (first | refine stpA ?_ | (refine condS ?_ ?_ <;> intro h))
        all_goals try ((first | refine fin1 ?_ | refine fin0 ?_); first | rfl | (simp [Bool.cond_eq_ite, *]; done) | (simp [Bool.cond_eq_ite, *]; omega))
    · rw [show decide (x :: r1 = y :: r2) = false from by simp [hee, hk]]
      refine ev_loop' (W_ok 300 _ _ _ _ ?_)
      repeat' (first | refine stpA ?_ | (refine condS ?_ ?_ <;> intro h))
      all_goals try ((first | refine fin1 ?_ | refine fin0 ?_); first | rfl | (simp [Bool.cond_eq_ite, *]; done) | (simp [Bool.cond_eq_ite, *]; omega))
  | [], d1, y :: r2, d2, T, H, c, n, e1, e2, hn1, hn2 => by
    exfalso; rw [e1, e2] at hlen; simp at hlen; omega
  | x :: r1, d1, [], d2, T, H, c, n, e1, e2, hn1, hn2 => by
    exfalso; rw [e1, e2] at hlen; simp at hlen; omega
theorem same_gives103 (pa pb : List Seg) (h1 : pa.length < 2 ^ 40) (h2 : pb.length < 2 ^ 40) (ha : ∀ s ∈ pa, s.as.length < 2 ^ 40) (hb : ∀ s ∈ pb, s.as.length < 2 ^ 40) : Gives G 103 [.sl 2 (pa.map Seg.enc), .sl 2 (pb.map Seg.enc)] [] ⟨.bool (decide (pa = pb)), []⟩ := by
  have l1 : (pa.map Seg.enc).length = pa.length := by simp
  have l2 : (pb.map Seg.enc).length = pb.length := by simp
  by_cases hlen : pa.length = pb.length
  · refine gives_code (F := f103) rfl rfl (W_ok 300 _ _ _ _ ?_)
    repeat' (first | refine stpA ?_ | (refine condS ?_ ?_ <;> intro h))
    refine ev_keep [14, 1, 0, 13] [] ?_
    rw [l1]
    exact out_loop103 pa pb hlen h1 ha hb pa [] pb [] _ _ _ 0 rfl rfl rfl rfl
  · rw [show decide (pa = pb) = false from by simp; intro h; exact hlen (by rw [h])]
    refine gives_code (F := f103) rfl rfl (W_ok 300 _ _ _ _ ?_)
    repeat' (first | refine stpA ?_ | (refine condS ?_ ?_ <;> intro h))
    all_goals try ((first | refine fin1 ?_ | refine fin0 ?_); first | rfl | (simp [Bool.cond_eq_ite, *]; done) | (simp [Bool.cond_eq_ite, *]; omega))
end Go.AM.IR
