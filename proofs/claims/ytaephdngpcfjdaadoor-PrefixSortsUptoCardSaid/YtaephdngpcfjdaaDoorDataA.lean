/- What the functions of this program give, on the abstract machine. -/
import Derived.Test.YtaephdngpcfjdaaDoorMachineC
import Derived.Test.YtaephdngpcfjdaaDoorLibraryA
import Derived.KernelRfl
set_option linter.unusedVariables false
set_option linter.unusedSimpArgs false
set_option maxRecDepth 100000
namespace Go.AM.IR
open Go Go.AM
def f211x0 : List AOper := [
  Op 1 (.box (.t 0)),
  Mc 2 (.bool false)]
def f211x1 : List AOper := [
  Mc 3 (.int .u32 0)]
def f211x2 : List AOper := [
  Ls 14 2 1,
  Ct 15 179 [14]]
def f211x3 : List AOper := [
  Ls 16 2 1,
  Ct 17 220 [16],
  Mv 3 17]
def f211x4 : List AOper := [
  Ls 19 2 1,
  Ct 20 221 [19],
  Mv 18 20,
  Ex 21 18 0,
  Ex 22 18 1,
  Op 4 (.alloc (.agg [.int .u32 0, .int .i64 0])),
  St 2 4 21,
  Mv 5 22]
def f211x5 : List AOper := [
  Ls 24 2 1,
  Ct 25 222 [24],
  Mv 23 25,
  Ex 26 23 0,
  Ex 27 23 1,
  Op 6 (.alloc (.agg [.int .u32 0, .int .i64 0])),
  St 2 6 26,
  Mv 7 27]
def f211x6 : List AOper := [
  Ls 29 2 1,
  Ct 30 223 [29],
  Mv 28 30,
  Ex 31 28 0,
  Ex 32 28 1,
  Ex 33 28 2,
  Op 8 (.alloc (.agg [.int .u32 0, .int .i64 0])),
  Op 9 (.alloc (.agg [.int .u32 0, .int .i64 0])),
  St 2 8 31,
  St 2 9 32,
  Mv 10 33]
def f211x7 : List AOper := [
  Ls 35 2 1,
  Ct 36 224 [35],
  Mv 34 36,
  Ex 37 34 0,
  Ex 38 34 1,
  Ex 39 34 2,
  Op 11 (.alloc (.agg [.int .u32 0, .int .i64 0])),
  Op 12 (.alloc (.agg [.int .u32 0, .int .i64 0])),
  St 2 11 37,
  St 2 12 38,
  Mv 13 39]
def f211x8 : List AOper := [
  Ls 40 2 1,
  Ct 41 225 [40],
  Mv 42 3,
  Bi 43 .eql 41 42,
  Mv 44 43,
  Gt 44 (Ls 45 2 4),
  Gt 44 (Ls 46 2 6),
  Gt 44 (Op 47 (.eqs [.int, .int] false (.t 45) (.t 46))),
  Pa 48 44 47,
  Mv 49 48,
  Gt 49 (Mv 50 5),
  Gt 49 (Mv 51 7),
  Gt 49 (Op 52 (.eqb false (.t 50) (.t 51))),
  Pa 53 49 52,
  Mv 54 53,
  Gt 54 (Ls 55 2 8),
  Gt 54 (Ls 56 2 11),
  Gt 54 (Op 57 (.eqs [.int, .int] false (.t 55) (.t 56))),
  Pa 58 54 57,
  Mv 59 58,
  Gt 59 (Ls 60 2 9),
  Gt 59 (Ls 61 2 12),
  Gt 59 (Op 62 (.eqs [.int, .int] false (.t 60) (.t 61))),
  Pa 63 59 62,
  Mv 64 63,
  Gt 64 (Mv 65 10),
  Gt 64 (Mv 66 13),
  Gt 64 (Op 67 (.eqb false (.t 65) (.t 66))),
  Pa 68 64 67,
  Mv 69 68,
  Gt 69 (Ct 70 226 []),
  Pa 71 69 70,
  Mv 2 71]
def f211 : AFunc := ⟨72, 1, false, [.t 2], (.seq (.region f211x0 false) (.seq (.region f211x1 false) (.seq (.seq (.region f211x2 false) (.cond (.t 15) (.region f211x3 false) .skip)) (.seq (.region f211x4 false) (.seq (.region f211x5 false) (.seq (.region f211x6 false) (.seq (.region f211x7 false) (.seq (.region f211x8 false) .ret))))))))⟩
def f212x0 : List AOper := [
  Op 2 (.box (.t 0)),
  Mc 4 (.bool false)]
def f212x1 : List AOper := [
  Mv 5 1,
  Ct 6 227 [5],
  Mv 7 1,
  Af [1] (Ct 8 228 [7]),
  Bi 9 .eql 6 8,
  Mv 10 9,
  Af [3, 1] (Gt 10 (Ls 11 2 2)),
  Af [6, 3, 1] (Gt 10 (Ct 12 229 [11])),
  Af [3, 1] (Gt 10 (Ls 13 2 2)),
  Af [8, 7, 6, 3, 1] (Gt 10 (Ct 14 230 [13])),
  Gt 10 (Bi 15 .eql 12 14),
  Pa 16 10 15,
  Mv 17 16,
  Af [9, 8, 7, 6, 3, 1] (Gt 17 (Ct 18 226 [])),
  Pa 19 17 18,
  Mv 4 19]
def f212 : AFunc := ⟨20, 2, false, [.t 4], (.seq (.region f212x0 false) (.seq (.region f212x1 true) .ret))⟩
def f213x0 : List AOper := [
  Mc 2 (.bool false)]
def f213x1 : List AOper := [
  Mv 12 0,
  Ct 13 231 [12],
  Mv 11 13,
  Ex 14 11 0,
  Ex 15 11 1,
  Mv 3 14,
  Mv 4 15]
def f213x2 : List AOper := [
  Mv 17 0,
  Ct 18 232 [17],
  Mv 16 18,
  Ex 19 16 0,
  Ex 20 16 1,
  Mv 5 19,
  Mv 6 20]
def f213x3 : List AOper := [
  Mv 22 0,
  Ct 23 233 [22],
  Mv 21 23,
  Ex 24 21 0,
  Ex 25 21 1,
  Op 7 (.alloc (.agg [.int .u32 0, .int .i64 0])),
  St 2 7 24,
  Mv 8 25]
def f213x4 : List AOper := [
  Mv 27 0,
  Ct 28 234 [27],
  Mv 26 28,
  Ex 29 26 0,
  Ex 30 26 1,
  Op 9 (.alloc (.agg [.int .u32 0, .int .i64 0])),
  St 2 9 29,
  Mv 10 30]
def f213x5 : List AOper := [
  Mv 31 3,
  Mv 32 5,
  Bi 33 .eql 31 32,
  Mv 34 33,
  Gt 34 (Mv 35 4),
  Gt 34 (Mv 36 6),
  Gt 34 (Bi 37 .eql 35 36),
  Pa 38 34 37,
  Mv 39 38,
  Gt 39 (Ls 40 2 7),
  Gt 39 (Ls 41 2 9),
  Gt 39 (Op 42 (.eqs [.int, .int] false (.t 40) (.t 41))),
  Pa 43 39 42,
  Mv 44 43,
  Gt 44 (Mv 45 8),
  Gt 44 (Mv 46 10),
  Gt 44 (Bi 47 .eql 45 46),
  Pa 48 44 47,
  Mv 49 48,
  Gt 49 (Ct 50 226 []),
  Pa 51 49 50,
  Mv 2 51]
def f213 : AFunc := ⟨52, 1, false, [.t 2], (.seq (.region f213x0 false) (.seq (.region f213x1 false) (.seq (.region f213x2 false) (.seq (.region f213x3 false) (.seq (.region f213x4 false) (.seq (.region f213x5 false) .ret))))))⟩
def f214x0 : List AOper := [
  Op 3 (.box (.t 0)),
  Mc 6 (.bool false)]
def f214x1 : List AOper := [
  Ls 16 2 3,
  Ct 17 229 [16],
  Ct 18 233 [17],
  Mv 15 18,
  Ex 19 15 0,
  Ex 20 15 1,
  Op 7 (.alloc (.agg [.int .u32 0, .int .i64 0])),
  St 2 7 19,
  Mv 8 20]
def f214x2 : List AOper := [
  Mv 22 1,
  Ct 23 227 [22],
  Ct 24 231 [23],
  Mv 21 24,
  Ex 25 21 0,
  Ex 26 21 1,
  Mv 9 25,
  Mv 10 26]
def f214x3 : List AOper := [
  Ls 27 2 3,
  Ct 28 178 [27],
  Mv 29 28,
  Gt 29 (Mv 30 8),
  Gt 29 (Bc 31 .neq 30 0),
  Gt 29 (Mv 32 31),
  Gf 32 (Ls 33 2 7),
  Gf 32 (Ls 34 2 3),
  Gf 32 (Op 35 (.eqs [.int, .int] true (.t 33) (.t 34))),
  Gt 29 (Po 36 32 35),
  Pa 37 29 36,
  Mv 38 37,
  Gf 38 (Mv 39 10),
  Gf 38 (Bc 40 .neq 39 0),
  Po 41 38 40,
  Mv 42 41,
  Gf 42 (Mv 43 1),
  Gf 42 (Mv 44 9),
  Gf 42 (Bi 45 .neq 43 44),
  Po 46 42 45]
def f214x4 : List AOper := [
  Mc 6 (.bool false)]
def f214x5 : List AOper := [
  Mv 48 2,
  Ct 49 233 [48],
  Mv 47 49,
  Ex 50 47 0,
  Ex 51 47 1,
  Op 11 (.alloc (.agg [.int .u32 0, .int .i64 0])),
  St 2 11 50,
  Mv 12 51]
def f214x6 : List AOper := [
  Mv 53 2,
  Ct 54 231 [53],
  Mv 52 54,
  Ex 55 52 0,
  Ex 56 52 1,
  Mv 13 55,
  Mv 14 56]
def f214x7 : List AOper := [
  Mv 57 12,
  Bc 58 .neq 57 0,
  Mv 59 58,
  Gf 59 (Ls 60 2 11),
  Gf 59 (Ct 61 178 [60]),
  Gf 59 (Mv 62 61),
  Gt 62 (Ls 63 2 11),
  Gt 62 (Ct 64 229 [63]),
  Gt 62 (Mv 65 2),
  Gt 62 (Bi 66 .eql 64 65),
  Gf 59 (Pa 67 62 66),
  Po 68 59 67,
  Mv 69 68,
  Gt 69 (Mv 70 14),
  Gt 69 (Bc 71 .neq 70 0),
  Gt 69 (Mv 72 71),
  Gf 72 (Mv 73 13),
  Gf 72 (Ct 74 227 [73]),
  Gf 72 (Mv 75 2),
  Gf 72 (Bi 76 .eql 74 75),
  Gt 69 (Po 77 72 76),
  Pa 78 69 77,
  Mv 79 78,
  Gt 79 (Ct 80 226 []),
  Pa 81 79 80,
  Mv 6 81]
def f214 : AFunc := ⟨82, 3, false, [.t 6], (.seq (.region f214x0 false) (.seq (.region f214x1 false) (.seq (.region f214x2 false) (.seq (.seq (.region f214x3 false) (.cond (.t 46) (.seq (.region f214x4 false) .ret) .skip)) (.seq (.region f214x5 false) (.seq (.region f214x6 false) (.seq (.region f214x7 false) .ret)))))))⟩
def f215x0 : List AOper := [
  Op 3 (.box (.t 0)),
  Op 4 (.box (.t 1)),
  Mc 6 (.bool false)]
def f215x1 : List AOper := [
  Ls 15 2 3,
  Ct 16 223 [15],
  Mv 14 16,
  Ex 17 14 0,
  Ex 18 14 1,
  Ex 19 14 2,
  Op 7 (.alloc (.agg [.int .u32 0, .int .i64 0])),
  Op 8 (.alloc (.agg [.int .u32 0, .int .i64 0])),
  St 2 7 17,
  St 2 8 18,
  Mv 9 19]
def f215x2 : List AOper := [
  Ls 20 2 7,
  Mv 21 2,
  Af [0] (Ct 22 235 [20, 21]),
  Ls 23 2 8,
  Mv 24 2,
  Af [3, 2, 0] (Ct 25 235 [23, 24]),
  Mv 10 22,
  Mv 11 25]
def f215x3 : List AOper := [
  Mv 26 9,
  Mv 27 26,
  Gt 27 (Ls 28 2 3),
  Gt 27 (Mv 29 2),
  Gt 27 (Ct 30 235 [28, 29]),
  Gt 27 (Mv 31 10),
  Gt 27 (Mv 32 31),
  Gf 32 (Mv 33 11),
  Gt 27 (Po 34 32 33),
  Gt 27 (Op 35 (.eqb true (.t 30) (.t 34))),
  Gt 27 (Mv 36 35),
  Gf 36 (Mv 37 10),
  Gf 36 (Mv 38 37),
  Gt 38 (Mv 39 11),
  Gf 36 (Pa 40 38 39),
  Gt 27 (Po 41 36 40),
  Pa 42 27 41]
def f215x4 : List AOper := [
  Mc 6 (.bool false)]
def f215x5 : List AOper := [
  Ls 43 2 4,
  Ct 44 178 [43],
  Un 45 .not 44]
def f215x6 : List AOper := [
  Ct 46 226 [],
  Mv 6 46]
def f215x7 : List AOper := [
  Mv 48 2,
  Fa 49 1 4,
  Ld 50 49,
  Ct 51 236 [48, 50],
  Mv 47 51,
  Ex 52 47 0,
  Ex 53 47 1,
  Op 12 (.alloc (.agg [.int .u32 0, .int .i64 0])),
  St 2 12 52,
  Mv 13 53]
def f215x8 : List AOper := [
  Mv 54 13,
  Bc 55 .eql 54 0,
  Mv 56 55,
  Gt 56 (Ls 57 2 12),
  Gt 56 (Mv 58 2),
  Af [3] (Gt 56 (Ct 59 235 [57, 58])),
  Pa 60 56 59,
  Mv 61 60,
  Af [5, 3] (Gt 61 (Ls 62 2 4)),
  Gt 61 (Mv 63 2),
  Af [8, 5, 3] (Gt 61 (Ct 64 235 [62, 63])),
  Af [5, 3] (Gt 61 (Ls 65 2 4)),
  Af [5, 3] (Gt 61 (Ls 66 2 12)),
  Gt 61 (Op 67 (.eqs [.int, .int] false (.t 65) (.t 66))),
  Gt 61 (Op 68 (.eqb false (.t 64) (.t 67))),
  Pa 69 61 68,
  Mv 70 69,
  Af [10, 11, 12, 8, 5, 3] (Gt 70 (Ct 71 226 [])),
  Pa 72 70 71,
  Mv 6 72]
def f215 : AFunc := ⟨73, 3, false, [.t 6], (.seq (.region f215x0 false) (.seq (.region f215x1 false) (.seq (.region f215x2 true) (.seq (.seq (.region f215x3 false) (.cond (.t 42) (.seq (.region f215x4 false) .ret) .skip)) (.seq (.seq (.region f215x5 false) (.cond (.t 45) (.seq (.region f215x6 false) .ret) .skip)) (.seq (.region f215x7 false) (.seq (.region f215x8 true) .ret)))))))⟩
def f216x0 : List AOper := [
  Op 4 (.box (.t 0)),
  Op 5 (.box (.t 1)),
  Op 6 (.box (.t 2)),
  Mc 8 (.bool false)]
def f216x1 : List AOper := [
  Ls 9 2 4,
  Mv 10 3,
  Ct 11 235 [9, 10],
  Mv 12 11,
  Gt 12 (Ls 13 2 5),
  Gt 12 (Mv 14 3),
  Gt 12 (Ct 15 235 [13, 14]),
  Pa 16 12 15,
  Mv 17 16,
  Gt 17 (Ls 18 2 4),
  Gt 17 (Ls 19 2 5),
  Gt 17 (Ct 20 237 [18, 19]),
  Gt 17 (Un 21 .not 20),
  Pa 22 17 21,
  Mv 23 22,
  Gt 23 (Ls 24 2 5),
  Gt 23 (Ls 25 2 4),
  Gt 23 (Ct 26 237 [24, 25]),
  Gt 23 (Un 27 .not 26),
  Pa 28 23 27]
def f216x2 : List AOper := [
  Mc 8 (.bool false)]
def f216x3 : List AOper := [
  Ls 29 2 4,
  Ls 30 2 5,
  Ct 31 237 [29, 30],
  Un 32 .not 31,
  Mv 33 32,
  Gf 33 (Ls 34 2 5),
  Gf 33 (Ls 35 2 6),
  Gf 33 (Ct 36 237 [34, 35]),
  Gf 33 (Un 37 .not 36),
  Po 38 33 37,
  Mv 39 38,
  Gf 39 (Ls 40 2 4),
  Gf 39 (Ls 41 2 6),
  Gf 39 (Ct 42 237 [40, 41]),
  Po 43 39 42,
  Mv 44 43,
  Gt 44 (Ct 45 226 []),
  Pa 46 44 45,
  Mv 8 46]
def f216 : AFunc := ⟨47, 4, false, [.t 8], (.seq (.region f216x0 false) (.seq (.seq (.region f216x1 false) (.cond (.t 28) (.seq (.region f216x2 false) .ret) .skip)) (.seq (.region f216x3 false) .ret)))⟩
def f217x0 : List AOper := [
  Op 3 (.box (.t 0)),
  Op 4 (.box (.t 1)),
  Mc 6 (.bool false)]
def f217x1 : List AOper := [
  Mv 11 2,
  Fa 12 1 4,
  Ld 13 12,
  Ct 14 236 [11, 13],
  Mv 10 14,
  Ex 15 10 0,
  Ex 16 10 1,
  Op 7 (.alloc (.agg [.int .u32 0, .int .i64 0])),
  St 2 7 15,
  Mv 8 16]
def f217x2 : List AOper := [
  Fa 17 1 4,
  Ld 18 17,
  Bc 19 .lss 18 0,
  Mv 20 19,
  Gf 20 (Fa 21 1 4),
  Gf 20 (Ld 22 21),
  Gf 20 (Bc 23 .gtr 22 32),
  Po 24 20 23]
def f217x3 : List AOper := [
  Mv 25 8,
  Bc 26 .neq 25 5,
  Mv 27 26,
  Gf 27 (Ls 28 2 7),
  Gf 27 (Op 29 (.build [.int .u32 0, .int .i64 0] [] [])),
  Gf 27 (Op 30 (.eqs [.int, .int] true (.t 28) (.t 29))),
  Po 31 27 30]
def f217x4 : List AOper := [
  Mc 6 (.bool false)]
def f217x5 : List AOper := [
  Mv 32 8,
  Bc 33 .neq 32 0,
  Mv 34 33,
  Gf 34 (Ls 35 2 7),
  Gf 34 (Mv 36 2),
  Gf 34 (Fa 37 1 4),
  Gf 34 (Ld 38 37),
  Af [6] (Gf 34 (Ct 39 238 [36, 38])),
  Gf 34 (Op 40 (.eqs [.int, .int] true (.t 35) (.t 39))),
  Po 41 34 40]
def f217x6 : List AOper := [
  Mc 6 (.bool false)]
def f217x7 : List AOper := [
  Ls 42 2 3,
  Ls 43 2 4,
  Ct 44 239 [42, 43],
  Mv 45 44,
  Gf 45 (Ls 46 2 4),
  Gf 45 (Ls 47 2 3),
  Gf 45 (Ct 48 239 [46, 47]),
  Po 49 45 48,
  Mv 9 49]
def f217x8 : List AOper := [
  Ls 50 2 3,
  Af [0] (Ct 51 178 [50]),
  Ls 52 2 3,
  Af [2, 1, 0] (Ct 53 179 [52]),
  Op 54 (.eqb false (.t 51) (.t 53)),
  Mv 55 54,
  Af [3, 2, 1, 0] (Gt 55 (Ls 56 2 3)),
  Gt 55 (Mv 57 2),
  Af [6, 3, 2, 1, 0] (Gt 55 (Ct 58 235 [56, 57])),
  Af [3, 2, 1, 0] (Gt 55 (Ls 59 2 3)),
  Gt 55 (Mv 60 2),
  Af [9, 8, 6, 3, 2, 1, 0] (Gt 55 (Ct 61 240 [59, 60])),
  Gt 55 (Op 62 (.eqb false (.t 58) (.t 61))),
  Pa 63 55 62,
  Mv 64 63,
  Af [11, 9, 8, 6, 3, 2, 1, 0] (Gt 64 (Ls 65 2 3)),
  Af [11, 9, 8, 6, 3, 2, 1, 0] (Gt 64 (Ls 66 2 4)),
  Af [15, 16, 11, 9, 8, 6, 3, 2, 1, 0] (Gt 64 (Ct 67 237 [65, 66])),
  Af [11, 9, 8, 6, 3, 2, 1, 0] (Gt 64 (Ls 68 2 3)),
  Af [11, 9, 8, 6, 3, 2, 1, 0] (Gt 64 (Ls 69 2 4)),
  Af [18, 19, 17, 15, 16, 11, 9, 8, 6, 3, 2, 1, 0] (Gt 64 (Ct 70 239 [68, 69])),
  Gt 64 (Op 71 (.eqb false (.t 67) (.t 70))),
  Pa 72 64 71,
  Mv 73 72,
  Af [20, 18, 19, 17, 15, 16, 11, 9, 8, 6, 3, 2, 1, 0] (Gt 73 (Ls 74 2 3)),
  Af [20, 18, 19, 17, 15, 16, 11, 9, 8, 6, 3, 2, 1, 0] (Gt 73 (Ls 75 2 4)),
  Af [24, 25, 20, 18, 19, 17, 15, 16, 11, 9, 8, 6, 3, 2, 1, 0] (Gt 73 (Ct 76 241 [74, 75])),
  Gt 73 (Mv 77 9),
  Gt 73 (Op 78 (.eqb false (.t 76) (.t 77))),
  Pa 79 73 78,
  Mv 80 79,
  Af [26, 24, 25, 20, 18, 19, 17, 15, 16, 11, 9, 8, 6, 3, 2, 1, 0] (Gt 80 (Ct 81 226 [])),
  Pa 82 80 81,
  Mv 6 82]
def f217 : AFunc := ⟨83, 3, false, [.t 6], (.seq (.region f217x0 false) (.seq (.region f217x1 false) (.seq (.seq (.region f217x2 false) (.cond (.t 24) (.seq (.region f217x3 false) (.cond (.t 31) (.seq (.region f217x4 false) .ret) .skip)) (.seq (.region f217x5 true) (.cond (.t 41) (.seq (.region f217x6 false) .ret) .skip)))) (.seq (.region f217x7 false) (.seq (.region f217x8 true) .ret)))))⟩
def f218x0 : List AOper := [
  Op 3 (.box (.t 0)),
  Op 4 (.box (.t 1)),
  Op 5 (.box (.t 2)),
  Mc 6 (.bool false)]
def f218x1 : List AOper := [
  Ls 9 2 3,
  Ls 10 2 4,
  Af [0, 1] (Ct 11 172 [9, 10]),
  Ls 12 2 4,
  Ls 13 2 5,
  Af [3, 4, 2, 0, 1] (Ct 14 172 [12, 13]),
  Mv 7 11,
  Mv 8 14]
def f218x2 : List AOper := [
  Mv 15 7,
  Ls 16 2 3,
  Ls 17 2 4,
  Ct 18 180 [16, 17],
  Bi 19 .neq 15 18,
  Mv 20 19,
  Gf 20 (Ls 21 2 4),
  Gf 20 (Ls 22 2 3),
  Gf 20 (Ct 23 172 [21, 22]),
  Gf 20 (Mv 24 7),
  Gf 20 (Un 25 .neg 24),
  Gf 20 (Bi 26 .neq 23 25),
  Po 27 20 26,
  Mv 28 27,
  Gf 28 (Mv 29 7),
  Gf 28 (Bc 30 .eql 29 0),
  Gf 28 (Ls 31 2 3),
  Gf 28 (Ls 32 2 4),
  Gf 28 (Op 33 (.eqs [.int, .int] false (.t 31) (.t 32))),
  Gf 28 (Op 34 (.eqb true (.t 30) (.t 33))),
  Po 35 28 34]
def f218x3 : List AOper := [
  Mc 6 (.bool false)]
def f218x4 : List AOper := [
  Mv 36 7,
  Bc 37 .gtr 36 0,
  Mv 38 37,
  Gf 38 (Mv 39 8),
  Gf 38 (Bc 40 .gtr 39 0),
  Po 41 38 40,
  Mv 42 41,
  Gf 42 (Ls 43 2 3),
  Gf 42 (Ls 44 2 5),
  Gf 42 (Ct 45 172 [43, 44]),
  Gf 42 (Bc 46 .leq 45 0),
  Po 47 42 46,
  Mv 48 47,
  Gt 48 (Ct 49 226 []),
  Pa 50 48 49,
  Mv 6 50]
def f218 : AFunc := ⟨51, 3, false, [.t 6], (.seq (.region f218x0 false) (.seq (.region f218x1 true) (.seq (.seq (.region f218x2 false) (.cond (.t 35) (.seq (.region f218x3 false) .ret) .skip)) (.seq (.region f218x4 false) .ret))))⟩
def f219x0 : List AOper := [
  Mc 2 (.bool false)]
def f219x1 : List AOper := [
  Mv 3 0,
  Ln 4 0 3,
  Bc 5 .gtr 4 100]
def f219x2 : List AOper := [
  Ct 6 226 [],
  Mv 2 6]
def f219x3 : List AOper := [
  Mv 7 0,
  Ct 8 242 [7],
  Mv 9 0,
  Ct 10 243 [9],
  Ct 11 139 [8, 10],
  Mv 12 11,
  Gt 12 (Ct 13 226 []),
  Pa 14 12 13,
  Mv 2 14]
def f219 : AFunc := ⟨15, 1, false, [.t 2], (.seq (.region f219x0 false) (.seq (.seq (.region f219x1 false) (.cond (.t 5) (.seq (.region f219x2 false) .ret) .skip)) (.seq (.region f219x3 false) .ret)))⟩
def f179x0 : List AOper := [
  Op 1 (.box (.t 0)),
  Mc 2 (.bool false)]
def f179x1 : List AOper := [
  Fa 3 1 1,
  Ld 4 3,
  Bc 5 .geq 4 0,
  Mv 6 5,
  Gt 6 (Fa 7 1 1),
  Af [1] (Gt 6 (Ld 8 7)),
  Gt 6 (Bc 9 .leq 8 32),
  Pa 10 6 9,
  Mv 11 10,
  Gt 11 (Fa 12 0 1),
  Af [5, 1] (Gt 11 (Ld 13 12)),
  Gt 11 (Fa 14 1 1),
  Af [5, 1] (Gt 11 (Ld 15 14)),
  Af [10, 12, 5, 1] (Gt 11 (Ct 16 182 [13, 15])),
  Gt 11 (Fa 17 0 1),
  Af [5, 1] (Gt 11 (Ld 18 17)),
  Gt 11 (Bi 19 .eql 16 18),
  Pa 20 11 19,
  Mv 2 20]
def f179 : AFunc := ⟨21, 1, false, [.t 2], (.seq (.region f179x0 false) (.seq (.region f179x1 true) .ret))⟩
def f220x0 : List AOper := [
  Op 1 (.box (.t 0)),
  Mc 2 (.int .u32 0)]
def f220x1 : List AOper := [
  Fa 3 0 1,
  Ld 4 3,
  Fa 5 1 1,
  Ld 6 5,
  Af [3] (Ct 7 244 [6]),
  Op 8 (.bin .sub (.c (.int .u32 4294967295)) (.t 7)),
  Bi 9 .or 4 8,
  Mv 2 9]
def f220 : AFunc := ⟨10, 1, false, [.t 2], (.seq (.region f220x0 false) (.seq (.region f220x1 true) .ret))⟩
def f221x0 : List AOper := [
  Op 1 (.box (.t 0)),
  Op 2 (.alloc (.agg [.int .u32 0, .int .i64 0])),
  Mc 3 (.bool false)]
def f221x1 : List AOper := [
  Ls 4 2 1,
  Ct 5 178 [4],
  Un 6 .not 5,
  Mv 7 6,
  Gf 7 (Fa 8 1 1),
  Gf 7 (Ld 9 8),
  Gf 7 (Bc 10 .eql 9 0),
  Po 11 7 10]
def f221x2 : List AOper := [
  Op 12 (.build [.int .u32 0, .int .i64 0] [] []),
  St 2 2 12,
  Mc 3 (.bool false)]
def f221x3 : List AOper := [
  Fa 13 0 1,
  Ld 14 13,
  Fa 15 1 1,
  Ld 16 15,
  Bc 17 .sub 16 1,
  Ct 18 245 [14, 17],
  St 2 2 18,
  Mc 3 (.bool true)]
def f221 : AFunc := ⟨19, 1, false, [.cell 2 (some 2), .t 3], (.seq (.region f221x0 false) (.seq (.seq (.region f221x1 false) (.cond (.t 11) (.seq (.region f221x2 false) .ret) .skip)) (.seq (.region f221x3 false) .ret)))⟩
def f222x0 : List AOper := [
  Op 1 (.box (.t 0)),
  Op 2 (.alloc (.agg [.int .u32 0, .int .i64 0])),
  Mc 3 (.bool false)]
def f222x1 : List AOper := [
  Ls 4 2 1,
  Ct 5 179 [4],
  Un 6 .not 5,
  Mv 7 6,
  Gf 7 (Fa 8 1 1),
  Gf 7 (Ld 9 8),
  Gf 7 (Bc 10 .eql 9 0),
  Po 11 7 10]
def f222x2 : List AOper := [
  Op 12 (.build [.int .u32 0, .int .i64 0] [] []),
  St 2 2 12,
  Mc 3 (.bool false)]
def f222x3 : List AOper := [
  Fa 13 0 1,
  Ld 14 13,
  Fa 15 1 1,
  Ld 16 15,
  Bc 17 .sub 16 1,
  Ct 18 238 [14, 17],
  St 2 2 18,
  Mc 3 (.bool true)]
def f222 : AFunc := ⟨19, 1, false, [.cell 2 (some 2), .t 3], (.seq (.region f222x0 false) (.seq (.seq (.region f222x1 false) (.cond (.t 11) (.seq (.region f222x2 false) .ret) .skip)) (.seq (.region f222x3 false) .ret)))⟩
def f223x0 : List AOper := [
  Op 1 (.box (.t 0)),
  Op 2 (.alloc (.agg [.int .u32 0, .int .i64 0])),
  Op 3 (.alloc (.agg [.int .u32 0, .int .i64 0])),
  Mc 4 (.bool false)]
def f223x1 : List AOper := [
  Ls 5 2 1,
  Ct 6 178 [5],
  Un 7 .not 6,
  Mv 8 7,
  Gf 8 (Fa 9 1 1),
  Gf 8 (Ld 10 9),
  Gf 8 (Bc 11 .eql 10 32),
  Po 12 8 11]
def f223x2 : List AOper := [
  Op 13 (.build [.int .u32 0, .int .i64 0] [] []),
  Op 14 (.build [.int .u32 0, .int .i64 0] [] []),
  St 2 2 13,
  St 2 3 14,
  Mc 4 (.bool false)]
def f223x3 : List AOper := [
  Fa 15 0 1,
  Ld 16 15,
  Fa 17 1 1,
  Ld 18 17,
  Bc 19 .add 18 1,
  Af [1, 3] (Ct 20 245 [16, 19]),
  Ls 21 2 1,
  Af [6, 5, 1, 3] (Ct 22 225 [21]),
  Fa 23 1 1,
  Ld 24 23,
  Bc 25 .add 24 1,
  Af [7, 9, 6, 5, 1, 3] (Ct 26 245 [22, 25]),
  Af [11, 7, 9, 6, 5, 1, 3] (St 2 2 20),
  Af [12, 11, 7, 9, 6, 5, 1, 3] (St 2 3 26),
  Mc 4 (.bool true)]
def f223 : AFunc := ⟨27, 1, false, [.cell 2 (some 2), .cell 3 (some 2), .t 4], (.seq (.region f223x0 false) (.seq (.seq (.region f223x1 false) (.cond (.t 12) (.seq (.region f223x2 false) .ret) .skip)) (.seq (.region f223x3 true) .ret)))⟩
def f224x0 : List AOper := [
  Op 1 (.box (.t 0)),
  Op 2 (.alloc (.agg [.int .u32 0, .int .i64 0])),
  Op 3 (.alloc (.agg [.int .u32 0, .int .i64 0])),
  Mc 4 (.bool false)]
def f224x1 : List AOper := [
  Ls 5 2 1,
  Ct 6 179 [5],
  Un 7 .not 6,
  Mv 8 7,
  Gf 8 (Fa 9 1 1),
  Gf 8 (Ld 10 9),
  Gf 8 (Bc 11 .eql 10 32),
  Po 12 8 11]
def f224x2 : List AOper := [
  Op 13 (.build [.int .u32 0, .int .i64 0] [] []),
  Op 14 (.build [.int .u32 0, .int .i64 0] [] []),
  St 2 2 13,
  St 2 3 14,
  Mc 4 (.bool false)]
def f224x3 : List AOper := [
  Fa 15 0 1,
  Ld 16 15,
  Fa 17 1 1,
  Ld 18 17,
  Bc 19 .add 18 1,
  Op 20 (.build [.int .u32 0, .int .i64 0] [(0, 1), (1, 1)] [(.t 16), (.t 19)]),
  Fa 21 0 1,
  Ld 22 21,
  Fa 23 1 1,
  Ld 24 23,
  Op 25 (.bin .sub (.c (.int .i64 31)) (.t 24)),
  Cv 26 .u64 25,
  Op 27 (.bin .shl (.c (.int .u32 1)) (.t 26)),
  Bi 28 .or 22 27,
  Fa 29 1 1,
  Ld 30 29,
  Bc 31 .add 30 1,
  Op 32 (.build [.int .u32 0, .int .i64 0] [(0, 1), (1, 1)] [(.t 28), (.t 31)]),
  Af [1, 3] (St 2 2 20),
  Af [18, 7, 9, 15, 1, 3] (St 2 3 32),
  Mc 4 (.bool true)]
def f224 : AFunc := ⟨33, 1, false, [.cell 2 (some 2), .cell 3 (some 2), .t 4], (.seq (.region f224x0 false) (.seq (.seq (.region f224x1 false) (.cond (.t 12) (.seq (.region f224x2 false) .ret) .skip)) (.seq (.region f224x3 true) .ret)))⟩
def f225x0 : List AOper := [
  Op 1 (.box (.t 0)),
  Mc 2 (.int .u32 0)]
def f225x1 : List AOper := [
  Ls 3 2 1,
  Ct 4 178 [3],
  Un 5 .not 4]
def f225x2 : List AOper := [
  Mc 2 (.int .u32 0)]
def f225x3 : List AOper := [
  Fa 6 0 1,
  Ld 7 6,
  Fa 8 1 1,
  Ld 9 8,
  Af [3] (Ct 10 183 [9]),
  Un 11 .xor 10,
  Bi 12 .or 7 11,
  Mv 2 12]
def f225 : AFunc := ⟨13, 1, false, [.t 2], (.seq (.region f225x0 false) (.seq (.seq (.region f225x1 false) (.cond (.t 5) (.seq (.region f225x2 false) .ret) .skip)) (.seq (.region f225x3 true) .ret)))⟩
def f226x0 : List AOper := [
  Mc 0 (.bool false)]
def f226x1 : List AOper := [
  Ca 13 236 [(.c (.int .u32 167838211)), (.c (.int .i64 23))],
  Mv 12 13,
  Ex 14 12 0,
  Ex 15 12 1,
  Op 1 (.alloc (.agg [.int .u32 0, .int .i64 0])),
  St 2 1 14,
  Mv 2 15]
def f226x2 : List AOper := [
  Ls 17 2 1,
  Ct 18 223 [17],
  Mv 16 18,
  Ex 19 16 0,
  Ex 20 16 1,
  Ex 21 16 2,
  Op 3 (.alloc (.agg [.int .u32 0, .int .i64 0])),
  Op 4 (.alloc (.agg [.int .u32 0, .int .i64 0])),
  St 2 3 19,
  St 2 4 20,
  Mv 5 21]
def f226x3 : List AOper := [
  Ls 23 2 1,
  Ct 24 221 [23],
  Mv 22 24,
  Ex 25 22 0,
  Ex 26 22 1,
  Op 6 (.alloc (.agg [.int .u32 0, .int .i64 0])),
  St 2 6 25,
  Mv 7 26]
def f226x4 : List AOper := [
  Ca 28 233 [(.c (.str [49, 48, 46, 48, 46, 48, 46, 49, 47, 56]))],
  Mv 27 28,
  Ex 29 27 0,
  Ex 30 27 1,
  Op 8 (.alloc (.agg [.int .u32 0, .int .i64 0])),
  St 2 8 29,
  Mv 9 30]
def f226x5 : List AOper := [
  Ca 32 233 [(.c (.str [49, 48, 46, 48, 46, 48, 46, 48, 47, 48, 56]))],
  Mv 31 32,
  Ex 33 31 0,
  Ex 34 31 1,
  Op 10 (.alloc (.agg [.int .u32 0, .int .i64 0])),
  St 2 10 33,
  Mv 11 34]
def f226x6 : List AOper := [
  Mv 35 2,
  Bc 36 .eql 35 0,
  Mv 37 36,
  Gt 37 (Mv 38 5),
  Pa 39 37 38,
  Mv 40 39,
  Gt 40 (Mv 41 7),
  Pa 42 40 41,
  Mv 43 42,
  Gt 43 (Mv 44 9),
  Gt 43 (Bc 45 .eql 44 1),
  Pa 46 43 45,
  Mv 47 46,
  Gt 47 (Mv 48 11),
  Gt 47 (Bc 49 .eql 48 2),
  Pa 50 47 49,
  Mv 51 50,
  Gt 51 (Ls 52 2 1),
  Gt 51 (Ct 53 229 [52]),
  Gt 51 (Op 54 (.bin .eql (.t 53) (.c (.str [49, 48, 46, 49, 46, 50, 46, 48, 47, 50, 51])))),
  Pa 55 51 54,
  Mv 56 55,
  Gt 56 (Ls 57 2 1),
  Gt 56 (Ct 58 225 [57]),
  Gt 56 (Ct 59 227 [58]),
  Gt 56 (Op 60 (.bin .eql (.t 59) (.c (.str [49, 48, 46, 49, 46, 51, 46, 50, 53, 53])))),
  Pa 61 56 60,
  Mv 62 61,
  Gt 62 (Ls 63 2 3),
  Gt 62 (Ct 64 229 [63]),
  Gt 62 (Op 65 (.bin .eql (.t 64) (.c (.str [49, 48, 46, 49, 46, 50, 46, 48, 47, 50, 52])))),
  Pa 66 62 65,
  Mv 67 66,
  Gt 67 (Ls 68 2 4),
  Gt 67 (Ct 69 229 [68]),
  Gt 67 (Op 70 (.bin .eql (.t 69) (.c (.str [49, 48, 46, 49, 46, 51, 46, 48, 47, 50, 52])))),
  Pa 71 67 70,
  Mv 72 71,
  Gt 72 (Ls 73 2 6),
  Gt 72 (Ct 74 229 [73]),
  Gt 72 (Op 75 (.bin .eql (.t 74) (.c (.str [49, 48, 46, 49, 46, 48, 46, 48, 47, 50, 50])))),
  Pa 76 72 75,
  Mv 0 76]
def f226 : AFunc := ⟨77, 0, false, [.t 0], (.seq (.region f226x0 false) (.seq (.region f226x1 false) (.seq (.region f226x2 false) (.seq (.region f226x3 false) (.seq (.region f226x4 false) (.seq (.region f226x5 false) (.seq (.region f226x6 false) .ret)))))))⟩
def f227x0 : List AOper := [
  Mc 2 (.str [])]
def f227x1 : List AOper := [
  Op 3 (.alloc (.agg [.str [], .str [], .str [], .str []]))]
def f227x2 : List AOper := [
  Mc 5 (.int .i64 0)]
def f227x3 : List AOper := [
  Bc 6 .lss 5 4]
def f227x4 : List AOper := [
  Mv 7 5,
  Mv 4 7]
def f227x5 : List AOper := [
  Mv 8 4,
  Mv 9 0,
  Mv 10 4,
  Op 11 (.bin .mul (.c (.int .i64 8)) (.t 10)),
  Op 12 (.bin .sub (.c (.int .i64 24)) (.t 11)),
  Bi 13 .shr 9 12,
  Op 14 (.bin .and (.t 13) (.c (.int .u32 255))),
  Cv 15 .i64 14,
  Ct 16 246 [15],
  Op 17 (.iarr 4 1 (.t 3) (.t 8)),
  St 1 17 16]
def f227x6 : List AOper := [
  Bc 18 .add 5 1,
  Mv 5 18]
def f227x7L : ACode := (.seq (.region f227x3 false) (.seq (.cond (.t 6) .skip (.exit 0)) (.seq (.block 1 (.seq (.region f227x4 false) (.region f227x5 false))) (.region f227x6 false))))
def f227x8 : List AOper := [
  Op 19 (.slarr 4 1 (.t 3) none none none),
  Ca 20 247 [(.t 19), (.c (.str [46]))],
  Mv 2 20]
def f227 : AFunc := ⟨21, 1, false, [.t 2], (.seq (.region f227x0 false) (.seq (.region f227x1 false) (.seq (.seq (.region f227x2 false) (.block 0 (.loop f227x7L))) (.seq (.region f227x8 false) .ret))))⟩
def f228x0 : List AOper := [
  Mc 2 (.str [])]
def f228x1 : List AOper := [
  Mv 3 0,
  Op 4 (.bin .shr (.t 3) (.c (.int .u64 24))),
  Cv 5 .i64 4,
  Ct 6 248 [5],
  Op 7 (.bin .add (.t 6) (.c (.str [46]))),
  Mv 8 0,
  Op 9 (.bin .shr (.t 8) (.c (.int .u64 16))),
  Op 10 (.bin .and (.t 9) (.c (.int .u32 255))),
  Cv 11 .i64 10,
  Ct 12 248 [11],
  Bi 13 .add 7 12,
  Op 14 (.bin .add (.t 13) (.c (.str [46]))),
  Mv 15 0,
  Op 16 (.bin .shr (.t 15) (.c (.int .u64 8))),
  Op 17 (.bin .and (.t 16) (.c (.int .u32 255))),
  Cv 18 .i64 17,
  Ct 19 248 [18],
  Bi 20 .add 14 19,
  Op 21 (.bin .add (.t 20) (.c (.str [46]))),
  Mv 22 0,
  Op 23 (.bin .and (.t 22) (.c (.int .u32 255))),
  Cv 24 .i64 23,
  Ct 25 248 [24],
  Bi 26 .add 21 25,
  Mv 2 26]
def f228 : AFunc := ⟨27, 1, false, [.t 2], (.seq (.region f228x0 false) (.seq (.region f228x1 false) .ret))⟩
def f229x0 : List AOper := [
  Op 1 (.box (.t 0)),
  Mc 2 (.str [])]
def f229x1 : List AOper := [
  Ls 3 2 1,
  Ct 4 178 [3],
  Un 5 .not 4]
def f229x2 : List AOper := [
  Mc 2 (.str [])]
def f229x3 : List AOper := [
  Fa 6 0 1,
  Ld 7 6,
  Af [1] (Ct 8 227 [7]),
  Op 9 (.bin .add (.t 8) (.c (.str [47]))),
  Fa 10 1 1,
  Ld 11 10,
  Af [5, 2, 1] (Ct 12 246 [11]),
  Bi 13 .add 9 12,
  Mv 2 13]
def f229 : AFunc := ⟨14, 1, false, [.t 2], (.seq (.region f229x0 false) (.seq (.seq (.region f229x1 false) (.cond (.t 5) (.seq (.region f229x2 false) .ret) .skip)) (.seq (.region f229x3 true) .ret)))⟩
def f230x0 : List AOper := [
  Op 1 (.box (.t 0)),
  Mc 2 (.str [])]
def f230x1 : List AOper := [
  Ls 3 2 1,
  Ct 4 179 [3],
  Un 5 .not 4]
def f230x2 : List AOper := [
  Mc 2 (.str [])]
def f230x3 : List AOper := [
  Fa 6 0 1,
  Ld 7 6,
  Af [1] (Ct 8 228 [7]),
  Op 9 (.bin .add (.t 8) (.c (.str [47]))),
  Fa 10 1 1,
  Ld 11 10,
  Af [5, 2, 1] (Ct 12 248 [11]),
  Bi 13 .add 9 12,
  Mv 2 13]
def f230 : AFunc := ⟨14, 1, false, [.t 2], (.seq (.region f230x0 false) (.seq (.seq (.region f230x1 false) (.cond (.t 5) (.seq (.region f230x2 false) .ret) .skip)) (.seq (.region f230x3 true) .ret)))⟩
def f231x0 : List AOper := [
  Mc 2 (.int .u32 0),
  Mc 3 (.int .i64 0)]
def f231x1 : List AOper := [
  Mv 10 0,
  Ca 11 249 [(.t 10), (.c (.str [46]))],
  Mv 4 11]
def f231x2 : List AOper := [
  Mv 12 4,
  Ln 13 0 12,
  Bc 14 .neq 13 4]
def f231x3 : List AOper := [
  Mc 2 (.int .u32 0),
  Mc 3 (.int .i64 2)]
def f231x4 : List AOper := [
  Mc 5 (.int .u32 0)]
def f231x5 : List AOper := [
  Mv 15 4,
  Ln 16 0 15,
  Mc 17 (.int .i64 0)]
def f231x6 : List AOper := [
  Bi 18 .lss 17 16]
def f231x7 : List AOper := [
  Ia 19 1 15 17,
  Ld 20 19,
  Mv 7 20]
def f231x8 : List AOper := [
  Mv 22 7,
  Ca 23 250 [(.t 22), (.c (.int .i64 255))],
  Mv 21 23,
  Ex 24 21 0,
  Ex 25 21 1,
  Mv 8 24,
  Mv 9 25]
def f231x9 : List AOper := [
  Mv 26 9,
  Un 27 .not 26]
def f231x10 : List AOper := [
  Mc 2 (.int .u32 0),
  Mc 3 (.int .i64 2)]
def f231x11 : List AOper := [
  Mv 28 5,
  Op 29 (.bin .shl (.t 28) (.c (.int .u64 8))),
  Mv 30 8,
  Cv 31 .u32 30,
  Bi 32 .or 29 31,
  Mv 5 32]
def f231x12 : List AOper := [
  Bc 33 .add 17 1,
  Mv 17 33]
def f231x13L : ACode := (.seq (.region f231x6 false) (.seq (.cond (.t 18) .skip (.exit 0)) (.seq (.block 1 (.seq (.region f231x7 false) (.seq (.region f231x8 false) (.seq (.seq (.region f231x9 false) (.cond (.t 27) (.seq (.region f231x10 false) .ret) .skip)) (.region f231x11 false))))) (.region f231x12 false))))
def f231x14 : List AOper := [
  Mv 34 5,
  Mv 2 34,
  Mc 3 (.int .i64 0)]
def f231 : AFunc := ⟨35, 1, false, [.t 2, .t 3], (.seq (.region f231x0 false) (.seq (.region f231x1 false) (.seq (.seq (.region f231x2 false) (.cond (.t 14) (.seq (.region f231x3 false) .ret) .skip)) (.seq (.region f231x4 false) (.seq (.seq (.region f231x5 false) (.block 0 (.loop f231x13L))) (.seq (.region f231x14 false) .ret))))))⟩
def f232x0 : List AOper := [
  Mc 2 (.int .u32 0),
  Mc 3 (.int .i64 0)]
def f232x1 : List AOper := [
  Mv 7 0,
  Ct 8 251 [7],
  Mv 6 8,
  Ex 9 6 0,
  Ex 10 6 1,
  Mv 4 9,
  Mv 5 10]
def f232x2 : List AOper := [
  Mv 11 5,
  Mv 12 0,
  Ln 13 1 12,
  Bi 14 .neq 11 13]
def f232x3 : List AOper := [
  Mc 2 (.int .u32 0),
  Mc 3 (.int .i64 2)]
def f232x4 : List AOper := [
  Mv 15 4,
  Mv 2 15,
  Mc 3 (.int .i64 0)]
def f232 : AFunc := ⟨16, 1, false, [.t 2, .t 3], (.seq (.region f232x0 false) (.seq (.region f232x1 false) (.seq (.seq (.region f232x2 false) (.cond (.t 14) (.seq (.region f232x3 false) .ret) .skip)) (.seq (.region f232x4 false) .ret))))⟩
def f233x0 : List AOper := [
  Op 2 (.alloc (.agg [.int .u32 0, .int .i64 0])),
  Mc 3 (.int .i64 0)]
def f233x1 : List AOper := [
  Mv 13 0,
  Ca 14 252 [(.t 13), (.c (.str [47]))],
  Mv 12 14,
  Ex 15 12 0,
  Ex 16 12 1,
  Ex 17 12 2,
  Mv 4 15,
  Mv 5 16,
  Mv 6 17]
def f233x2 : List AOper := [
  Mv 19 4,
  Ct 20 231 [19],
  Mv 18 20,
  Ex 21 18 0,
  Ex 22 18 1,
  Mv 7 21,
  Mv 8 22]
def f233x3 : List AOper := [
  Mv 24 5,
  Ca 25 250 [(.t 24), (.c (.int .i64 32))],
  Mv 23 25,
  Ex 26 23 0,
  Ex 27 23 1,
  Mv 9 26,
  Mv 10 27]
def f233x4 : List AOper := [
  Mv 28 6,
  Un 29 .not 28,
  Mv 30 29,
  Gf 30 (Mv 31 8),
  Gf 30 (Bc 32 .neq 31 0),
  Po 33 30 32,
  Mv 34 33,
  Gf 34 (Mv 35 10),
  Gf 34 (Un 36 .not 35),
  Po 37 34 36]
def f233x5 : List AOper := [
  Op 38 (.build [.int .u32 0, .int .i64 0] [] []),
  St 2 2 38,
  Mc 3 (.int .i64 2)]
def f233x6 : List AOper := [
  Mv 39 7,
  Mv 40 9,
  Op 41 (.build [.int .u32 0, .int .i64 0] [(0, 1), (1, 1)] [(.t 39), (.t 40)]),
  Op 11 (.alloc (.agg [.int .u32 0, .int .i64 0])),
  St 2 11 41]
def f233x7 : List AOper := [
  Ls 42 2 11,
  Ct 43 178 [42],
  Un 44 .not 43]
def f233x8 : List AOper := [
  Op 45 (.build [.int .u32 0, .int .i64 0] [] []),
  St 2 2 45,
  Mc 3 (.int .i64 1)]
def f233x9 : List AOper := [
  Ls 46 2 11,
  St 2 2 46,
  Mc 3 (.int .i64 0)]
def f233 : AFunc := ⟨47, 1, false, [.cell 2 (some 2), .t 3], (.seq (.region f233x0 false) (.seq (.region f233x1 false) (.seq (.region f233x2 false) (.seq (.region f233x3 false) (.seq (.seq (.region f233x4 false) (.cond (.t 37) (.seq (.region f233x5 false) .ret) .skip)) (.seq (.region f233x6 false) (.seq (.seq (.region f233x7 false) (.cond (.t 44) (.seq (.region f233x8 false) .ret) .skip)) (.seq (.region f233x9 false) .ret))))))))⟩
def f234x0 : List AOper := [
  Op 2 (.alloc (.agg [.int .u32 0, .int .i64 0])),
  Mc 3 (.int .i64 0)]
def f234x1 : List AOper := [
  Mv 10 0,
  Ct 11 251 [10],
  Mv 9 11,
  Ex 12 9 0,
  Ex 13 9 1,
  Mv 4 12,
  Mv 5 13]
def f234x2 : List AOper := [
  Mv 14 5,
  Bc 15 .lss 14 0,
  Mv 16 15,
  Gf 16 (Mv 17 5),
  Gf 16 (Mv 18 0),
  Gf 16 (Ln 19 1 18),
  Gf 16 (Bi 20 .geq 17 19),
  Po 21 16 20,
  Mv 22 21,
  Gf 22 (Mv 23 0),
  Gf 22 (Mv 24 5),
  Gf 22 (Op 25 (.istr (.t 23) (.t 24))),
  Gf 22 (Op 26 (.bin .neq (.t 25) (.c (.int .u8 47)))),
  Po 27 22 26]
def f234x3 : List AOper := [
  Op 28 (.build [.int .u32 0, .int .i64 0] [] []),
  St 2 2 28,
  Mc 3 (.int .i64 2)]
def f234x4 : List AOper := [
  Mv 30 0,
  Mv 31 5,
  Bc 32 .add 31 1,
  Ca 33 253 [(.t 30), (.t 32), (.c (.int .i64 32))],
  Mv 29 33,
  Ex 34 29 0,
  Ex 35 29 1,
  Mv 6 34,
  Mv 7 35]
def f234x5 : List AOper := [
  Mv 36 7,
  Mv 37 0,
  Ln 38 1 37,
  Bi 39 .neq 36 38]
def f234x6 : List AOper := [
  Op 40 (.build [.int .u32 0, .int .i64 0] [] []),
  St 2 2 40,
  Mc 3 (.int .i64 2)]
def f234x7 : List AOper := [
  Mv 41 4,
  Mv 42 6,
  Op 43 (.build [.int .u32 0, .int .i64 0] [(0, 1), (1, 1)] [(.t 41), (.t 42)]),
  Op 8 (.alloc (.agg [.int .u32 0, .int .i64 0])),
  St 2 8 43]
def f234x8 : List AOper := [
  Ls 44 2 8,
  Ct 45 179 [44],
  Un 46 .not 45]
def f234x9 : List AOper := [
  Op 47 (.build [.int .u32 0, .int .i64 0] [] []),
  St 2 2 47,
  Mc 3 (.int .i64 1)]
def f234x10 : List AOper := [
  Ls 48 2 8,
  St 2 2 48,
  Mc 3 (.int .i64 0)]
def f234 : AFunc := ⟨49, 1, false, [.cell 2 (some 2), .t 3], (.seq (.region f234x0 false) (.seq (.region f234x1 false) (.seq (.seq (.region f234x2 false) (.cond (.t 27) (.seq (.region f234x3 false) .ret) .skip)) (.seq (.region f234x4 false) (.seq (.seq (.region f234x5 false) (.cond (.t 39) (.seq (.region f234x6 false) .ret) .skip)) (.seq (.region f234x7 false) (.seq (.seq (.region f234x8 false) (.cond (.t 46) (.seq (.region f234x9 false) .ret) .skip)) (.seq (.region f234x10 false) .ret))))))))⟩
def f178x0 : List AOper := [
  Op 1 (.box (.t 0)),
  Mc 2 (.bool false)]
def f178x1 : List AOper := [
  Fa 3 1 1,
  Ld 4 3,
  Bc 5 .geq 4 0,
  Mv 6 5,
  Gt 6 (Fa 7 1 1),
  Af [1] (Gt 6 (Ld 8 7)),
  Gt 6 (Bc 9 .leq 8 32),
  Pa 10 6 9,
  Mv 11 10,
  Gt 11 (Fa 12 0 1),
  Af [5, 1] (Gt 11 (Ld 13 12)),
  Gt 11 (Fa 14 1 1),
  Af [5, 1] (Gt 11 (Ld 15 14)),
  Af [10, 12, 5, 1] (Gt 11 (Ct 16 181 [13, 15])),
  Gt 11 (Fa 17 0 1),
  Af [5, 1] (Gt 11 (Ld 18 17)),
  Gt 11 (Bi 19 .eql 16 18),
  Pa 20 11 19,
  Mv 2 20]
def f178 : AFunc := ⟨21, 1, false, [.t 2], (.seq (.region f178x0 false) (.seq (.region f178x1 true) .ret))⟩
def f235x0 : List AOper := [
  Op 2 (.box (.t 0)),
  Mc 4 (.bool false)]
def f235x1 : List AOper := [
  Ls 5 2 2,
  Af [0] (Ct 6 178 [5]),
  Mv 7 6,
  Gt 7 (Mv 8 1),
  Gt 7 (Fa 9 1 2),
  Af [1, 0] (Gt 7 (Ld 10 9)),
  Af [5, 1, 0] (Gt 7 (Ct 11 245 [8, 10])),
  Af [1, 0] (Gt 7 (Ls 12 2 2)),
  Gt 7 (Op 13 (.eqs [.int, .int] false (.t 11) (.t 12))),
  Pa 14 7 13,
  Mv 4 14]
def f235 : AFunc := ⟨15, 2, false, [.t 4], (.seq (.region f235x0 false) (.seq (.region f235x1 true) .ret))⟩
def f236x0 : List AOper := [
  Op 4 (.alloc (.agg [.int .u32 0, .int .i64 0])),
  Mc 5 (.int .i64 0)]
def f236x1 : List AOper := [
  Mv 6 1,
  Bc 7 .lss 6 0,
  Mv 8 7,
  Gf 8 (Mv 9 1),
  Gf 8 (Bc 10 .gtr 9 32),
  Po 11 8 10]
def f236x2 : List AOper := [
  Op 12 (.build [.int .u32 0, .int .i64 0] [] []),
  St 2 4 12,
  Mc 5 (.int .i64 5)]
def f236x3 : List AOper := [
  Mv 13 0,
  Mv 14 1,
  Ct 15 245 [13, 14],
  St 2 4 15,
  Mc 5 (.int .i64 0)]
def f236 : AFunc := ⟨16, 2, false, [.cell 4 (some 2), .t 5], (.seq (.region f236x0 false) (.seq (.seq (.region f236x1 false) (.cond (.t 11) (.seq (.region f236x2 false) .ret) .skip)) (.seq (.region f236x3 false) .ret)))⟩
def f237x0 : List AOper := [
  Op 2 (.box (.t 0)),
  Op 3 (.box (.t 1)),
  Mc 4 (.bool false)]
def f237x1 : List AOper := [
  Ls 5 2 3,
  Ct 6 178 [5],
  Mv 7 6,
  Gt 7 (Fa 8 1 2),
  Gt 7 (Ld 9 8),
  Gt 7 (Fa 10 1 3),
  Gt 7 (Ld 11 10),
  Gt 7 (Bi 12 .leq 9 11),
  Pa 13 7 12,
  Mv 14 13,
  Gt 14 (Ls 15 2 2),
  Gt 14 (Fa 16 0 3),
  Gt 14 (Ld 17 16),
  Gt 14 (Ct 18 235 [15, 17]),
  Pa 19 14 18,
  Mv 4 19]
def f237 : AFunc := ⟨20, 2, false, [.t 4], (.seq (.region f237x0 false) (.seq (.region f237x1 false) .ret))⟩
def f238x0 : List AOper := [
  Op 4 (.alloc (.agg [.int .u32 0, .int .i64 0]))]
def f238x1 : List AOper := [
  Mv 5 0,
  Mv 6 1,
  Ct 7 182 [5, 6],
  Mv 8 1,
  Op 9 (.build [.int .u32 0, .int .i64 0] [(0, 1), (1, 1)] [(.t 7), (.t 8)]),
  St 2 4 9]
def f238 : AFunc := ⟨10, 2, false, [.cell 4 (some 2)], (.seq (.region f238x0 false) (.seq (.region f238x1 false) .ret))⟩
def f239x0 : List AOper := [
  Op 2 (.box (.t 0)),
  Op 3 (.box (.t 1)),
  Mc 4 (.bool false)]
def f239x1 : List AOper := [
  Ls 5 2 3,
  Ct 6 179 [5],
  Mv 7 6,
  Gt 7 (Ls 8 2 2),
  Gt 7 (Fa 9 0 3),
  Gt 7 (Ld 10 9),
  Gt 7 (Ct 11 240 [8, 10]),
  Pa 12 7 11,
  Mv 13 12,
  Gt 13 (Fa 14 1 2),
  Gt 13 (Ld 15 14),
  Gt 13 (Fa 16 1 3),
  Gt 13 (Ld 17 16),
  Gt 13 (Bi 18 .leq 15 17),
  Pa 19 13 18,
  Mv 4 19]
def f239 : AFunc := ⟨20, 2, false, [.t 4], (.seq (.region f239x0 false) (.seq (.region f239x1 false) .ret))⟩
def f240x0 : List AOper := [
  Op 2 (.box (.t 0)),
  Mc 4 (.bool false)]
def f240x1 : List AOper := [
  Ls 5 2 2,
  Af [0] (Ct 6 179 [5]),
  Mv 7 6,
  Gt 7 (Mv 8 1),
  Gt 7 (Fa 9 1 2),
  Af [1, 0] (Gt 7 (Ld 10 9)),
  Af [5, 1, 0] (Gt 7 (Ct 11 238 [8, 10])),
  Af [1, 0] (Gt 7 (Ls 12 2 2)),
  Gt 7 (Op 13 (.eqs [.int, .int] false (.t 11) (.t 12))),
  Pa 14 7 13,
  Mv 4 14]
def f240 : AFunc := ⟨15, 2, false, [.t 4], (.seq (.region f240x0 false) (.seq (.region f240x1 true) .ret))⟩
def f241x0 : List AOper := [
  Op 2 (.box (.t 0)),
  Op 3 (.box (.t 1)),
  Mc 4 (.bool false)]
def f241x1 : List AOper := [
  Ls 5 2 2,
  Ls 6 2 3,
  Ct 7 237 [5, 6],
  Mv 8 7,
  Gf 8 (Ls 9 2 3),
  Gf 8 (Ls 10 2 2),
  Gf 8 (Ct 11 237 [9, 10]),
  Po 12 8 11,
  Mv 4 12]
def f241 : AFunc := ⟨13, 2, false, [.t 4], (.seq (.region f241x0 false) (.seq (.region f241x1 false) .ret))⟩
def f172x0 : List AOper := [
  Op 2 (.box (.t 0)),
  Op 3 (.box (.t 1)),
  Mc 4 (.int .i64 0)]
def f172x1 : List AOper := [
  Fa 6 0 2,
  Ld 7 6,
  Fa 8 0 3,
  Ld 9 8,
  Bi 10 .lss 7 9,
  Mv 11 10,
  Gf 11 (Fa 12 0 2),
  Gf 11 (Ld 13 12),
  Gf 11 (Fa 14 0 3),
  Gf 11 (Ld 15 14),
  Gf 11 (Bi 16 .eql 13 15),
  Gf 11 (Mv 17 16),
  Gt 17 (Fa 18 1 2),
  Gt 17 (Ld 19 18),
  Gt 17 (Fa 20 1 3),
  Gt 17 (Ld 21 20),
  Gt 17 (Bi 22 .lss 19 21),
  Gf 11 (Pa 23 17 22),
  Po 24 11 23,
  Mv 5 24]
def f172x2 : List AOper := [
  Mc 4 (.int .i64 (-1))]
def f172x3 : List AOper := [
  Ls 26 2 2,
  Ls 27 2 3,
  Op 28 (.eqs [.int, .int] false (.t 26) (.t 27)),
  Mv 25 28]
def f172x4 : List AOper := [
  Mc 4 (.int .i64 0)]
def f172x5 : List AOper := [
  Mc 4 (.int .i64 1)]
def f172 : AFunc := ⟨29, 2, false, [.t 4], (.seq (.region f172x0 false) (.seq (.block 0 (.seq (.region f172x1 false) (.cond (.t 5) (.seq (.region f172x2 false) .ret) (.seq (.region f172x3 false) (.cond (.t 25) (.seq (.region f172x4 false) .ret) .skip))))) (.seq (.region f172x5 false) .ret)))⟩
def f180x0 : List AOper := [
  Op 2 (.box (.t 0)),
  Op 3 (.box (.t 1)),
  Mc 4 (.int .i64 0)]
def f180x1 : List AOper := [
  Fa 5 0 2,
  Ld 6 5,
  Fa 7 0 3,
  Ld 8 7,
  Bi 9 .neq 6 8]
def f180x2 : List AOper := [
  Fa 10 0 2,
  Ld 11 10,
  Fa 12 0 3,
  Ld 13 12,
  Bi 14 .lss 11 13]
def f180x3 : List AOper := [
  Mc 4 (.int .i64 (-1))]
def f180x4 : List AOper := [
  Mc 4 (.int .i64 1)]
def f180x5 : List AOper := [
  Fa 15 1 2,
  Ld 16 15,
  Fa 17 1 3,
  Ld 18 17,
  Bi 19 .lss 16 18]
def f180x6 : List AOper := [
  Mc 4 (.int .i64 (-1))]
def f180x7 : List AOper := [
  Fa 20 1 2,
  Ld 21 20,
  Fa 22 1 3,
  Ld 23 22,
  Bi 24 .gtr 21 23]
def f180x8 : List AOper := [
  Mc 4 (.int .i64 1)]
def f180x9 : List AOper := [
  Mc 4 (.int .i64 0)]
def f180 : AFunc := ⟨25, 2, false, [.t 4], (.seq (.region f180x0 false) (.seq (.seq (.region f180x1 false) (.cond (.t 9) (.seq (.seq (.region f180x2 false) (.cond (.t 14) (.seq (.region f180x3 false) .ret) .skip)) (.seq (.region f180x4 false) .ret)) .skip)) (.seq (.seq (.region f180x5 false) (.cond (.t 19) (.seq (.region f180x6 false) .ret) .skip)) (.seq (.seq (.region f180x7 false) (.cond (.t 24) (.seq (.region f180x8 false) .ret) .skip)) (.seq (.region f180x9 false) .ret)))))⟩
def f139x0 : List AOper := [
  Mc 4 (.bool false)]
def f139x1 : List AOper := [
  Mv 6 0,
  Ln 7 0 6,
  Mv 8 1,
  Ln 9 0 8,
  Bi 10 .neq 7 9]
def f139x2 : List AOper := [
  Mc 4 (.bool false)]
def f139x3 : List AOper := [
  Mv 11 0,
  Ln 12 0 11,
  Mc 13 (.int .i64 0)]
def f139x4 : List AOper := [
  Bi 14 .lss 13 12]
def f139x5 : List AOper := [
  Mv 15 13,
  Mv 5 15]
def f139x6 : List AOper := [
  Mv 16 0,
  Mv 17 5,
  Ia 18 2 16 17,
  Af [2] (Ls 19 2 18),
  Mv 20 1,
  Mv 21 5,
  Ia 22 2 20 21,
  Af [6] (Ls 23 2 22),
  Op 24 (.eqs [.int, .int] true (.t 19) (.t 23))]
def f139x7 : List AOper := [
  Mc 4 (.bool false)]
def f139x8 : List AOper := [
  Bc 25 .add 13 1,
  Mv 13 25]
def f139x9L : ACode := (.seq (.region f139x4 false) (.seq (.cond (.t 14) .skip (.exit 0)) (.seq (.block 1 (.seq (.region f139x5 false) (.seq (.region f139x6 true) (.cond (.t 24) (.seq (.region f139x7 false) .ret) .skip)))) (.region f139x8 false))))
def f139x10 : List AOper := [
  Mc 4 (.bool true)]
def f139 : AFunc := ⟨26, 2, false, [.t 4], (.seq (.region f139x0 false) (.seq (.seq (.region f139x1 false) (.cond (.t 10) (.seq (.region f139x2 false) .ret) .skip)) (.seq (.seq (.region f139x3 false) (.block 0 (.loop f139x9L))) (.seq (.region f139x10 false) .ret))))⟩
def f139x9LH : List AItem := [.inLoop f139x9L, .inBlock 0, .code (.seq (.region f139x10 false) .ret)]
def f242x0 : List AOper := [
  Mc 2 (.con (.slice none 0 0))]
def f242x1 : List AOper := [
  Mv 4 0,
  Ct 5 254 [4],
  Mv 3 5]
def f242x2 : List AOper := [
  Mv 6 3,
  Ca 7 255 [(.t 6), (.c (.fn 172 []))]]
def f242x3 : List AOper := [
  Mv 8 3,
  Ct 9 256 [8],
  Mv 2 9]
def f242 : AFunc := ⟨10, 1, false, [.t 2], (.seq (.region f242x0 false) (.seq (.region f242x1 false) (.seq (.region f242x2 false) (.seq (.region f242x3 false) .ret))))⟩
def f243x0 : List AOper := [
  Mc 2 (.con (.slice none 0 0))]
def f243x1 : List AOper := [
  Mc 3 (.con (.slice none 0 0))]
def f243x2 : List AOper := [
  Mv 5 0,
  Ln 6 0 5,
  Mc 7 (.int .i64 0)]
def f243x3 : List AOper := [
  Bi 8 .lss 7 6]
def f243x4 : List AOper := [
  Mv 9 7,
  Mv 4 9]
def f243x5 : List AOper := [
  Mv 10 3,
  Mv 11 0,
  Mv 12 4,
  Ia 13 2 11 12,
  Ls 14 2 13,
  Ct 15 257 [10, 14],
  Mv 3 15]
def f243x6 : List AOper := [
  Bc 16 .add 7 1,
  Mv 7 16]
def f243x7L : ACode := (.seq (.region f243x3 false) (.seq (.cond (.t 8) .skip (.exit 0)) (.seq (.block 1 (.seq (.region f243x4 false) (.region f243x5 false))) (.region f243x6 false))))
def f243x8 : List AOper := [
  Mv 17 3,
  Mv 2 17]
def f243 : AFunc := ⟨18, 1, false, [.t 2], (.seq (.region f243x0 false) (.seq (.region f243x1 false) (.seq (.seq (.region f243x2 false) (.block 0 (.loop f243x7L))) (.seq (.region f243x8 false) .ret))))⟩
def f243x7LH : List AItem := [.inLoop f243x7L, .inBlock 0, .code (.seq (.region f243x8 false) .ret)]
def f182x0 : List AOper := [
  Mc 4 (.int .u32 0)]
def f182x1 : List AOper := [
  Mc 5 (.int .u32 0)]
def f182x2 : List AOper := [
  Mv 7 1,
  Ca 8 184 [(.t 7), (.c (.int .i64 32))],
  Mc 9 (.int .i64 0)]
def f182x3 : List AOper := [
  Bi 10 .lss 9 8]
def f182x4 : List AOper := [
  Mv 11 9,
  Mv 6 11]
def f182x5 : List AOper := [
  Mv 12 5,
  Mv 13 0,
  Mv 14 6,
  Ct 15 185 [13, 14],
  Cv 16 .u32 15,
  Mv 17 6,
  Op 18 (.bin .sub (.c (.int .i64 31)) (.t 17)),
  Cv 19 .u64 18,
  Bi 20 .shl 16 19,
  Bi 21 .or 12 20,
  Mv 5 21]
def f182x6 : List AOper := [
  Bc 22 .add 9 1,
  Mv 9 22]
def f182x7L : ACode := (.seq (.region f182x3 false) (.seq (.cond (.t 10) .skip (.exit 0)) (.seq (.block 1 (.seq (.region f182x4 false) (.region f182x5 false))) (.region f182x6 false))))
def f182x8 : List AOper := [
  Mv 23 5,
  Mv 4 23]
def f182 : AFunc := ⟨24, 2, false, [.t 4], (.seq (.region f182x0 false) (.seq (.region f182x1 false) (.seq (.seq (.region f182x2 false) (.block 0 (.loop f182x7L))) (.seq (.region f182x8 false) .ret))))⟩
def f244x0 : List AOper := [
  Mc 2 (.int .u32 0)]
def f244x1 : List AOper := [
  Mc 3 (.int .u32 0)]
def f244x2 : List AOper := [
  Mv 5 0,
  Ca 6 184 [(.t 5), (.c (.int .i64 32))],
  Mc 7 (.int .i64 0)]
def f244x3 : List AOper := [
  Bi 8 .lss 7 6]
def f244x4 : List AOper := [
  Mv 9 7,
  Mv 4 9]
def f244x5 : List AOper := [
  Mv 10 3,
  Mv 11 4,
  Op 12 (.bin .sub (.c (.int .i64 31)) (.t 11)),
  Cv 13 .u64 12,
  Op 14 (.bin .shl (.c (.int .u32 1)) (.t 13)),
  Bi 15 .or 10 14,
  Mv 3 15]
def f244x6 : List AOper := [
  Bc 16 .add 7 1,
  Mv 7 16]
def f244x7L : ACode := (.seq (.region f244x3 false) (.seq (.cond (.t 8) .skip (.exit 0)) (.seq (.block 1 (.seq (.region f244x4 false) (.region f244x5 false))) (.region f244x6 false))))
def f244x8 : List AOper := [
  Mv 17 3,
  Mv 2 17]
def f244 : AFunc := ⟨18, 1, false, [.t 2], (.seq (.region f244x0 false) (.seq (.region f244x1 false) (.seq (.seq (.region f244x2 false) (.block 0 (.loop f244x7L))) (.seq (.region f244x8 false) .ret))))⟩
def f245x0 : List AOper := [
  Op 4 (.alloc (.agg [.int .u32 0, .int .i64 0]))]
def f245x1 : List AOper := [
  Mv 5 0,
  Mv 6 1,
  Ct 7 181 [5, 6],
  Mv 8 1,
  Op 9 (.build [.int .u32 0, .int .i64 0] [(0, 1), (1, 1)] [(.t 7), (.t 8)]),
  St 2 4 9]
def f245 : AFunc := ⟨10, 2, false, [.cell 4 (some 2)], (.seq (.region f245x0 false) (.seq (.region f245x1 false) .ret))⟩
def f183x0 : List AOper := [
  Mc 2 (.int .u32 0)]
def f183x1 : List AOper := [
  Mv 3 0,
  Ca 4 186 [(.t 3), (.c (.int .i64 32))],
  Op 5 (.bin .sub (.c (.int .i64 32)) (.t 4)),
  Op 6 (.bin .shl (.c (.int .u32 4294967295)) (.t 5)),
  Mv 2 6]
def f183 : AFunc := ⟨7, 1, false, [.t 2], (.seq (.region f183x0 false) (.seq (.region f183x1 false) .ret))⟩
def f246x0 : List AOper := [
  Mc 2 (.str [])]
def f246x1 : List AOper := [
  Mv 3 0,
  Ct 4 258 [3],
  Mv 2 4]
def f246 : AFunc := ⟨5, 1, false, [.t 2], (.seq (.region f246x0 false) (.seq (.region f246x1 false) .ret))⟩
def f248x0 : List AOper := [
  Mc 2 (.str [])]
def f248x1 : List AOper := [
  Mc 3 (.str [48, 49, 50, 51, 52, 53, 54, 55, 56, 57])]
def f248x2 : List AOper := [
  Mv 5 3,
  Mv 6 0,
  Bc 7 .rem 6 10,
  Mv 8 0,
  Bc 9 .rem 8 10,
  Bc 10 .add 9 1,
  Op 11 (.slstr (.t 5) (some (.t 7)) (some (.t 10))),
  Mv 4 11]
def f248x3 : List AOper := [
  Mv 12 0,
  Bc 13 .geq 12 10]
def f248x4 : List AOper := [
  Mv 14 0,
  Bc 15 .quo 14 10,
  Mv 0 15]
def f248x5 : List AOper := [
  Mv 16 3,
  Mv 17 0,
  Bc 18 .rem 17 10,
  Mv 19 0,
  Bc 20 .rem 19 10,
  Bc 21 .add 20 1,
  Op 22 (.slstr (.t 16) (some (.t 18)) (some (.t 21))),
  Mv 23 4,
  Bi 24 .add 22 23,
  Mv 4 24]
def f248x6L : ACode := (.seq (.seq (.region f248x3 false) (.cond (.t 13) .skip (.exit 0))) (.block 1 (.seq (.region f248x4 false) (.region f248x5 false))))
def f248x7 : List AOper := [
  Mv 25 4,
  Mv 2 25]
def f248 : AFunc := ⟨26, 1, false, [.t 2], (.seq (.region f248x0 false) (.seq (.region f248x1 false) (.seq (.region f248x2 false) (.seq (.block 0 (.loop f248x6L)) (.seq (.region f248x7 false) .ret)))))⟩
def f250x0 : List AOper := [
  Mc 4 (.int .i64 0),
  Mc 5 (.bool false)]
def f250x1 : List AOper := [
  Mv 9 0,
  Ct 10 263 [9],
  Mv 8 10,
  Ex 11 8 0,
  Ex 12 8 1,
  Mv 6 11,
  Mv 7 12]
def f250x2 : List AOper := [
  Mv 13 6,
  Mv 14 7,
  Op 15 (.eqn .iface false (.t 14) (.c (.con (.nilIface)))),
  Mv 16 15,
  Gt 16 (Mv 17 6),
  Gt 16 (Bc 18 .geq 17 0),
  Pa 19 16 18,
  Mv 20 19,
  Gt 20 (Mv 21 6),
  Gt 20 (Mv 22 1),
  Gt 20 (Bi 23 .leq 21 22),
  Pa 24 20 23,
  Mv 25 24,
  Gt 25 (Mv 26 6),
  Gt 25 (Ct 27 246 [26]),
  Gt 25 (Mv 28 0),
  Gt 25 (Bi 29 .eql 27 28),
  Pa 30 25 29,
  Mv 4 13,
  Mv 5 30]
def f250 : AFunc := ⟨31, 2, false, [.t 4, .t 5], (.seq (.region f250x0 false) (.seq (.region f250x1 false) (.seq (.region f250x2 false) .ret)))⟩
def f251x0 : List AOper := [
  Mc 2 (.int .u32 0),
  Mc 3 (.int .i64 0)]
def f251x1 : List AOper := [
  Mc 4 (.int .u32 0)]
def f251x2 : List AOper := [
  Mc 5 (.int .i64 0)]
def f251x3 : List AOper := [
  Mc 9 (.int .i64 0)]
def f251x4 : List AOper := [
  Bc 10 .lss 9 4]
def f251x5 : List AOper := [
  Mv 11 9,
  Mv 6 11]
def f251x6 : List AOper := [
  Mv 12 6,
  Bc 13 .gtr 12 0]
def f251x7 : List AOper := [
  Mv 14 5,
  Mv 15 0,
  Ln 16 1 15,
  Bi 17 .geq 14 16,
  Mv 18 17,
  Gf 18 (Mv 19 0),
  Gf 18 (Mv 20 5),
  Gf 18 (Op 21 (.istr (.t 19) (.t 20))),
  Gf 18 (Op 22 (.bin .neq (.t 21) (.c (.int .u8 46)))),
  Po 23 18 22]
def f251x8 : List AOper := [
  Mc 2 (.int .u32 0),
  Mc 3 (.int .i64 (-1))]
def f251x9 : List AOper := [
  Mv 24 5,
  Bc 25 .add 24 1,
  Mv 5 25]
def f251x10 : List AOper := [
  Mv 27 0,
  Mv 28 5,
  Ca 29 253 [(.t 27), (.t 28), (.c (.int .i64 255))],
  Mv 26 29,
  Ex 30 26 0,
  Ex 31 26 1,
  Mv 7 30,
  Mv 8 31]
def f251x11 : List AOper := [
  Mv 32 8,
  Bc 33 .lss 32 0]
def f251x12 : List AOper := [
  Mc 2 (.int .u32 0),
  Mc 3 (.int .i64 (-1))]
def f251x13 : List AOper := [
  Mv 34 4,
  Op 35 (.bin .mul (.t 34) (.c (.int .u32 256))),
  Mv 36 7,
  Cv 37 .u32 36,
  Bi 38 .add 35 37,
  Mv 4 38]
def f251x14 : List AOper := [
  Mv 39 8,
  Mv 5 39]
def f251x15 : List AOper := [
  Bc 40 .add 9 1,
  Mv 9 40]
def f251x16L : ACode := (.seq (.region f251x4 false) (.seq (.cond (.t 10) .skip (.exit 0)) (.seq (.block 1 (.seq (.region f251x5 false) (.seq (.seq (.region f251x6 false) (.cond (.t 13) (.seq (.seq (.region f251x7 false) (.cond (.t 23) (.seq (.region f251x8 false) .ret) .skip)) (.region f251x9 false)) .skip)) (.seq (.region f251x10 false) (.seq (.seq (.region f251x11 false) (.cond (.t 33) (.seq (.region f251x12 false) .ret) .skip)) (.seq (.region f251x13 false) (.region f251x14 false))))))) (.region f251x15 false))))
def f251x17 : List AOper := [
  Mv 41 4,
  Mv 42 5,
  Mv 2 41,
  Mv 3 42]
def f251 : AFunc := ⟨43, 1, false, [.t 2, .t 3], (.seq (.region f251x0 false) (.seq (.region f251x1 false) (.seq (.region f251x2 false) (.seq (.seq (.region f251x3 false) (.block 0 (.loop f251x16L))) (.seq (.region f251x17 false) .ret)))))⟩
def f253x0 : List AOper := [
  Mc 6 (.int .i64 0),
  Mc 7 (.int .i64 0)]
def f253x1 : List AOper := [
  Mc 8 (.int .i64 0)]
def f253x2 : List AOper := [
  Mv 10 1,
  Mv 9 10]
def f253x3 : List AOper := [
  Mv 11 9,
  Mv 12 0,
  Ln 13 1 12,
  Bi 14 .lss 11 13,
  Mv 15 14,
  Gt 15 (Mv 16 0),
  Gt 15 (Mv 17 9),
  Gt 15 (Op 18 (.istr (.t 16) (.t 17))),
  Gt 15 (Op 19 (.bin .geq (.t 18) (.c (.int .u8 48)))),
  Pa 20 15 19,
  Mv 21 20,
  Gt 21 (Mv 22 0),
  Gt 21 (Mv 23 9),
  Gt 21 (Op 24 (.istr (.t 22) (.t 23))),
  Gt 21 (Op 25 (.bin .leq (.t 24) (.c (.int .u8 57)))),
  Pa 26 21 25,
  Mv 27 26,
  Gt 27 (Mv 28 9),
  Gt 27 (Mv 29 1),
  Gt 27 (Bc 30 .add 29 4),
  Gt 27 (Bi 31 .lss 28 30),
  Pa 32 27 31]
def f253x4 : List AOper := [
  Mv 33 8,
  Bc 34 .mul 33 10,
  Mv 35 0,
  Mv 36 9,
  Op 37 (.istr (.t 35) (.t 36)),
  Op 38 (.bin .sub (.t 37) (.c (.int .u8 48))),
  Cv 39 .i64 38,
  Bi 40 .add 34 39,
  Mv 8 40]
def f253x5 : List AOper := [
  Mv 41 9,
  Bc 42 .add 41 1,
  Mv 9 42]
def f253x6L : ACode := (.seq (.seq (.region f253x3 false) (.cond (.t 32) .skip (.exit 0))) (.block 1 (.seq (.region f253x4 false) (.region f253x5 false))))
def f253x7 : List AOper := [
  Mv 43 9,
  Mv 44 1,
  Bi 45 .eql 43 44,
  Mv 46 45,
  Gf 46 (Mv 47 9),
  Gf 46 (Mv 48 1),
  Gf 46 (Bc 49 .add 48 4),
  Gf 46 (Bi 50 .eql 47 49),
  Po 51 46 50,
  Mv 52 51,
  Gf 52 (Mv 53 8),
  Gf 52 (Mv 54 2),
  Gf 52 (Bi 55 .gtr 53 54),
  Po 56 52 55,
  Mv 57 56,
  Gf 57 (Mv 58 9),
  Gf 57 (Mv 59 1),
  Gf 57 (Bc 60 .add 59 1),
  Gf 57 (Bi 61 .gtr 58 60),
  Gf 57 (Mv 62 61),
  Gt 62 (Mv 63 0),
  Gt 62 (Mv 64 1),
  Gt 62 (Op 65 (.istr (.t 63) (.t 64))),
  Gt 62 (Op 66 (.bin .eql (.t 65) (.c (.int .u8 48)))),
  Gf 57 (Pa 67 62 66),
  Po 68 57 67]
def f253x8 : List AOper := [
  Mc 6 (.int .i64 0),
  Mc 7 (.int .i64 (-1))]
def f253x9 : List AOper := [
  Mv 69 8,
  Mv 70 9,
  Mv 6 69,
  Mv 7 70]
def f253 : AFunc := ⟨71, 3, false, [.t 6, .t 7], (.seq (.region f253x0 false) (.seq (.region f253x1 false) (.seq (.region f253x2 false) (.seq (.block 0 (.loop f253x6L)) (.seq (.seq (.region f253x7 false) (.cond (.t 68) (.seq (.region f253x8 false) .ret) .skip)) (.seq (.region f253x9 false) .ret))))))⟩
def f181x0 : List AOper := [
  Mc 4 (.int .u32 0)]
def f181x1 : List AOper := [
  Mv 5 0,
  Mv 6 1,
  Ct 7 183 [6],
  Bi 8 .and 5 7,
  Mv 4 8]
def f181 : AFunc := ⟨9, 2, false, [.t 4], (.seq (.region f181x0 false) (.seq (.region f181x1 false) .ret))⟩
def f254x0 : List AOper := [
  Mc 2 (.con (.slice none 0 0))]
def f254x1 : List AOper := [
  Mv 3 0,
  Op 4 (.eqn .slice false (.t 3) (.c (.con (.slice none 0 0))))]
def f254x2 : List AOper := [
  Mc 2 (.con (.slice none 0 0))]
def f254x3 : List AOper := [
  Op 5 (.bsl 2 [.int .u32 0, .int .i64 0] 0 [] []),
  Mv 6 0,
  Ap 7 2 16 5 6,
  Mv 2 7]
def f254 : AFunc := ⟨8, 1, false, [.t 2], (.seq (.region f254x0 false) (.seq (.seq (.region f254x1 false) (.cond (.t 4) (.seq (.region f254x2 false) .ret) .skip)) (.seq (.region f254x3 false) .ret)))⟩
def f256x0 : List AOper := [
  Mc 2 (.con (.slice none 0 0))]
def f256x1 : List AOper := [
  Mv 6 0,
  Ln 7 0 6,
  Bc 8 .lss 7 2]
def f256x2 : List AOper := [
  Mv 9 0,
  Mv 2 9]
def f256x3 : List AOper := [
  Mc 3 (.int .i64 1)]
def f256x4 : List AOper := [
  Mv 10 3,
  Mv 11 0,
  Ln 12 0 11,
  Bi 13 .lss 10 12]
def f256x5 : List AOper := [
  Mv 16 0,
  Mv 17 3,
  Ia 18 2 16 17,
  Af [2] (Ls 19 2 18),
  Mv 20 0,
  Mv 21 3,
  Bc 22 .sub 21 1,
  Ia 23 2 20 22,
  Af [7] (Ls 24 2 23),
  Op 25 (.eqs [.int, .int] false (.t 19) (.t 24))]
def f256x6 : List AOper := [
  Mv 26 0,
  Mv 27 3,
  Op 28 (.slc 2 (.t 26) (some (.t 27)) none none),
  Mv 4 28]
def f256x7 : List AOper := [
  Mc 5 (.int .i64 1)]
def f256x8 : List AOper := [
  Mv 29 5,
  Mv 30 4,
  Ln 31 0 30,
  Bi 32 .lss 29 31]
def f256x9 : List AOper := [
  Mv 35 4,
  Mv 36 5,
  Ia 37 2 35 36,
  Af [2] (Ls 38 2 37),
  Mv 39 4,
  Mv 40 5,
  Bc 41 .sub 40 1,
  Ia 42 2 39 41,
  Af [7] (Ls 43 2 42),
  Op 44 (.eqs [.int, .int] true (.t 38) (.t 43))]
def f256x10 : List AOper := [
  Mv 45 0,
  Mv 46 3,
  Mv 47 4,
  Mv 48 5,
  Ia 49 2 47 48,
  Ls 50 2 49,
  Ia 51 2 45 46,
  St 2 51 50]
def f256x11 : List AOper := [
  Mv 52 3,
  Bc 53 .add 52 1,
  Mv 3 53]
def f256x12 : List AOper := [
  Mv 33 5,
  Bc 34 .add 33 1,
  Mv 5 34]
def f256x13L : ACode := (.seq (.seq (.region f256x8 false) (.cond (.t 32) .skip (.exit 2))) (.seq (.block 3 (.seq (.region f256x9 true) (.cond (.t 44) (.seq (.region f256x10 false) (.region f256x11 false)) .skip))) (.region f256x12 false)))
def f256x14 : List AOper := [
  Mv 54 0,
  Mv 55 3,
  Op 56 (.slc 2 (.t 54) (some (.t 55)) none none),
  ⟨none, .clr 2 [.int .u32 0, .int .i64 0] (.t 56), none, []⟩]
def f256x15 : List AOper := [
  Mv 57 0,
  Mv 58 3,
  Op 59 (.slc 2 (.t 57) none (some (.t 58)) none),
  Mv 2 59]
def f256x16 : List AOper := [
  Mv 14 3,
  Bc 15 .add 14 1,
  Mv 3 15]
def f256x17L : ACode := (.seq (.seq (.region f256x4 false) (.cond (.t 13) .skip (.exit 0))) (.seq (.block 1 (.seq (.region f256x5 true) (.cond (.t 25) (.seq (.region f256x6 false) (.seq (.seq (.region f256x7 false) (.block 2 (.loop f256x13L))) (.seq (.region f256x14 false) (.seq (.region f256x15 false) .ret)))) .skip))) (.region f256x16 false)))
def f256x18 : List AOper := [
  Mv 60 0,
  Mv 2 60]
def f256 : AFunc := ⟨61, 1, true, [.t 2], (.seq (.region f256x0 false) (.seq (.seq (.region f256x1 false) (.cond (.t 8) (.seq (.region f256x2 false) .ret) .skip)) (.seq (.seq (.region f256x3 false) (.block 0 (.loop f256x17L))) (.seq (.region f256x18 false) .ret))))⟩
def f256x17LH : List AItem := [.inLoop f256x17L, .inBlock 0, .code (.seq (.region f256x18 false) .ret)]
def f256x13LH : List AItem := [.inLoop f256x13L, .inBlock 2, .code (.seq (.region f256x14 false) (.seq (.region f256x15 false) .ret)), .inBlock 1, .code (.region f256x16 false), .inLoop f256x17L, .inBlock 0, .code (.seq (.region f256x18 false) .ret)]
def f257x0 : List AOper := [
  Op 3 (.box (.t 1)),
  Mc 4 (.con (.slice none 0 0))]
def f257x1 : List AOper := [
  Mc 5 (.con (.slice none 0 0))]
def f257x2 : List AOper := [
  Mc 6 (.bool false)]
def f257x3 : List AOper := [
  Mv 9 0,
  Ln 10 0 9,
  Mc 11 (.int .i64 0)]
def f257x4 : List AOper := [
  Bi 12 .lss 11 10]
def f257x5 : List AOper := [
  Mv 13 11,
  Mv 7 13]
def f257x6 : List AOper := [
  Ls 14 2 3,
  Mv 15 0,
  Mv 16 7,
  Ia 17 2 15 16,
  Af [3] (Ls 18 2 17),
  Af [0, 4, 3] (Ct 19 180 [14, 18]),
  Mv 8 19]
def f257x7 : List AOper := [
  Mv 20 8,
  Bc 21 .leq 20 0,
  Mv 22 21,
  Gt 22 (Mv 23 6),
  Gt 22 (Un 24 .not 23),
  Pa 25 22 24]
def f257x8 : List AOper := [
  Mv 26 5,
  Ls 27 2 3,
  Op 28 (.bsl 2 [.int .u32 0, .int .i64 0] 1 [0] [(.t 27)]),
  Ap 29 2 16 26 28,
  Mv 5 29]
def f257x9 : List AOper := [
  Mc 6 (.bool true)]
def f257x10 : List AOper := [
  Mv 30 8,
  Bc 31 .neq 30 0]
def f257x11 : List AOper := [
  Mv 32 5,
  Mv 33 0,
  Mv 34 7,
  Ia 35 2 33 34,
  Ls 36 2 35,
  Op 37 (.bsl 2 [.int .u32 0, .int .i64 0] 1 [0] [(.t 36)]),
  Ap 38 2 16 32 37,
  Mv 5 38]
def f257x12 : List AOper := [
  Bc 39 .add 11 1,
  Mv 11 39]
def f257x13L : ACode := (.seq (.region f257x4 false) (.seq (.cond (.t 12) .skip (.exit 0)) (.seq (.block 1 (.seq (.region f257x5 false) (.seq (.region f257x6 true) (.seq (.seq (.region f257x7 false) (.cond (.t 25) (.seq (.region f257x8 false) (.region f257x9 false)) .skip)) (.seq (.region f257x10 false) (.cond (.t 31) (.region f257x11 false) .skip)))))) (.region f257x12 false))))
def f257x14 : List AOper := [
  Mv 40 6,
  Un 41 .not 40]
def f257x15 : List AOper := [
  Mv 42 5,
  Ls 43 2 3,
  Op 44 (.bsl 2 [.int .u32 0, .int .i64 0] 1 [0] [(.t 43)]),
  Ap 45 2 16 42 44,
  Mv 5 45]
def f257x16 : List AOper := [
  Mv 46 5,
  Mv 4 46]
def f257 : AFunc := ⟨47, 2, false, [.t 4], (.seq (.region f257x0 false) (.seq (.region f257x1 false) (.seq (.region f257x2 false) (.seq (.seq (.region f257x3 false) (.block 0 (.loop f257x13L))) (.seq (.seq (.region f257x14 false) (.cond (.t 41) (.region f257x15 false) .skip)) (.seq (.region f257x16 false) .ret))))))⟩
def f257x13LH : List AItem := [.inLoop f257x13L, .inBlock 0, .code (.seq (.seq (.region f257x14 false) (.cond (.t 41) (.region f257x15 false) .skip)) (.seq (.region f257x16 false) .ret))]
def f184x0 : List AOper := [
  Mc 4 (.int .i64 0)]
def f184x1 : List AOper := [
  Mv 5 0,
  Op 6 (.minmax true [(.t 5), (.c (.int .i64 0))]),
  Mv 7 1,
  Op 8 (.minmax false [(.t 6), (.t 7)]),
  Mv 4 8]
def f184 : AFunc := ⟨9, 2, false, [.t 4], (.seq (.region f184x0 false) (.seq (.region f184x1 false) .ret))⟩
def f185x0 : List AOper := [
  Mc 4 (.int .i64 0)]
def f185x1 : List AOper := [
  Mv 5 1,
  Bc 6 .lss 5 0,
  Mv 7 6,
  Gf 7 (Mv 8 1),
  Gf 7 (Bc 9 .gtr 8 31),
  Po 10 7 9]
def f185x2 : List AOper := [
  Mc 4 (.int .i64 0)]
def f185x3 : List AOper := [
  Mv 11 0,
  Mv 12 1,
  Op 13 (.bin .sub (.c (.int .i64 31)) (.t 12)),
  Cv 14 .u64 13,
  Bi 15 .shr 11 14,
  Op 16 (.bin .and (.t 15) (.c (.int .u32 1))),
  Cv 17 .i64 16,
  Mv 4 17]
def f185 : AFunc := ⟨18, 2, false, [.t 4], (.seq (.region f185x0 false) (.seq (.seq (.region f185x1 false) (.cond (.t 10) (.seq (.region f185x2 false) .ret) .skip)) (.seq (.region f185x3 false) .ret)))⟩
def f186x0 : List AOper := [
  Mc 4 (.int .i64 0)]
def f186x1 : List AOper := [
  Mv 5 0,
  Op 6 (.minmax true [(.t 5), (.c (.int .i64 0))]),
  Mv 7 1,
  Op 8 (.minmax false [(.t 6), (.t 7)]),
  Mv 4 8]
def f186 : AFunc := ⟨9, 2, false, [.t 4], (.seq (.region f186x0 false) (.seq (.region f186x1 false) .ret))⟩
def f260x0 : List AOper := [
  Mc 4 (.int .i64 0),
  Mc 5 (.con (.nilIface))]
def f260x1 : List AOper := [
  Mv 6 0,
  Ct 7 268 [6]]
def f260x2 : List AOper := [
  Mv 8 0,
  Mv 9 0,
  Nc 10 9,
  Fa 11 1 10,
  Ld 12 11,
  Mv 13 1,
  Ap 14 1 1 12 13,
  Nc 15 8,
  Fa 16 1 15,
  St 1 16 14]
def f260x3 : List AOper := [
  Mv 17 1,
  Ln 18 1 17,
  Mv 4 18,
  Mc 5 (.con (.nilIface))]
def f260 : AFunc := ⟨19, 2, false, [.t 4, .t 5], (.seq (.region f260x0 false) (.seq (.region f260x1 false) (.seq (.region f260x2 false) (.seq (.region f260x3 false) .ret))))⟩
def f266x0 : List AOper := [
  Mc 2 (.int .i64 0)]
def f266x1 : List AOper := [
  Mv 3 0,
  Cv 4 .u32 3,
  Ct 5 284 [4],
  Mv 2 5]
def f266x2 : List AOper := [
  Mv 6 0,
  Ct 7 285 [6],
  Mv 2 7]
def f266 : AFunc := ⟨8, 1, false, [.t 2], (.seq (.region f266x0 false) (.seq (.cond (.c (.bool false)) (.seq (.region f266x1 false) .ret) .skip) (.seq (.region f266x2 false) .ret)))⟩
def f276x0 : List AOper := [
  Mv 10 1,
  Bc 11 .add 10 1,
  Mv 8 11]
def f276x1 : List AOper := [
  Mv 12 8,
  Mv 13 2,
  Bi 14 .lss 12 13]
def f276x2 : List AOper := [
  Mv 17 8,
  Mv 9 17]
def f276x3 : List AOper := [
  Mv 18 9,
  Mv 19 1,
  Bi 20 .gtr 18 19,
  Mv 21 20,
  Gt 21 (Mv 22 3),
  Gt 21 (Mv 23 0),
  Gt 21 (Mv 24 9),
  Gt 21 (Ia 25 2 23 24),
  Af [7] (Gt 21 (Ls 26 2 25)),
  Gt 21 (Mv 27 0),
  Gt 21 (Mv 28 9),
  Gt 21 (Bc 29 .sub 28 1),
  Gt 21 (Ia 30 2 27 29),
  Af [12] (Gt 21 (Ls 31 2 30)),
  Af [8, 13, 7, 12] (Gt 21 (Op 32 (.call (.t 22) [(.t 26), (.t 31)]))),
  Gt 21 (Bc 33 .lss 32 0),
  Pa 34 21 33]
def f276x4 : List AOper := [
  Mv 37 0,
  Mv 38 9,
  Mv 39 0,
  Mv 40 9,
  Bc 41 .sub 40 1,
  Mv 42 0,
  Mv 43 9,
  Bc 44 .sub 43 1,
  Ia 45 2 42 44,
  Af [8] (Ls 46 2 45),
  Mv 47 0,
  Mv 48 9,
  Ia 49 2 47 48,
  Af [12] (Ls 50 2 49),
  Af [9, 13, 8, 12] (Ia 51 2 37 38),
  Af [14, 9, 13, 8, 12] (St 2 51 46),
  Af [15, 14, 9, 13, 8, 12] (Ia 52 2 39 41),
  Af [16, 15, 14, 9, 13, 8, 12] (St 2 52 50)]
def f276x5 : List AOper := [
  Mv 35 9,
  Bc 36 .sub 35 1,
  Mv 9 36]
def f276x6L : ACode := (.seq (.seq (.region f276x3 true) (.cond (.t 34) .skip (.exit 2))) (.seq (.block 3 (.region f276x4 true)) (.region f276x5 false)))
def f276x7 : List AOper := [
  Mv 15 8,
  Bc 16 .add 15 1,
  Mv 8 16]
def f276x8L : ACode := (.seq (.seq (.region f276x1 false) (.cond (.t 14) .skip (.exit 0))) (.seq (.block 1 (.seq (.region f276x2 false) (.block 2 (.loop f276x6L)))) (.region f276x7 false)))
def f276 : AFunc := ⟨53, 4, false, [], (.seq (.region f276x0 false) (.block 0 (.loop f276x8L)))⟩
def f277x0 : List AOper := [
  Mv 13 1,
  Mv 8 13]
def f277x1 : List AOper := [
  Mc 9 (.int .i64 0)]
def f277x2 : List AOper := [
  Mv 14 2,
  Mv 15 1,
  Bi 16 .sub 14 15,
  Mv 10 16]
def f277x3 : List AOper := [
  Mv 17 10,
  Bc 18 .sub 17 1,
  Bc 19 .quo 18 2,
  Mv 11 19]
def f277x4 : List AOper := [
  Mv 20 11,
  Bc 21 .geq 20 0]
def f277x5 : List AOper := [
  Mv 24 0,
  Mv 25 11,
  Mv 26 10,
  Mv 27 8,
  Mv 28 3,
  Ct 29 300 [24, 25, 26, 27, 28]]
def f277x6 : List AOper := [
  Mv 22 11,
  Bc 23 .sub 22 1,
  Mv 11 23]
def f277x7L : ACode := (.seq (.seq (.region f277x4 false) (.cond (.t 21) .skip (.exit 0))) (.seq (.block 1 (.region f277x5 false)) (.region f277x6 false)))
def f277x8 : List AOper := [
  Mv 30 10,
  Bc 31 .sub 30 1,
  Mv 12 31]
def f277x9 : List AOper := [
  Mv 32 12,
  Bc 33 .geq 32 0]
def f277x10 : List AOper := [
  Mv 36 0,
  Mv 37 8,
  Mv 38 0,
  Mv 39 8,
  Mv 40 12,
  Bi 41 .add 39 40,
  Mv 42 0,
  Mv 43 8,
  Mv 44 12,
  Bi 45 .add 43 44,
  Ia 46 2 42 45,
  Af [10] (Ls 47 2 46),
  Mv 48 0,
  Mv 49 8,
  Ia 50 2 48 49,
  Af [14] (Ls 51 2 50),
  Af [11, 15, 10, 14] (Ia 52 2 36 37),
  Af [16, 11, 15, 10, 14] (St 2 52 47),
  Af [17, 16, 11, 15, 10, 14] (Ia 53 2 38 41),
  Af [18, 17, 16, 11, 15, 10, 14] (St 2 53 51)]
def f277x11 : List AOper := [
  Mv 54 0,
  Mv 55 9,
  Mv 56 12,
  Mv 57 8,
  Mv 58 3,
  Ct 59 300 [54, 55, 56, 57, 58]]
def f277x12 : List AOper := [
  Mv 34 12,
  Bc 35 .sub 34 1,
  Mv 12 35]
def f277x13L : ACode := (.seq (.seq (.region f277x9 false) (.cond (.t 33) .skip (.exit 2))) (.seq (.block 3 (.seq (.region f277x10 true) (.region f277x11 false))) (.region f277x12 false)))
def f277 : AFunc := ⟨60, 4, false, [], (.seq (.region f277x0 false) (.seq (.region f277x1 false) (.seq (.region f277x2 false) (.seq (.seq (.region f277x3 false) (.block 0 (.loop f277x7L))) (.seq (.region f277x8 false) (.block 2 (.loop f277x13L)))))))⟩
def f279x0 : List AOper := [
  Mc 8 (.int .i64 0),
  Mc 9 (.int .i64 0)]
def f279x1 : List AOper := [
  Mv 15 2,
  Mv 16 1,
  Bi 17 .sub 15 16,
  Mv 10 17]
def f279x2 : List AOper := [
  Op 11 (.alloc (.int .i64 0))]
def f279x3 : List AOper := [
  Mv 18 1,
  Mv 19 10,
  Bc 20 .quo 19 4,
  Bc 21 .mul 20 1,
  Bi 22 .add 18 21,
  Mv 12 22]
def f279x4 : List AOper := [
  Mv 23 1,
  Mv 24 10,
  Bc 25 .quo 24 4,
  Bc 26 .mul 25 2,
  Bi 27 .add 23 26,
  Mv 13 27]
def f279x5 : List AOper := [
  Mv 28 1,
  Mv 29 10,
  Bc 30 .quo 29 4,
  Bc 31 .mul 30 3,
  Bi 32 .add 28 31,
  Mv 14 32]
def f279x6 : List AOper := [
  Mv 33 10,
  Bc 34 .geq 33 8]
def f279x7 : List AOper := [
  Mv 35 10,
  Bc 36 .geq 35 50]
def f279x8 : List AOper := [
  Mv 37 0,
  Mv 38 12,
  Mv 39 3,
  Ct 40 303 [37, 38, 11, 39],
  Mv 12 40]
def f279x9 : List AOper := [
  Mv 41 0,
  Mv 42 13,
  Mv 43 3,
  Ct 44 303 [41, 42, 11, 43],
  Mv 13 44]
def f279x10 : List AOper := [
  Mv 45 0,
  Mv 46 14,
  Mv 47 3,
  Ct 48 303 [45, 46, 11, 47],
  Mv 14 48]
def f279x11 : List AOper := [
  Mv 49 0,
  Mv 50 12,
  Mv 51 13,
  Mv 52 14,
  Mv 53 3,
  Ct 54 304 [49, 50, 51, 52, 11, 53],
  Mv 13 54]
def f279x12 : List AOper := [
  Ld 55 11]
def f279x13 : List AOper := [
  Bc 58 .eql 55 0,
  Mv 57 58]
def f279x14 : List AOper := [
  Mv 59 13,
  Mv 8 59,
  Mc 9 (.int .i64 1)]
def f279x15 : List AOper := [
  Bc 61 .eql 55 12,
  Mv 60 61]
def f279x16 : List AOper := [
  Mv 62 13,
  Mv 8 62,
  Mc 9 (.int .i64 2)]
def f279x17 : List AOper := [
  Mv 56 13,
  Mv 8 56,
  Mc 9 (.int .i64 0)]
def f279 : AFunc := ⟨63, 4, false, [.t 8, .t 9], (.seq (.region f279x0 false) (.seq (.region f279x1 false) (.seq (.region f279x2 false) (.seq (.region f279x3 false) (.seq (.region f279x4 false) (.seq (.region f279x5 false) (.seq (.seq (.region f279x6 false) (.cond (.t 34) (.seq (.seq (.region f279x7 false) (.cond (.t 36) (.seq (.region f279x8 false) (.seq (.region f279x9 false) (.region f279x10 false))) .skip)) (.region f279x11 false)) .skip)) (.seq (.region f279x12 false) (.block 0 (.seq (.region f279x13 false) (.cond (.t 57) (.seq (.region f279x14 false) .ret) (.seq (.region f279x15 false) (.cond (.t 60) (.seq (.region f279x16 false) .ret) (.seq (.region f279x17 false) .ret))))))))))))))⟩
def f280x0 : List AOper := [
  Mv 10 1,
  Mv 8 10]
def f280x1 : List AOper := [
  Mv 11 2,
  Bc 12 .sub 11 1,
  Mv 9 12]
def f280x2 : List AOper := [
  Mv 13 8,
  Mv 14 9,
  Bi 15 .lss 13 14]
def f280x3 : List AOper := [
  Mv 16 0,
  Mv 17 8,
  Mv 18 0,
  Mv 19 9,
  Mv 20 0,
  Mv 21 9,
  Ia 22 2 20 21,
  Af [6] (Ls 23 2 22),
  Mv 24 0,
  Mv 25 8,
  Ia 26 2 24 25,
  Af [10] (Ls 27 2 26),
  Af [7, 11, 6, 10] (Ia 28 2 16 17),
  Af [12, 7, 11, 6, 10] (St 2 28 23),
  Af [13, 12, 7, 11, 6, 10] (Ia 29 2 18 19),
  Af [14, 13, 12, 7, 11, 6, 10] (St 2 29 27)]
def f280x4 : List AOper := [
  Mv 30 8,
  Bc 31 .add 30 1,
  Mv 8 31]
def f280x5 : List AOper := [
  Mv 32 9,
  Bc 33 .sub 32 1,
  Mv 9 33]
def f280x6L : ACode := (.seq (.seq (.region f280x2 false) (.cond (.t 15) .skip (.exit 0))) (.block 1 (.seq (.region f280x3 true) (.seq (.region f280x4 false) (.region f280x5 false)))))
def f280 : AFunc := ⟨34, 4, false, [], (.seq (.region f280x0 false) (.seq (.region f280x1 false) (.block 0 (.loop f280x6L))))⟩
def f281x0 : List AOper := [
  Mc 8 (.bool false)]
def f281x1 : List AOper := [
  Mv 13 1,
  Bc 14 .add 13 1,
  Mv 9 14]
def f281x2 : List AOper := [
  Mc 10 (.int .i64 0)]
def f281x3 : List AOper := [
  Mv 15 10,
  Bc 16 .lss 15 5]
def f281x4 : List AOper := [
  Mv 19 9,
  Mv 20 2,
  Bi 21 .lss 19 20,
  Mv 22 21,
  Gt 22 (Mv 23 3),
  Gt 22 (Mv 24 0),
  Gt 22 (Mv 25 9),
  Gt 22 (Ia 26 2 24 25),
  Af [7] (Gt 22 (Ls 27 2 26)),
  Gt 22 (Mv 28 0),
  Gt 22 (Mv 29 9),
  Gt 22 (Bc 30 .sub 29 1),
  Gt 22 (Ia 31 2 28 30),
  Af [12] (Gt 22 (Ls 32 2 31)),
  Af [8, 13, 7, 12] (Gt 22 (Op 33 (.call (.t 23) [(.t 27), (.t 32)]))),
  Gt 22 (Bc 34 .lss 33 0),
  Gt 22 (Un 35 .not 34),
  Pa 36 22 35]
def f281x5 : List AOper := [
  Mv 37 9,
  Bc 38 .add 37 1,
  Mv 9 38]
def f281x6L : ACode := (.seq (.seq (.region f281x4 true) (.cond (.t 36) .skip (.exit 2))) (.block 3 (.region f281x5 false)))
def f281x7 : List AOper := [
  Mv 39 9,
  Mv 40 2,
  Bi 41 .eql 39 40]
def f281x8 : List AOper := [
  Mc 8 (.bool true)]
def f281x9 : List AOper := [
  Mv 42 2,
  Mv 43 1,
  Bi 44 .sub 42 43,
  Bc 45 .lss 44 50]
def f281x10 : List AOper := [
  Mc 8 (.bool false)]
def f281x11 : List AOper := [
  Mv 46 0,
  Mv 47 9,
  Mv 48 0,
  Mv 49 9,
  Bc 50 .sub 49 1,
  Mv 51 0,
  Mv 52 9,
  Bc 53 .sub 52 1,
  Ia 54 2 51 53,
  Af [8] (Ls 55 2 54),
  Mv 56 0,
  Mv 57 9,
  Ia 58 2 56 57,
  Af [12] (Ls 59 2 58),
  Af [9, 13, 8, 12] (Ia 60 2 46 47),
  Af [14, 9, 13, 8, 12] (St 2 60 55),
  Af [15, 14, 9, 13, 8, 12] (Ia 61 2 48 50),
  Af [16, 15, 14, 9, 13, 8, 12] (St 2 61 59)]
def f281x12 : List AOper := [
  Mv 62 9,
  Mv 63 1,
  Bi 64 .sub 62 63,
  Bc 65 .geq 64 2]
def f281x13 : List AOper := [
  Mv 66 9,
  Bc 67 .sub 66 1,
  Mv 11 67]
def f281x14 : List AOper := [
  Mv 68 11,
  Bc 69 .geq 68 1]
def f281x15 : List AOper := [
  Mv 72 3,
  Mv 73 0,
  Mv 74 11,
  Ia 75 2 73 74,
  Af [3] (Ls 76 2 75),
  Mv 77 0,
  Mv 78 11,
  Bc 79 .sub 78 1,
  Ia 80 2 77 79,
  Af [8] (Ls 81 2 80),
  Af [4, 9, 3, 8] (Op 82 (.call (.t 72) [(.t 76), (.t 81)])),
  Bc 83 .lss 82 0,
  Un 84 .not 83]
def f281x16 : List AOper := [
  Mv 85 0,
  Mv 86 11,
  Mv 87 0,
  Mv 88 11,
  Bc 89 .sub 88 1,
  Mv 90 0,
  Mv 91 11,
  Bc 92 .sub 91 1,
  Ia 93 2 90 92,
  Af [8] (Ls 94 2 93),
  Mv 95 0,
  Mv 96 11,
  Ia 97 2 95 96,
  Af [12] (Ls 98 2 97),
  Af [9, 13, 8, 12] (Ia 99 2 85 86),
  Af [14, 9, 13, 8, 12] (St 2 99 94),
  Af [15, 14, 9, 13, 8, 12] (Ia 100 2 87 89),
  Af [16, 15, 14, 9, 13, 8, 12] (St 2 100 98)]
def f281x17 : List AOper := [
  Mv 70 11,
  Bc 71 .sub 70 1,
  Mv 11 71]
def f281x18L : ACode := (.seq (.seq (.region f281x14 false) (.cond (.t 69) .skip (.exit 4))) (.seq (.block 5 (.seq (.seq (.region f281x15 true) (.cond (.t 84) (.exit 4) .skip)) (.region f281x16 true))) (.region f281x17 false)))
def f281x19 : List AOper := [
  Mv 101 2,
  Mv 102 9,
  Bi 103 .sub 101 102,
  Bc 104 .geq 103 2]
def f281x20 : List AOper := [
  Mv 105 9,
  Bc 106 .add 105 1,
  Mv 12 106]
def f281x21 : List AOper := [
  Mv 107 12,
  Mv 108 2,
  Bi 109 .lss 107 108]
def f281x22 : List AOper := [
  Mv 112 3,
  Mv 113 0,
  Mv 114 12,
  Ia 115 2 113 114,
  Af [3] (Ls 116 2 115),
  Mv 117 0,
  Mv 118 12,
  Bc 119 .sub 118 1,
  Ia 120 2 117 119,
  Af [8] (Ls 121 2 120),
  Af [4, 9, 3, 8] (Op 122 (.call (.t 112) [(.t 116), (.t 121)])),
  Bc 123 .lss 122 0,
  Un 124 .not 123]
def f281x23 : List AOper := [
  Mv 125 0,
  Mv 126 12,
  Mv 127 0,
  Mv 128 12,
  Bc 129 .sub 128 1,
  Mv 130 0,
  Mv 131 12,
  Bc 132 .sub 131 1,
  Ia 133 2 130 132,
  Af [8] (Ls 134 2 133),
  Mv 135 0,
  Mv 136 12,
  Ia 137 2 135 136,
  Af [12] (Ls 138 2 137),
  Af [9, 13, 8, 12] (Ia 139 2 125 126),
  Af [14, 9, 13, 8, 12] (St 2 139 134),
  Af [15, 14, 9, 13, 8, 12] (Ia 140 2 127 129),
  Af [16, 15, 14, 9, 13, 8, 12] (St 2 140 138)]
def f281x24 : List AOper := [
  Mv 110 12,
  Bc 111 .add 110 1,
  Mv 12 111]
def f281x25L : ACode := (.seq (.seq (.region f281x21 false) (.cond (.t 109) .skip (.exit 6))) (.seq (.block 7 (.seq (.seq (.region f281x22 true) (.cond (.t 124) (.exit 6) .skip)) (.region f281x23 true))) (.region f281x24 false)))
def f281x26 : List AOper := [
  Mv 17 10,
  Bc 18 .add 17 1,
  Mv 10 18]
def f281x27L : ACode := (.seq (.seq (.region f281x3 false) (.cond (.t 16) .skip (.exit 0))) (.seq (.block 1 (.seq (.block 2 (.loop f281x6L)) (.seq (.seq (.region f281x7 false) (.cond (.t 41) (.seq (.region f281x8 false) .ret) .skip)) (.seq (.seq (.region f281x9 false) (.cond (.t 45) (.seq (.region f281x10 false) .ret) .skip)) (.seq (.region f281x11 true) (.seq (.seq (.region f281x12 false) (.cond (.t 65) (.seq (.region f281x13 false) (.block 4 (.loop f281x18L))) .skip)) (.seq (.region f281x19 false) (.cond (.t 104) (.seq (.region f281x20 false) (.block 6 (.loop f281x25L))) .skip)))))))) (.region f281x26 false)))
def f281x28 : List AOper := [
  Mc 8 (.bool false)]
def f281 : AFunc := ⟨141, 4, false, [.t 8], (.seq (.region f281x0 false) (.seq (.region f281x1 false) (.seq (.seq (.region f281x2 false) (.block 0 (.loop f281x27L))) (.seq (.region f281x28 false) .ret))))⟩
def f282x0 : List AOper := [
  Mc 10 (.int .i64 0)]
def f282x1 : List AOper := [
  Mv 13 0,
  Mv 14 1,
  Mv 15 0,
  Mv 16 3,
  Mv 17 0,
  Mv 18 3,
  Ia 19 2 17 18,
  Af [6] (Ls 20 2 19),
  Mv 21 0,
  Mv 22 1,
  Ia 23 2 21 22,
  Af [10] (Ls 24 2 23),
  Af [7, 11, 6, 10] (Ia 25 2 13 14),
  Af [12, 7, 11, 6, 10] (St 2 25 20),
  Af [13, 12, 7, 11, 6, 10] (Ia 26 2 15 16),
  Af [14, 13, 12, 7, 11, 6, 10] (St 2 26 24)]
def f282x2 : List AOper := [
  Mv 27 1,
  Bc 28 .add 27 1,
  Mv 29 2,
  Bc 30 .sub 29 1,
  Mv 11 28,
  Mv 12 30]
def f282x3 : List AOper := [
  Mv 31 11,
  Mv 32 12,
  Bi 33 .leq 31 32,
  Mv 34 33,
  Gt 34 (Mv 35 4),
  Gt 34 (Mv 36 0),
  Gt 34 (Mv 37 1),
  Gt 34 (Ia 38 2 36 37),
  Af [7] (Gt 34 (Ls 39 2 38)),
  Gt 34 (Mv 40 0),
  Gt 34 (Mv 41 11),
  Gt 34 (Ia 42 2 40 41),
  Af [11] (Gt 34 (Ls 43 2 42)),
  Af [8, 12, 7, 11] (Gt 34 (Op 44 (.call (.t 35) [(.t 39), (.t 43)]))),
  Gt 34 (Bc 45 .lss 44 0),
  Gt 34 (Un 46 .not 45),
  Pa 47 34 46]
def f282x4 : List AOper := [
  Mv 48 11,
  Bc 49 .add 48 1,
  Mv 11 49]
def f282x5L : ACode := (.seq (.seq (.region f282x3 true) (.cond (.t 47) .skip (.exit 2))) (.block 3 (.region f282x4 false)))
def f282x6 : List AOper := [
  Mv 50 11,
  Mv 51 12,
  Bi 52 .leq 50 51,
  Mv 53 52,
  Gt 53 (Mv 54 4),
  Gt 53 (Mv 55 0),
  Gt 53 (Mv 56 1),
  Gt 53 (Ia 57 2 55 56),
  Af [7] (Gt 53 (Ls 58 2 57)),
  Gt 53 (Mv 59 0),
  Gt 53 (Mv 60 12),
  Gt 53 (Ia 61 2 59 60),
  Af [11] (Gt 53 (Ls 62 2 61)),
  Af [8, 12, 7, 11] (Gt 53 (Op 63 (.call (.t 54) [(.t 58), (.t 62)]))),
  Gt 53 (Bc 64 .lss 63 0),
  Pa 65 53 64]
def f282x7 : List AOper := [
  Mv 66 12,
  Bc 67 .sub 66 1,
  Mv 12 67]
def f282x8L : ACode := (.seq (.seq (.region f282x6 true) (.cond (.t 65) .skip (.exit 4))) (.block 5 (.region f282x7 false)))
def f282x9 : List AOper := [
  Mv 68 11,
  Mv 69 12,
  Bi 70 .gtr 68 69]
def f282x10 : List AOper := [
  Mv 71 0,
  Mv 72 11,
  Mv 73 0,
  Mv 74 12,
  Mv 75 0,
  Mv 76 12,
  Ia 77 2 75 76,
  Af [6] (Ls 78 2 77),
  Mv 79 0,
  Mv 80 11,
  Ia 81 2 79 80,
  Af [10] (Ls 82 2 81),
  Af [7, 11, 6, 10] (Ia 83 2 71 72),
  Af [12, 7, 11, 6, 10] (St 2 83 78),
  Af [13, 12, 7, 11, 6, 10] (Ia 84 2 73 74),
  Af [14, 13, 12, 7, 11, 6, 10] (St 2 84 82)]
def f282x11 : List AOper := [
  Mv 85 11,
  Bc 86 .add 85 1,
  Mv 11 86]
def f282x12 : List AOper := [
  Mv 87 12,
  Bc 88 .sub 87 1,
  Mv 12 88]
def f282x13L : ACode := (.block 1 (.seq (.block 2 (.loop f282x5L)) (.seq (.block 4 (.loop f282x8L)) (.seq (.seq (.region f282x9 false) (.cond (.t 70) (.exit 0) .skip)) (.seq (.region f282x10 true) (.seq (.region f282x11 false) (.region f282x12 false)))))))
def f282x14 : List AOper := [
  Mv 89 11,
  Mv 10 89]
def f282 : AFunc := ⟨90, 5, false, [.t 10], (.seq (.region f282x0 false) (.seq (.region f282x1 true) (.seq (.region f282x2 false) (.seq (.block 0 (.loop f282x13L)) (.seq (.region f282x14 false) .ret)))))⟩
def f283x0 : List AOper := [
  Mc 10 (.int .i64 0),
  Mc 11 (.bool false)]
def f283x1 : List AOper := [
  Mv 14 0,
  Mv 15 1,
  Mv 16 0,
  Mv 17 3,
  Mv 18 0,
  Mv 19 3,
  Ia 20 2 18 19,
  Af [6] (Ls 21 2 20),
  Mv 22 0,
  Mv 23 1,
  Ia 24 2 22 23,
  Af [10] (Ls 25 2 24),
  Af [7, 11, 6, 10] (Ia 26 2 14 15),
  Af [12, 7, 11, 6, 10] (St 2 26 21),
  Af [13, 12, 7, 11, 6, 10] (Ia 27 2 16 17),
  Af [14, 13, 12, 7, 11, 6, 10] (St 2 27 25)]
def f283x2 : List AOper := [
  Mv 28 1,
  Bc 29 .add 28 1,
  Mv 30 2,
  Bc 31 .sub 30 1,
  Mv 12 29,
  Mv 13 31]
def f283x3 : List AOper := [
  Mv 32 12,
  Mv 33 13,
  Bi 34 .leq 32 33,
  Mv 35 34,
  Gt 35 (Mv 36 4),
  Gt 35 (Mv 37 0),
  Gt 35 (Mv 38 12),
  Gt 35 (Ia 39 2 37 38),
  Af [7] (Gt 35 (Ls 40 2 39)),
  Gt 35 (Mv 41 0),
  Gt 35 (Mv 42 1),
  Gt 35 (Ia 43 2 41 42),
  Af [11] (Gt 35 (Ls 44 2 43)),
  Af [8, 12, 7, 11] (Gt 35 (Op 45 (.call (.t 36) [(.t 40), (.t 44)]))),
  Gt 35 (Bc 46 .lss 45 0),
  Pa 47 35 46]
def f283x4 : List AOper := [
  Mv 48 12,
  Bc 49 .add 48 1,
  Mv 12 49]
def f283x5L : ACode := (.seq (.seq (.region f283x3 true) (.cond (.t 47) .skip (.exit 0))) (.block 1 (.region f283x4 false)))
def f283x6 : List AOper := [
  Mv 50 12,
  Mv 51 13,
  Bi 52 .leq 50 51,
  Mv 53 52,
  Gt 53 (Mv 54 4),
  Gt 53 (Mv 55 0),
  Gt 53 (Mv 56 13),
  Gt 53 (Ia 57 2 55 56),
  Af [7] (Gt 53 (Ls 58 2 57)),
  Gt 53 (Mv 59 0),
  Gt 53 (Mv 60 1),
  Gt 53 (Ia 61 2 59 60),
  Af [11] (Gt 53 (Ls 62 2 61)),
  Af [8, 12, 7, 11] (Gt 53 (Op 63 (.call (.t 54) [(.t 58), (.t 62)]))),
  Gt 53 (Bc 64 .lss 63 0),
  Gt 53 (Un 65 .not 64),
  Pa 66 53 65]
def f283x7 : List AOper := [
  Mv 67 13,
  Bc 68 .sub 67 1,
  Mv 13 68]
def f283x8L : ACode := (.seq (.seq (.region f283x6 true) (.cond (.t 66) .skip (.exit 2))) (.block 3 (.region f283x7 false)))
def f283x9 : List AOper := [
  Mv 69 12,
  Mv 70 13,
  Bi 71 .gtr 69 70]
def f283x10 : List AOper := [
  Mv 72 0,
  Mv 73 13,
  Mv 74 0,
  Mv 75 1,
  Mv 76 0,
  Mv 77 1,
  Ia 78 2 76 77,
  Af [6] (Ls 79 2 78),
  Mv 80 0,
  Mv 81 13,
  Ia 82 2 80 81,
  Af [10] (Ls 83 2 82),
  Af [7, 11, 6, 10] (Ia 84 2 72 73),
  Af [12, 7, 11, 6, 10] (St 2 84 79),
  Af [13, 12, 7, 11, 6, 10] (Ia 85 2 74 75),
  Af [14, 13, 12, 7, 11, 6, 10] (St 2 85 83)]
def f283x11 : List AOper := [
  Mv 86 13,
  Mv 10 86,
  Mc 11 (.bool true)]
def f283x12 : List AOper := [
  Mv 87 0,
  Mv 88 12,
  Mv 89 0,
  Mv 90 13,
  Mv 91 0,
  Mv 92 13,
  Ia 93 2 91 92,
  Af [6] (Ls 94 2 93),
  Mv 95 0,
  Mv 96 12,
  Ia 97 2 95 96,
  Af [10] (Ls 98 2 97),
  Af [7, 11, 6, 10] (Ia 99 2 87 88),
  Af [12, 7, 11, 6, 10] (St 2 99 94),
  Af [13, 12, 7, 11, 6, 10] (Ia 100 2 89 90),
  Af [14, 13, 12, 7, 11, 6, 10] (St 2 100 98)]
def f283x13 : List AOper := [
  Mv 101 12,
  Bc 102 .add 101 1,
  Mv 12 102]
def f283x14 : List AOper := [
  Mv 103 13,
  Bc 104 .sub 103 1,
  Mv 13 104]
def f283x15 : List AOper := [
  Mv 105 12,
  Mv 106 13,
  Bi 107 .leq 105 106,
  Mv 108 107,
  Gt 108 (Mv 109 4),
  Gt 108 (Mv 110 0),
  Gt 108 (Mv 111 12),
  Gt 108 (Ia 112 2 110 111),
  Af [7] (Gt 108 (Ls 113 2 112)),
  Gt 108 (Mv 114 0),
  Gt 108 (Mv 115 1),
  Gt 108 (Ia 116 2 114 115),
  Af [11] (Gt 108 (Ls 117 2 116)),
  Af [8, 12, 7, 11] (Gt 108 (Op 118 (.call (.t 109) [(.t 113), (.t 117)]))),
  Gt 108 (Bc 119 .lss 118 0),
  Pa 120 108 119]
def f283x16 : List AOper := [
  Mv 121 12,
  Bc 122 .add 121 1,
  Mv 12 122]
def f283x17L : ACode := (.seq (.seq (.region f283x15 true) (.cond (.t 120) .skip (.exit 6))) (.block 7 (.region f283x16 false)))
def f283x18 : List AOper := [
  Mv 123 12,
  Mv 124 13,
  Bi 125 .leq 123 124,
  Mv 126 125,
  Gt 126 (Mv 127 4),
  Gt 126 (Mv 128 0),
  Gt 126 (Mv 129 13),
  Gt 126 (Ia 130 2 128 129),
  Af [7] (Gt 126 (Ls 131 2 130)),
  Gt 126 (Mv 132 0),
  Gt 126 (Mv 133 1),
  Gt 126 (Ia 134 2 132 133),
  Af [11] (Gt 126 (Ls 135 2 134)),
  Af [8, 12, 7, 11] (Gt 126 (Op 136 (.call (.t 127) [(.t 131), (.t 135)]))),
  Gt 126 (Bc 137 .lss 136 0),
  Gt 126 (Un 138 .not 137),
  Pa 139 126 138]
def f283x19 : List AOper := [
  Mv 140 13,
  Bc 141 .sub 140 1,
  Mv 13 141]
def f283x20L : ACode := (.seq (.seq (.region f283x18 true) (.cond (.t 139) .skip (.exit 8))) (.block 9 (.region f283x19 false)))
def f283x21 : List AOper := [
  Mv 142 12,
  Mv 143 13,
  Bi 144 .gtr 142 143]
def f283x22 : List AOper := [
  Mv 145 0,
  Mv 146 12,
  Mv 147 0,
  Mv 148 13,
  Mv 149 0,
  Mv 150 13,
  Ia 151 2 149 150,
  Af [6] (Ls 152 2 151),
  Mv 153 0,
  Mv 154 12,
  Ia 155 2 153 154,
  Af [10] (Ls 156 2 155),
  Af [7, 11, 6, 10] (Ia 157 2 145 146),
  Af [12, 7, 11, 6, 10] (St 2 157 152),
  Af [13, 12, 7, 11, 6, 10] (Ia 158 2 147 148),
  Af [14, 13, 12, 7, 11, 6, 10] (St 2 158 156)]
def f283x23 : List AOper := [
  Mv 159 12,
  Bc 160 .add 159 1,
  Mv 12 160]
def f283x24 : List AOper := [
  Mv 161 13,
  Bc 162 .sub 161 1,
  Mv 13 162]
def f283x25L : ACode := (.block 5 (.seq (.block 6 (.loop f283x17L)) (.seq (.block 8 (.loop f283x20L)) (.seq (.seq (.region f283x21 false) (.cond (.t 144) (.exit 4) .skip)) (.seq (.region f283x22 true) (.seq (.region f283x23 false) (.region f283x24 false)))))))
def f283x26 : List AOper := [
  Mv 163 0,
  Mv 164 13,
  Mv 165 0,
  Mv 166 1,
  Mv 167 0,
  Mv 168 1,
  Ia 169 2 167 168,
  Af [6] (Ls 170 2 169),
  Mv 171 0,
  Mv 172 13,
  Ia 173 2 171 172,
  Af [10] (Ls 174 2 173),
  Af [7, 11, 6, 10] (Ia 175 2 163 164),
  Af [12, 7, 11, 6, 10] (St 2 175 170),
  Af [13, 12, 7, 11, 6, 10] (Ia 176 2 165 166),
  Af [14, 13, 12, 7, 11, 6, 10] (St 2 176 174)]
def f283x27 : List AOper := [
  Mv 177 13,
  Mv 10 177,
  Mc 11 (.bool false)]
def f283 : AFunc := ⟨178, 5, false, [.t 10, .t 11], (.seq (.region f283x0 false) (.seq (.region f283x1 true) (.seq (.region f283x2 false) (.seq (.block 0 (.loop f283x5L)) (.seq (.block 2 (.loop f283x8L)) (.seq (.seq (.region f283x9 false) (.cond (.t 71) (.seq (.region f283x10 true) (.seq (.region f283x11 false) .ret)) .skip)) (.seq (.region f283x12 true) (.seq (.region f283x13 false) (.seq (.region f283x14 false) (.seq (.block 4 (.loop f283x25L)) (.seq (.region f283x26 true) (.seq (.region f283x27 false) .ret))))))))))))⟩
def f284x0 : List AOper := [
  Mc 2 (.int .i64 0)]
def f284x1 : List AOper := [
  Mv 3 0,
  Op 4 (.bin .geq (.t 3) (.c (.int .u32 65536)))]
def f284x2 : List AOper := [
  Mv 5 0,
  Op 6 (.bin .shr (.t 5) (.c (.int .u64 16))),
  Mv 0 6]
def f284x3 : List AOper := [
  Mc 2 (.int .i64 16)]
def f284x4 : List AOper := [
  Mv 7 0,
  Op 8 (.bin .geq (.t 7) (.c (.int .u32 256)))]
def f284x5 : List AOper := [
  Mv 9 0,
  Op 10 (.bin .shr (.t 9) (.c (.int .u64 8))),
  Mv 0 10]
def f284x6 : List AOper := [
  Mv 11 2,
  Bc 12 .add 11 8,
  Mv 2 12]
def f284x7 : List AOper := [
  Mv 13 2,
  Mv 14 0,
  Cv 15 .u8 14,
  Op 16 (.istr (.c (.str [0, 1, 2, 2, 3, 3, 3, 3, 4, 4, 4, 4, 4, 4, 4, 4, 5, 5, 5, 5, 5, 5, 5, 5, 5, 5, 5, 5, 5, 5, 5, 5, 6, 6, 6, 6, 6, 6, 6, 6, 6, 6, 6, 6, 6, 6, 6, 6, 6, 6, 6, 6, 6, 6, 6, 6, 6, 6, 6, 6, 6, 6, 6, 6, 7, 7, 7, 7, 7, 7, 7, 7, 7, 7, 7, 7, 7, 7, 7, 7, 7, 7, 7, 7, 7, 7, 7, 7, 7, 7, 7, 7, 7, 7, 7, 7, 7, 7, 7, 7, 7, 7, 7, 7, 7, 7, 7, 7, 7, 7, 7, 7, 7, 7, 7, 7, 7, 7, 7, 7, 7, 7, 7, 7, 7, 7, 7, 7, 8, 8, 8, 8, 8, 8, 8, 8, 8, 8, 8, 8, 8, 8, 8, 8, 8, 8, 8, 8, 8, 8, 8, 8, 8, 8, 8, 8, 8, 8, 8, 8, 8, 8, 8, 8, 8, 8, 8, 8, 8, 8, 8, 8, 8, 8, 8, 8, 8, 8, 8, 8, 8, 8, 8, 8, 8, 8, 8, 8, 8, 8, 8, 8, 8, 8, 8, 8, 8, 8, 8, 8, 8, 8, 8, 8, 8, 8, 8, 8, 8, 8, 8, 8, 8, 8, 8, 8, 8, 8, 8, 8, 8, 8, 8, 8, 8, 8, 8, 8, 8, 8, 8, 8, 8, 8, 8, 8, 8, 8, 8, 8, 8, 8, 8, 8, 8, 8, 8, 8, 8, 8, 8, 8, 8, 8, 8, 8])) (.t 15)),
  Cv 17 .i64 16,
  Bi 18 .add 13 17,
  Mv 2 18]
def f284 : AFunc := ⟨19, 1, false, [.t 2], (.seq (.region f284x0 false) (.seq (.seq (.region f284x1 false) (.cond (.t 4) (.seq (.region f284x2 false) (.region f284x3 false)) .skip)) (.seq (.seq (.region f284x4 false) (.cond (.t 8) (.seq (.region f284x5 false) (.region f284x6 false)) .skip)) (.seq (.region f284x7 false) .ret))))⟩
def f285x0 : List AOper := [
  Mc 2 (.int .i64 0)]
def f285x1 : List AOper := [
  Mv 3 0,
  Op 4 (.bin .geq (.t 3) (.c (.int .u64 4294967296)))]
def f285x2 : List AOper := [
  Mv 5 0,
  Op 6 (.bin .shr (.t 5) (.c (.int .u64 32))),
  Mv 0 6]
def f285x3 : List AOper := [
  Mc 2 (.int .i64 32)]
def f285x4 : List AOper := [
  Mv 7 0,
  Op 8 (.bin .geq (.t 7) (.c (.int .u64 65536)))]
def f285x5 : List AOper := [
  Mv 9 0,
  Op 10 (.bin .shr (.t 9) (.c (.int .u64 16))),
  Mv 0 10]
def f285x6 : List AOper := [
  Mv 11 2,
  Bc 12 .add 11 16,
  Mv 2 12]
def f285x7 : List AOper := [
  Mv 13 0,
  Op 14 (.bin .geq (.t 13) (.c (.int .u64 256)))]
def f285x8 : List AOper := [
  Mv 15 0,
  Op 16 (.bin .shr (.t 15) (.c (.int .u64 8))),
  Mv 0 16]
def f285x9 : List AOper := [
  Mv 17 2,
  Bc 18 .add 17 8,
  Mv 2 18]
def f285x10 : List AOper := [
  Mv 19 2,
  Mv 20 0,
  Cv 21 .u8 20,
  Op 22 (.istr (.c (.str [0, 1, 2, 2, 3, 3, 3, 3, 4, 4, 4, 4, 4, 4, 4, 4, 5, 5, 5, 5, 5, 5, 5, 5, 5, 5, 5, 5, 5, 5, 5, 5, 6, 6, 6, 6, 6, 6, 6, 6, 6, 6, 6, 6, 6, 6, 6, 6, 6, 6, 6, 6, 6, 6, 6, 6, 6, 6, 6, 6, 6, 6, 6, 6, 7, 7, 7, 7, 7, 7, 7, 7, 7, 7, 7, 7, 7, 7, 7, 7, 7, 7, 7, 7, 7, 7, 7, 7, 7, 7, 7, 7, 7, 7, 7, 7, 7, 7, 7, 7, 7, 7, 7, 7, 7, 7, 7, 7, 7, 7, 7, 7, 7, 7, 7, 7, 7, 7, 7, 7, 7, 7, 7, 7, 7, 7, 7, 7, 8, 8, 8, 8, 8, 8, 8, 8, 8, 8, 8, 8, 8, 8, 8, 8, 8, 8, 8, 8, 8, 8, 8, 8, 8, 8, 8, 8, 8, 8, 8, 8, 8, 8, 8, 8, 8, 8, 8, 8, 8, 8, 8, 8, 8, 8, 8, 8, 8, 8, 8, 8, 8, 8, 8, 8, 8, 8, 8, 8, 8, 8, 8, 8, 8, 8, 8, 8, 8, 8, 8, 8, 8, 8, 8, 8, 8, 8, 8, 8, 8, 8, 8, 8, 8, 8, 8, 8, 8, 8, 8, 8, 8, 8, 8, 8, 8, 8, 8, 8, 8, 8, 8, 8, 8, 8, 8, 8, 8, 8, 8, 8, 8, 8, 8, 8, 8, 8, 8, 8, 8, 8, 8, 8, 8, 8, 8, 8])) (.t 21)),
  Cv 23 .i64 22,
  Bi 24 .add 19 23,
  Mv 2 24]
def f285 : AFunc := ⟨25, 1, false, [.t 2], (.seq (.region f285x0 false) (.seq (.seq (.region f285x1 false) (.cond (.t 4) (.seq (.region f285x2 false) (.region f285x3 false)) .skip)) (.seq (.seq (.region f285x4 false) (.cond (.t 8) (.seq (.region f285x5 false) (.region f285x6 false)) .skip)) (.seq (.seq (.region f285x7 false) (.cond (.t 14) (.seq (.region f285x8 false) (.region f285x9 false)) .skip)) (.seq (.region f285x10 false) .ret)))))⟩
def f286x0 : List AOper := [
  Mc 2 (.str [])]
def f286x1 : List AOper := [
  Mv 3 0,
  Bc 4 .lss 3 10]
def f286x2 : List AOper := [
  Mv 5 0,
  Mv 6 0,
  Bc 7 .add 6 1,
  Op 8 (.slstr (.c (.str [48, 49, 50, 51, 52, 53, 54, 55, 56, 57, 97, 98, 99, 100, 101, 102, 103, 104, 105, 106, 107, 108, 109, 110, 111, 112, 113, 114, 115, 116, 117, 118, 119, 120, 121, 122])) (some (.t 5)) (some (.t 7))),
  Mv 2 8]
def f286x3 : List AOper := [
  Mv 9 0,
  Bc 10 .mul 9 2,
  Mv 11 0,
  Bc 12 .mul 11 2,
  Bc 13 .add 12 2,
  Op 14 (.slstr (.c (.str [48, 48, 48, 49, 48, 50, 48, 51, 48, 52, 48, 53, 48, 54, 48, 55, 48, 56, 48, 57, 49, 48, 49, 49, 49, 50, 49, 51, 49, 52, 49, 53, 49, 54, 49, 55, 49, 56, 49, 57, 50, 48, 50, 49, 50, 50, 50, 51, 50, 52, 50, 53, 50, 54, 50, 55, 50, 56, 50, 57, 51, 48, 51, 49, 51, 50, 51, 51, 51, 52, 51, 53, 51, 54, 51, 55, 51, 56, 51, 57, 52, 48, 52, 49, 52, 50, 52, 51, 52, 52, 52, 53, 52, 54, 52, 55, 52, 56, 52, 57, 53, 48, 53, 49, 53, 50, 53, 51, 53, 52, 53, 53, 53, 54, 53, 55, 53, 56, 53, 57, 54, 48, 54, 49, 54, 50, 54, 51, 54, 52, 54, 53, 54, 54, 54, 55, 54, 56, 54, 57, 55, 48, 55, 49, 55, 50, 55, 51, 55, 52, 55, 53, 55, 54, 55, 55, 55, 56, 55, 57, 56, 48, 56, 49, 56, 50, 56, 51, 56, 52, 56, 53, 56, 54, 56, 55, 56, 56, 56, 57, 57, 48, 57, 49, 57, 50, 57, 51, 57, 52, 57, 53, 57, 54, 57, 55, 57, 56, 57, 57])) (some (.t 10)) (some (.t 13))),
  Mv 2 14]
def f286 : AFunc := ⟨15, 1, false, [.t 2], (.seq (.region f286x0 false) (.seq (.seq (.region f286x1 false) (.cond (.t 4) (.seq (.region f286x2 false) .ret) .skip)) (.seq (.region f286x3 false) .ret)))⟩
def f314x0 : List AOper := [
  Mc 10 (.int .i64 0),
  Mc 11 (.int .i64 0)]
def f314x1 : List AOper := [
  Mv 12 4,
  Mv 13 0,
  Mv 14 2,
  Ia 15 2 13 14,
  Af [3] (Ls 16 2 15),
  Mv 17 0,
  Mv 18 1,
  Ia 19 2 17 18,
  Af [7] (Ls 20 2 19),
  Af [4, 8, 3, 7] (Op 21 (.call (.t 12) [(.t 16), (.t 20)])),
  Bc 22 .lss 21 0]
def f314x2 : List AOper := [
  Mv 23 3,
  Nc 24 23,
  Ld 25 24,
  Bc 26 .add 25 1,
  Nc 27 23,
  St 1 27 26]
def f314x3 : List AOper := [
  Mv 28 2,
  Mv 29 1,
  Mv 10 28,
  Mv 11 29]
def f314x4 : List AOper := [
  Mv 30 1,
  Mv 31 2,
  Mv 10 30,
  Mv 11 31]
def f314 : AFunc := ⟨32, 5, false, [.t 10, .t 11], (.seq (.region f314x0 false) (.seq (.seq (.region f314x1 true) (.cond (.t 22) (.seq (.region f314x2 false) (.seq (.region f314x3 false) .ret)) .skip)) (.seq (.region f314x4 false) .ret)))⟩
def f317x0 : List AOper := [
  Mc 2 (.int .u8 0)]
def f317x1 : List AOper := [
  Mv 3 0,
  Op 4 (.bin .or (.t 3) (.c (.int .u8 32))),
  Mv 2 4]
def f317 : AFunc := ⟨5, 1, false, [.t 2], (.seq (.region f317x0 false) (.seq (.region f317x1 false) .ret))⟩
def f318x0 : List AOper := [
  Mc 2 (.bool false)]
def f318x1 : List AOper := [
  Mc 3 (.int .i32 94)]
def f318x2 : List AOper := [
  Mc 4 (.int .i64 0)]
def f318x3 : List AOper := [
  Mv 6 0,
  Ln 7 1 6,
  Bc 8 .geq 7 1,
  Mv 9 8,
  Gt 9 (Mv 10 0),
  Gt 9 (Op 11 (.istr (.t 10) (.c (.int .i64 0)))),
  Gt 9 (Op 12 (.bin .eql (.t 11) (.c (.int .u8 45)))),
  Gt 9 (Mv 13 12),
  Gf 13 (Mv 14 0),
  Gf 13 (Op 15 (.istr (.t 14) (.c (.int .i64 0)))),
  Gf 13 (Op 16 (.bin .eql (.t 15) (.c (.int .u8 43)))),
  Gt 9 (Po 17 13 16),
  Pa 18 9 17]
def f318x4 : List AOper := [
  Mv 19 0,
  Op 20 (.slstr (.t 19) (some (.c (.int .i64 1))) none),
  Mv 0 20]
def f318x5 : List AOper := [
  Mc 5 (.bool false)]
def f318x6 : List AOper := [
  Mv 21 0,
  Ln 22 1 21,
  Bc 23 .geq 22 2,
  Mv 24 23,
  Gt 24 (Mv 25 0),
  Gt 24 (Op 26 (.istr (.t 25) (.c (.int .i64 0)))),
  Gt 24 (Op 27 (.bin .eql (.t 26) (.c (.int .u8 48)))),
  Pa 28 24 27,
  Mv 29 28,
  Gt 29 (Mv 30 0),
  Gt 29 (Op 31 (.istr (.t 30) (.c (.int .i64 1)))),
  Gt 29 (Ct 32 317 [31]),
  Gt 29 (Op 33 (.bin .eql (.t 32) (.c (.int .u8 98)))),
  Gt 29 (Mv 34 33),
  Gf 34 (Mv 35 0),
  Gf 34 (Op 36 (.istr (.t 35) (.c (.int .i64 1)))),
  Gf 34 (Ct 37 317 [36]),
  Gf 34 (Op 38 (.bin .eql (.t 37) (.c (.int .u8 111)))),
  Gt 29 (Po 39 34 38),
  Gt 29 (Mv 40 39),
  Gf 40 (Mv 41 0),
  Gf 40 (Op 42 (.istr (.t 41) (.c (.int .i64 1)))),
  Gf 40 (Ct 43 317 [42]),
  Gf 40 (Op 44 (.bin .eql (.t 43) (.c (.int .u8 120)))),
  Gt 29 (Po 45 40 44),
  Pa 46 29 45]
def f318x7 : List AOper := [
  Mc 4 (.int .i64 2)]
def f318x8 : List AOper := [
  Mc 3 (.int .i32 48)]
def f318x9 : List AOper := [
  Mv 47 0,
  Op 48 (.istr (.t 47) (.c (.int .i64 1))),
  Ct 49 317 [48],
  Op 50 (.bin .eql (.t 49) (.c (.int .u8 120))),
  Mv 5 50]
def f318x10 : List AOper := [
  Mv 51 4,
  Mv 52 0,
  Ln 53 1 52,
  Bi 54 .lss 51 53]
def f318x11 : List AOper := [
  Mv 57 0,
  Mv 58 4,
  Op 59 (.istr (.t 57) (.t 58)),
  Op 60 (.bin .leq (.c (.int .u8 48)) (.t 59)),
  Mv 61 60,
  Gt 61 (Mv 62 0),
  Gt 61 (Mv 63 4),
  Gt 61 (Op 64 (.istr (.t 62) (.t 63))),
  Gt 61 (Op 65 (.bin .leq (.t 64) (.c (.int .u8 57)))),
  Pa 66 61 65,
  Mv 67 66,
  Gf 67 (Mv 68 5),
  Gf 67 (Mv 69 68),
  Gt 69 (Mv 70 0),
  Gt 69 (Mv 71 4),
  Gt 69 (Op 72 (.istr (.t 70) (.t 71))),
  Gt 69 (Ct 73 317 [72]),
  Gt 69 (Op 74 (.bin .leq (.c (.int .u8 97)) (.t 73))),
  Gf 67 (Pa 75 69 74),
  Gf 67 (Mv 76 75),
  Gt 76 (Mv 77 0),
  Gt 76 (Mv 78 4),
  Gt 76 (Op 79 (.istr (.t 77) (.t 78))),
  Gt 76 (Ct 80 317 [79]),
  Gt 76 (Op 81 (.bin .leq (.t 80) (.c (.int .u8 102)))),
  Gf 67 (Pa 82 76 81),
  Po 83 67 82]
def f318x12 : List AOper := [
  Mc 3 (.int .i32 48)]
def f318x13 : List AOper := [
  Mv 84 0,
  Mv 85 4,
  Op 86 (.istr (.t 84) (.t 85)),
  Op 87 (.bin .eql (.t 86) (.c (.int .u8 95)))]
def f318x14 : List AOper := [
  Mv 88 3,
  Op 89 (.bin .neq (.t 88) (.c (.int .i32 48)))]
def f318x15 : List AOper := [
  Mc 2 (.bool false)]
def f318x16 : List AOper := [
  Mc 3 (.int .i32 95)]
def f318x17 : List AOper := [
  Mv 90 3,
  Op 91 (.bin .eql (.t 90) (.c (.int .i32 95)))]
def f318x18 : List AOper := [
  Mc 2 (.bool false)]
def f318x19 : List AOper := [
  Mc 3 (.int .i32 33)]
def f318x20 : List AOper := [
  Mv 55 4,
  Bc 56 .add 55 1,
  Mv 4 56]
def f318x21L : ACode := (.seq (.seq (.region f318x10 false) (.cond (.t 54) .skip (.exit 0))) (.seq (.block 1 (.seq (.seq (.region f318x11 false) (.cond (.t 83) (.seq (.region f318x12 false) (.exit 1)) .skip)) (.seq (.seq (.region f318x13 false) (.cond (.t 87) (.seq (.seq (.region f318x14 false) (.cond (.t 89) (.seq (.region f318x15 false) .ret) .skip)) (.seq (.region f318x16 false) (.exit 1))) .skip)) (.seq (.seq (.region f318x17 false) (.cond (.t 91) (.seq (.region f318x18 false) .ret) .skip)) (.region f318x19 false))))) (.region f318x20 false)))
def f318x22 : List AOper := [
  Mv 92 3,
  Op 93 (.bin .neq (.t 92) (.c (.int .i32 95))),
  Mv 2 93]
def f318 : AFunc := ⟨94, 1, false, [.t 2], (.seq (.region f318x0 false) (.seq (.region f318x1 false) (.seq (.region f318x2 false) (.seq (.seq (.region f318x3 false) (.cond (.t 18) (.region f318x4 false) .skip)) (.seq (.region f318x5 false) (.seq (.seq (.region f318x6 false) (.cond (.t 46) (.seq (.region f318x7 false) (.seq (.region f318x8 false) (.region f318x9 false))) .skip)) (.seq (.block 0 (.loop f318x21L)) (.seq (.region f318x22 false) .ret))))))))⟩
end Go.AM.IR
namespace Go.AM.IR
def G (f : Nat) : Fun := bif Nat.blt f 229 then (bif Nat.blt f 214 then (bif Nat.blt f 183 then (bif Nat.blt f 179 then (bif Nat.blt f 172 then (bif Nat.beq f 139 then .code f139 else .none) else (bif Nat.blt f 178 then (bif Nat.beq f 172 then .code f172 else .none) else (bif Nat.beq f 178 then .code f178 else .none))) else (bif Nat.blt f 181 then (bif Nat.blt f 180 then (bif Nat.beq f 179 then .code f179 else .none) else (bif Nat.beq f 180 then .code f180 else .none)) else (bif Nat.blt f 182 then (bif Nat.beq f 181 then .code f181 else .none) else (bif Nat.beq f 182 then .code f182 else .none)))) else (bif Nat.blt f 186 then (bif Nat.blt f 184 then (bif Nat.beq f 183 then .code f183 else .none) else (bif Nat.blt f 185 then (bif Nat.beq f 184 then .code f184 else .none) else (bif Nat.beq f 185 then .code f185 else .none))) else (bif Nat.blt f 212 then (bif Nat.blt f 211 then (bif Nat.beq f 186 then .code f186 else .none) else (bif Nat.beq f 211 then .code f211 else .none)) else (bif Nat.blt f 213 then (bif Nat.beq f 212 then .code f212 else .none) else (bif Nat.beq f 213 then .code f213 else .none))))) else (bif Nat.blt f 221 then (bif Nat.blt f 217 then (bif Nat.blt f 215 then (bif Nat.beq f 214 then .code f214 else .none) else (bif Nat.blt f 216 then (bif Nat.beq f 215 then .code f215 else .none) else (bif Nat.beq f 216 then .code f216 else .none))) else (bif Nat.blt f 219 then (bif Nat.blt f 218 then (bif Nat.beq f 217 then .code f217 else .none) else (bif Nat.beq f 218 then .code f218 else .none)) else (bif Nat.blt f 220 then (bif Nat.beq f 219 then .code f219 else .none) else (bif Nat.beq f 220 then .code f220 else .none)))) else (bif Nat.blt f 225 then (bif Nat.blt f 223 then (bif Nat.blt f 222 then (bif Nat.beq f 221 then .code f221 else .none) else (bif Nat.beq f 222 then .code f222 else .none)) else (bif Nat.blt f 224 then (bif Nat.beq f 223 then .code f223 else .none) else (bif Nat.beq f 224 then .code f224 else .none))) else (bif Nat.blt f 227 then (bif Nat.blt f 226 then (bif Nat.beq f 225 then .code f225 else .none) else (bif Nat.beq f 226 then .code f226 else .none)) else (bif Nat.blt f 228 then (bif Nat.beq f 227 then .code f227 else .none) else (bif Nat.beq f 228 then .code f228 else .none)))))) else (bif Nat.blt f 244 then (bif Nat.blt f 236 then (bif Nat.blt f 232 then (bif Nat.blt f 230 then (bif Nat.beq f 229 then .code f229 else .none) else (bif Nat.blt f 231 then (bif Nat.beq f 230 then .code f230 else .none) else (bif Nat.beq f 231 then .code f231 else .none))) else (bif Nat.blt f 234 then (bif Nat.blt f 233 then (bif Nat.beq f 232 then .code f232 else .none) else (bif Nat.beq f 233 then .code f233 else .none)) else (bif Nat.blt f 235 then (bif Nat.beq f 234 then .code f234 else .none) else (bif Nat.beq f 235 then .code f235 else .none)))) else (bif Nat.blt f 240 then (bif Nat.blt f 238 then (bif Nat.blt f 237 then (bif Nat.beq f 236 then .code f236 else .none) else (bif Nat.beq f 237 then .code f237 else .none)) else (bif Nat.blt f 239 then (bif Nat.beq f 238 then .code f238 else .none) else (bif Nat.beq f 239 then .code f239 else .none))) else (bif Nat.blt f 242 then (bif Nat.blt f 241 then (bif Nat.beq f 240 then .code f240 else .none) else (bif Nat.beq f 241 then .code f241 else .none)) else (bif Nat.blt f 243 then (bif Nat.beq f 242 then .code f242 else .none) else (bif Nat.beq f 243 then .code f243 else .none))))) else (bif Nat.blt f 251 then (bif Nat.blt f 247 then (bif Nat.blt f 245 then (bif Nat.beq f 244 then .code f244 else .none) else (bif Nat.blt f 246 then (bif Nat.beq f 245 then .code f245 else .none) else (bif Nat.beq f 246 then .prim false pItoa else .none))) else (bif Nat.blt f 249 then (bif Nat.blt f 248 then (bif Nat.beq f 247 then .prim false pJoin else .none) else (bif Nat.beq f 248 then .code f248 else .none)) else (bif Nat.blt f 250 then (bif Nat.beq f 249 then .prim false pSplit else .none) else (bif Nat.beq f 250 then .code f250 else .none)))) else (bif Nat.blt f 255 then (bif Nat.blt f 253 then (bif Nat.blt f 252 then (bif Nat.beq f 251 then .code f251 else .none) else (bif Nat.beq f 252 then .prim false pCut else .none)) else (bif Nat.blt f 254 then (bif Nat.beq f 253 then .code f253 else .none) else (bif Nat.beq f 254 then .prim false pClone else .none))) else (bif Nat.blt f 257 then (bif Nat.blt f 256 then (bif Nat.beq f 255 then .prim true (pSort 172 ltPair) else .none) else (bif Nat.beq f 256 then .code f256 else .none)) else (bif Nat.blt f 263 then (bif Nat.beq f 257 then .code f257 else .none) else (bif Nat.beq f 263 then .prim false (pAtoi 116) else .none))))))
end Go.AM.IR
namespace Go.AM.IR
def encI (x : Int) : List AV := [.int .i64 x]
def encU (x : Int) : List AV := [.int .u32 x]
structure Seg where
  kind : Int
  as : List Int
def Seg.enc (s : Seg) : List AV := [.int .i64 s.kind, .sl 1 (s.as.map encI)]
structure TLV where
  kind : Int
  value : List UInt8
def TLV.enc (s : TLV) : List AV := [.int .i64 s.kind, .sl 1 (byteCells s.value)]
structure Attrs where
  origin : Int
  path : List Seg
  nextHop : Int
  hasMED : Bool
  med : Int
  hasPref : Bool
  pref : Int
  atomic : Bool
  hasAggr : Bool
  aggrAS : Int
  aggrAddr : Int
  comms : List Int
  hasOrig : Bool
  orig : Int
  clusters : List Int
  unknown : List TLV
def Attrs.enc (a : Attrs) : List AV := [.int .i64 a.origin, .sl 2 (a.path.map Seg.enc), .int .u32 a.nextHop, .bool a.hasMED, .int .i64 a.med, .bool a.hasPref, .int .i64 a.pref, .bool a.atomic, .bool a.hasAggr, .int .i64 a.aggrAS, .int .u32 a.aggrAddr,
  .sl 1 (a.comms.map encU), .bool a.hasOrig, .int .u32 a.orig, .sl 1 (a.clusters.map encU), .sl 2 (a.unknown.map TLV.enc)]
structure PVRoute where
  paddr : Int
  plen : Int
  attrs : Attrs
  peer : Int
  kind : Int
  router : Int
  stale : Bool
def PVRoute.enc (r : PVRoute) : List AV := [.int .u32 r.paddr, .int .i64 r.plen,
  .int .i64 r.attrs.origin, .sl 2 (r.attrs.path.map Seg.enc), .int .u32 r.attrs.nextHop, .bool r.attrs.hasMED, .int .i64 r.attrs.med, .bool r.attrs.hasPref, .int .i64 r.attrs.pref, .bool r.attrs.atomic, .bool r.attrs.hasAggr, .int .i64 r.attrs.aggrAS, .int .u32 r.attrs.aggrAddr,
  .sl 1 (r.attrs.comms.map encU), .bool r.attrs.hasOrig, .int .u32 r.attrs.orig, .sl 1 (r.attrs.clusters.map encU), .sl 2 (r.attrs.unknown.map TLV.enc),
  .int .i64 r.peer, .int .i64 r.kind, .int .u32 r.router, .bool r.stale]
structure IGP where
  addr : Int
  cost : Int
def IGP.enc (c : IGP) : List AV := [.int .u32 c.addr, .int .i64 c.cost]
theorem pureLL_map {α : Type} {f : α → List AV} (h : ∀ x, pureL (f x) = true) : ∀ l : List α, pureLL (l.map f) = true
  | [] => rfl
  | x :: r => by simp only [List.map_cons, pureLL, h x, pureLL_map h r, Bool.and_self]
theorem pureLL_bytes : ∀ l : List UInt8, pureLL (byteCells l) = true := fun l => pureLL_map (f := fun b : UInt8 => [AV.int .u8 (b.toNat : Int)]) (fun _ => rfl) l
@[simp] theorem pure_encI (l : List Int) : pureLL (l.map encI) = true := pureLL_map (fun _ => rfl) l
@[simp] theorem pure_encU (l : List Int) : pureLL (l.map encU) = true := pureLL_map (fun _ => rfl) l
theorem Seg.pure (s : Seg) : pureL s.enc = true := by simp [Seg.enc, pureL, AV.pure]
@[simp] theorem pure_segs (l : List Seg) : pureLL (l.map Seg.enc) = true := pureLL_map Seg.pure l
theorem TLV.pure (s : TLV) : pureL s.enc = true := by simp [TLV.enc, pureL, AV.pure, pureLL_bytes]
@[simp] theorem pure_tlvs (l : List TLV) : pureLL (l.map TLV.enc) = true := pureLL_map TLV.pure l
@[simp] theorem Attrs.pure (s : Attrs) : pureL s.enc = true := by simp [Attrs.enc, pureL, AV.pure]
@[simp] theorem PVRoute.pure (s : PVRoute) : pureL s.enc = true := by simp [PVRoute.enc, pureL, AV.pure]
@[simp] theorem pure_routes (l : List PVRoute) : pureLL (l.map PVRoute.enc) = true := pureLL_map PVRoute.pure l
@[simp] theorem pure_igps (l : List IGP) : pureLL (l.map IGP.enc) = true := pureLL_map (fun _ => rfl) l
end Go.AM.IR
namespace Go.AM.IR
theorem lift_enc {α : Type} {e : List AV → Prop} {enc : α → List AV} {Q : α → Prop} (h : ∀ x, e x → ∃ a, x = enc a ∧ Q a) : ∀ es : List (List AV), (∀ x ∈ es, e x) → ∃ l : List α, es = l.map enc ∧ ∀ a ∈ l, Q a
  | [], _ => ⟨[], rfl, by simp⟩
  | x :: r, hx => by
    obtain ⟨a, rfl, ha⟩ := h x (hx x (by simp))
    obtain ⟨l, rfl, hl⟩ := lift_enc h r fun y hy => hx y (by simp [hy])
    exact ⟨a :: l, rfl, by simpa using ⟨ha, hl⟩⟩
def okI (x : Int) : Prop := -9223372036854775808 ≤ x ∧ x ≤ 9223372036854775807
def okU (x : Int) : Prop := 0 ≤ x ∧ x ≤ 4294967295
theorem T_i64 {as : List AV} (h : Ty.T (.int .i64) as) : ∃ x, as = encI x ∧ okI x := by
  obtain ⟨n, rfl, h1, h2⟩ := h
  exact ⟨n, rfl, by simpa [IntKind.min, IntKind.max, IntKind.signed, IntKind.bits, okI] using And.intro h1 h2⟩
theorem T_u32 {as : List AV} (h : Ty.T (.int .u32) as) : ∃ x, as = encU x ∧ okU x := by
  obtain ⟨n, rfl, h1, h2⟩ := h
  exact ⟨n, rfl, by simpa [IntKind.min, IntKind.max, IntKind.signed, IntKind.bits, okU] using And.intro h1 h2⟩
theorem T_sl {α : Type} {τ : Ty} {enc : α → List AV} {Q : α → Prop} (h : ∀ x, τ.T x → ∃ a, x = enc a ∧ Q a) {as : List AV} (hs : Ty.T (.sl τ) as) : ∃ l : List α, as = [.sl τ.cells (l.map enc)] ∧ ∀ a ∈ l, Q a := by
  obtain ⟨es, rfl, h1, _⟩ := hs
  obtain ⟨l, rfl, h2⟩ := lift_enc h es h1
  exact ⟨l, rfl, h2⟩
structure Seg.ok (s : Seg) : Prop where
  kind : okI s.kind
  as : ∀ x ∈ s.as, okI x
structure TLV.ok (s : TLV) : Prop where
  kind : okI s.kind
structure IGP.ok (s : IGP) : Prop where
  addr : okU s.addr
  cost : okI s.cost
structure Attrs.ok (a : Attrs) : Prop where
  origin : okI a.origin
  path : ∀ s ∈ a.path, s.ok
  nextHop : okU a.nextHop
  med : okI a.med
  pref : okI a.pref
  aggrAS : okI a.aggrAS
  aggrAddr : okU a.aggrAddr
  comms : ∀ x ∈ a.comms, okU x
  orig : okU a.orig
  clusters : ∀ x ∈ a.clusters, okU x
  unknown : ∀ x ∈ a.unknown, x.ok
structure PVRoute.ok (r : PVRoute) : Prop where
  paddr : okU r.paddr
  plen : okI r.plen
  attrs : r.attrs.ok
  peer : okI r.peer
  kind : okI r.kind
  router : okU r.router
end Go.AM.IR
namespace Go.AM.IR
structure Pfx where
  addr : Int
  len : Int
  deriving DecidableEq
def Pfx.enc (p : Pfx) : List AV := [.int .u32 p.addr, .int .i64 p.len]
structure Cap where
  code : Int
  value : List UInt8
  deriving DecidableEq
def Cap.enc (p : Cap) : List AV := [.int .i64 p.code, .sl 1 (byteCells p.value)]
structure PMsg where
  kind : Int
  version : Int
  as : Int
  hold : Int
  router : Int
  caps : List Cap
  withdrawn : List Pfx
  attrs : Attrs
  reach : List Pfx
  code : Int
  sub : Int
  data : List UInt8
def PMsg.enc (m : PMsg) : List AV := [.int .i64 m.kind, .int .i64 m.version, .int .i64 m.as, .int .i64 m.hold, .int .u32 m.router, .sl 2 (m.caps.map Cap.enc), .sl 2 (m.withdrawn.map Pfx.enc),
  .int .i64 m.attrs.origin, .sl 2 (m.attrs.path.map Seg.enc), .int .u32 m.attrs.nextHop, .bool m.attrs.hasMED, .int .i64 m.attrs.med, .bool m.attrs.hasPref, .int .i64 m.attrs.pref, .bool m.attrs.atomic, .bool m.attrs.hasAggr, .int .i64 m.attrs.aggrAS, .int .u32 m.attrs.aggrAddr,
  .sl 1 (m.attrs.comms.map encU), .bool m.attrs.hasOrig, .int .u32 m.attrs.orig, .sl 1 (m.attrs.clusters.map encU), .sl 2 (m.attrs.unknown.map TLV.enc),
  .sl 2 (m.reach.map Pfx.enc), .int .i64 m.code, .int .i64 m.sub, .sl 1 (byteCells m.data)]
structure Peer where
  kind : Int
  as : Int
  addr : Int
  loc : Int
  client : Bool
  hold : Int
  restart : Int
  imp : List UInt8
  exp : List UInt8
  nextSelf : Bool
  damp : Bool
def Peer.enc (p : Peer) : List AV := [.int .i64 p.kind, .int .i64 p.as, .int .u32 p.addr, .int .u32 p.loc, .bool p.client, .int .i64 p.hold, .int .i64 p.restart, .str p.imp, .str p.exp, .bool p.nextSelf, .bool p.damp]
structure Conf where
  as : Int
  confed : Int
  router : Int
  cluster : Int
  peers : List Peer
  nets : AV
  p1 : AV
  p2 : AV
  p3 : AV
  p4 : AV
  d1 : Int
  d2 : Int
  d3 : Int
  d4 : Int
  multi : Int
def Conf.enc (c : Conf) : List AV := [.int .i64 c.as, .int .i64 c.confed, .int .u32 c.router, .int .u32 c.cluster, .sl 11 (c.peers.map Peer.enc), c.nets, c.p1, c.p2, c.p3, c.p4, .int .i64 c.d1, .int .i64 c.d2, .int .i64 c.d3, .int .i64 c.d4, .int .i64 c.multi]
structure Ses where
  state : Int
  retry : Int
  hold : Int
  keep : Int
  holdTime : Int
  router : Int
  restart : Int
  refresh : Bool
  untl : Int
def Ses.enc (s : Ses) : List AV := [.int .i64 s.state, .int .i64 s.retry, .int .i64 s.hold, .int .i64 s.keep, .int .i64 s.holdTime, .int .u32 s.router, .int .i64 s.restart, .bool s.refresh, .int .i64 s.untl]
structure Act where
  kind : Int
  msg : PMsg
def Act.enc (a : Act) : List AV := .int .i64 a.kind :: a.msg.enc
theorem Pfx.pure (s : Pfx) : pureL s.enc = true := rfl
@[simp] theorem pure_pfxs (l : List Pfx) : pureLL (l.map Pfx.enc) = true := pureLL_map Pfx.pure l
theorem Cap.pure (s : Cap) : pureL s.enc = true := by simp [Cap.enc, pureL, AV.pure, pureLL_bytes]
@[simp] theorem pure_caps (l : List Cap) : pureLL (l.map Cap.enc) = true := pureLL_map Cap.pure l
@[simp] theorem PMsg.pure (s : PMsg) : pureL s.enc = true := by simp [PMsg.enc, pureL, AV.pure, pureLL_bytes]
theorem Peer.pure (s : Peer) : pureL s.enc = true := rfl
@[simp] theorem pure_peers (l : List Peer) : pureLL (l.map Peer.enc) = true := pureLL_map Peer.pure l
@[simp] theorem Ses.pure (s : Ses) : pureL s.enc = true := rfl
@[simp] theorem Act.pure (s : Act) : pureL s.enc = true := by simp [Act.enc, pureL, AV.pure]
@[simp] theorem pure_acts (l : List Act) : pureLL (l.map Act.enc) = true := pureLL_map Act.pure l
structure Conf.ok (c : Conf) : Prop where
  nets : c.nets.pure = true
  p1 : c.p1.pure = true
  p2 : c.p2.pure = true
  p3 : c.p3.pure = true
  p4 : c.p4.pure = true
  as : okI c.as
  confed : okI c.confed
  router : okU c.router
  peers : ∀ p ∈ c.peers, okI p.as ∧ okI p.hold ∧ okI p.restart ∧ okI p.kind
  len : c.peers.length ≤ maxLen
theorem Conf.pure {c : Conf} (h : c.ok) : pureL c.enc = true := by simp [Conf.enc, pureL, AV.pure, h.nets, h.p1, h.p2, h.p3, h.p4]
def tPfx : Ty := .st [.int .u32, .int .i64]
structure Pfx.ok (p : Pfx) : Prop where
  addr : okU p.addr
  len : okI p.len
theorem T_pfx {as : List AV} (h : tPfx.T as) : ∃ s : Pfx, as = s.enc ∧ s.ok := by
  simp only [tPfx, Ty.T.eq_5, TT] at h
  obtain ⟨a1, b1, rfl, h1, a2, b2, rfl, h2, rfl⟩ := h
  obtain ⟨x1, rfl, k1⟩ := T_u32 h1
  obtain ⟨x2, rfl, k2⟩ := T_i64 h2
  exact ⟨⟨x1, x2⟩, rfl, k1, k2⟩
structure PMsg.ok (m : PMsg) : Prop where
  kind : okI m.kind
  version : okI m.version
  as : okI m.as
  hold : okI m.hold
  router : okU m.router
  caps : ∀ c ∈ m.caps, okI c.code
  withdrawn : ∀ p ∈ m.withdrawn, p.ok
  attrs : m.attrs.ok
  reach : ∀ p ∈ m.reach, p.ok
  code : okI m.code
  sub : okI m.sub
structure Ses.ok (s : Ses) : Prop where
  state : okI s.state
  retry : okI s.retry
  hold : okI s.hold
  keep : okI s.keep
  holdTime : okI s.holdTime
  router : okU s.router
  restart : okI s.restart
  untl : okI s.untl
end Go.AM.IR
set_option maxHeartbeats 4000000
set_option maxRecDepth 20000
namespace Go.AM.IR
section
variable {k : AV → Prop}
end
end Go.AM.IR
namespace Go.AM.IR
end Go.AM.IR
namespace Go.AM.IR
def cmpP (p q : Pfx) : Int := if p.addr < q.addr ∨ (p.addr = q.addr ∧ p.len < q.len) then -1 else if p = q then 0 else 1
theorem cmp_gives180 (p q : Pfx) : Gives G 180 [.agg p.enc, .agg q.enc] [] ⟨.int .i64 (cmpP p q), []⟩ := by
  have hee : (p = q) ↔ (p.addr = q.addr ∧ p.len = q.len) := by cases p; cases q; simp
  by_cases h1 : p.addr < q.addr
  · rw [show cmpP p q = -1 from by simp [cmpP, h1]]
    refine gives_code (F := f180) rfl rfl (W_ok 300 _ _ _ _ ?_)
    repeat' (first | refine stpA ?_ | (refine condS ?_ ?_ <;> intro h))
    all_goals ((first | refine fin1 ?_ | refine fin0 ?_); first | rfl | (exfalso; omega))
  · by_cases h2 : p.addr = q.addr
    · by_cases h3 : p.len < q.len
      · rw [show cmpP p q = -1 from by simp [cmpP, h2, h3]]
        refine gives_code (F := f180) rfl rfl (W_ok 300 _ _ _ _ ?_)
        repeat' (first | refine stpA ?_ | (refine condS ?_ ?_ <;> intro h))
        all_goals ((first | refine fin1 ?_ | refine fin0 ?_); first | rfl | (exfalso; omega))
      · by_cases h4 : p.len = q.len
        · rw [show cmpP p q = 0 from by simp [cmpP, h2, h4, hee]]
          refine gives_code (F := f180) rfl rfl (W_ok 300 _ _ _ _ ?_)
          repeat' (first | refine stpA ?_ | (refine condS ?_ ?_ <;> intro h))
          all_goals ((first | refine fin1 ?_ | refine fin0 ?_); first | rfl | (exfalso; omega))
        · rw [show cmpP p q = 1 from by simp [cmpP, h2, h3, h4, hee]]
          refine gives_code (F := f180) rfl rfl (W_ok 300 _ _ _ _ ?_)
          repeat' (first | refine stpA ?_ | (refine condS ?_ ?_ <;> intro h))
          all_goals ((first | refine fin1 ?_ | refine fin0 ?_); first | rfl | (exfalso; omega))
    · rw [show cmpP p q = 1 from by simp [cmpP, h1, h2, hee]]
      refine gives_code (F := f180) rfl rfl (W_ok 300 _ _ _ _ ?_)
      repeat' (first | refine stpA ?_ | (refine condS ?_ ?_ <;> intro h))
      all_goals ((first | refine fin1 ?_ | refine fin0 ?_); first | rfl | (exfalso; omega))
end Go.AM.IR
namespace Go.AM.IR
end Go.AM.IR
namespace Go.AM.IR
theorem lives226_gives : Gives G 226 [] [] ⟨.bool true, []⟩ := gives_run 100000 rfl rfl (by kernel_rfl)
end Go.AM.IR
namespace Go.AM.IR
theorem cmpP_zero (p q : Pfx) : cmpP p q = 0 ↔ (p.addr = q.addr ∧ p.len = q.len) := by
  have hee : (p = q) ↔ (p.addr = q.addr ∧ p.len = q.len) := by cases p; cases q; simp
  unfold cmpP
  rw [← hee]
  split
  · rename_i h
    constructor
    · intro h1; omega
    · rintro rfl; omega
  · split <;> simp_all
theorem cmpP_swap (p q : Pfx) : cmpP q p = - cmpP p q := by
  have hee : (p = q) ↔ (p.addr = q.addr ∧ p.len = q.len) := by cases p; cases q; simp
  have hee2 : (q = p) ↔ (p.addr = q.addr ∧ p.len = q.len) := by rw [← hee]; exact eq_comm
  unfold cmpP
  simp only [hee, hee2]
  repeat' split
  all_goals omega
theorem cmpP_trans (p q r : Pfx) (h1 : cmpP p q ≤ 0) (h2 : cmpP q r ≤ 0) : cmpP p r ≤ 0 := by
  have e1 : (p = q) ↔ (p.addr = q.addr ∧ p.len = q.len) := by cases p; cases q; simp
  have e2 : (q = r) ↔ (q.addr = r.addr ∧ q.len = r.len) := by cases q; cases r; simp
  have e3 : (p = r) ↔ (p.addr = r.addr ∧ p.len = r.len) := by cases p; cases r; simp
  unfold cmpP at *
  simp only [e1, e2, e3] at *
  repeat' split at h1
  all_goals repeat' split at h2
  all_goals repeat' split
  all_goals omega
theorem cmpP_rng (p q : Pfx) : -1 ≤ cmpP p q ∧ cmpP p q ≤ 1 := by
  unfold cmpP; repeat' split
  all_goals omega
end Go.AM.IR
namespace Go.AM.IR
def ltP (p q : Pfx) : Prop := cmpP p q < 0
instance (p q : Pfx) : Decidable (ltP p q) := by unfold ltP; infer_instance
theorem cmpP_eq {p q : Pfx} : cmpP p q = 0 ↔ p = q := by rw [cmpP_zero]; cases p; cases q; simp
theorem ltP_irrefl (p : Pfx) : ¬ ltP p p := by have := (cmpP_eq (p := p) (q := p)).2 rfl; unfold ltP; omega
theorem ltP_trans {p q r : Pfx} (h1 : ltP p q) (h2 : ltP q r) : ltP p r := by
  unfold ltP at *
  have h3 := cmpP_trans p q r (by omega) (by omega)
  by_cases h : cmpP p r = 0
  · obtain rfl := cmpP_eq.1 h
    have := cmpP_swap p q; omega
  · omega
theorem ltP_tri {p q : Pfx} (h : p ≠ q) : ltP p q ∨ ltP q p := by
  have h0 : cmpP p q ≠ 0 := fun e => h (cmpP_eq.1 e)
  have := cmpP_swap p q
  unfold ltP; omega
theorem not_ltP {p q : Pfx} (h : ¬ ltP q p) : p = q ∨ ltP p q := by
  by_cases e : p = q
  · exact .inl e
  · exact .inr ((ltP_tri e).resolve_right h)
theorem strict_unique : ∀ (a b : List Pfx), a.Pairwise ltP → b.Pairwise ltP → (∀ x, x ∈ a ↔ x ∈ b) → a = b
  | [], [], _, _, _ => rfl
  | [], y :: b, _, _, h => by have := (h y).2 (by simp); simp at this
  | x :: a, [], _, _, h => by have := (h x).1 (by simp); simp at this
  | x :: a, y :: b, ha, hb, h => by
    obtain ⟨ha1, ha2⟩ := List.pairwise_cons.1 ha
    obtain ⟨hb1, hb2⟩ := List.pairwise_cons.1 hb
    have hxy : x = y := by
      have hx : x ∈ y :: b := (h x).1 (by simp)
      have hy : y ∈ x :: a := (h y).2 (by simp)
      rcases List.mem_cons.1 hx with e | hx
      · exact e
      · rcases List.mem_cons.1 hy with e | hy
        · exact e.symm
        · exact absurd (ltP_trans (hb1 x hx) (ha1 y hy)) (ltP_irrefl y)
    subst hxy
    congr 1
    refine strict_unique a b ha2 hb2 fun z => ?_
    have hz := h z
    constructor
    · intro hza
      rcases List.mem_cons.1 (hz.1 (by simp [hza])) with rfl | q
      · exact absurd (ha1 _ hza) (ltP_irrefl _)
      · exact q
    · intro hzb
      rcases List.mem_cons.1 (hz.2 (by simp [hzb])) with rfl | q
      · exact absurd (hb1 _ hzb) (ltP_irrefl _)
      · exact q
def kp : Pfx → List Pfx → List Pfx
  | _, [] => []
  | p, x :: r => if x = p then kp x r else x :: kp x r
def cpt : List Pfx → List Pfx
  | [] => []
  | x :: r => x :: kp x r
theorem kp_ok : ∀ (p : Pfx) (l : List Pfx), (p :: l).Pairwise (fun a b => ¬ ltP b a) → (p :: kp p l).Pairwise ltP ∧ ∀ x, x ∈ p :: kp p l ↔ x ∈ p :: l
  | p, [], _ => ⟨by simp [kp], by simp [kp]⟩
  | p, x :: r, h => by
    obtain ⟨h1, h2⟩ := List.pairwise_cons.1 h
    obtain ⟨i1, i2⟩ := kp_ok x r h2
    rw [kp]
    by_cases e : x = p
    · subst e
      rw [if_pos rfl]
      exact ⟨i1, fun z => by rw [i2 z]; simp⟩
    · rw [if_neg e]
      refine ⟨List.pairwise_cons.2 ⟨fun z hz => ?_, i1⟩, fun z => by rw [List.mem_cons, i2 z, ← List.mem_cons]⟩
      have hpx : ltP p x := (not_ltP (h1 x (by simp))).resolve_left (fun q => e q.symm)
      rcases List.mem_cons.1 hz with rfl | hz
      · exact hpx
      · exact ltP_trans hpx ((List.pairwise_cons.1 i1).1 z hz)
theorem cpt_ok {l : List Pfx} (h : l.Pairwise (fun a b => ¬ ltP b a)) : (cpt l).Pairwise ltP ∧ ∀ x, x ∈ cpt l ↔ x ∈ l := by
  cases l with
  | nil => exact ⟨by simp [cpt], by simp [cpt]⟩
  | cons p r => exact kp_ok p r h
def insR (p : Pfx) : Bool → List Pfx → List Pfx
  | d, [] => if d then [] else [p]
  | d, x :: r => (if cmpP p x ≤ 0 ∧ d = false then [p] else []) ++ ((if cmpP p x ≠ 0 then [x] else []) ++ insR p (d || decide (cmpP p x ≤ 0)) r)
theorem insR_done (p : Pfx) : ∀ l : List Pfx, (∀ x ∈ l, ltP p x) → insR p true l = l
  | [], _ => by simp [insR]
  | x :: r, h => by
    have hx := h x (by simp)
    unfold ltP at hx
    rw [insR, if_neg (by simp), if_pos (by omega), Bool.true_or, insR_done p r fun y hy => h y (by simp [hy])]
    rfl
theorem insR_ok (p : Pfx) : ∀ l : List Pfx, l.Pairwise ltP → (insR p false l).Pairwise ltP ∧ ∀ x, x ∈ insR p false l ↔ x = p ∨ x ∈ l
  | [], _ => by simp [insR]
  | x :: r, h => by
    obtain ⟨h1, h2⟩ := List.pairwise_cons.1 h
    obtain ⟨i1, i2⟩ := insR_ok p r h2
    by_cases e : cmpP p x = 0
    · obtain rfl := cmpP_eq.1 e
      rw [insR, if_pos ⟨by omega, rfl⟩, if_neg (by omega), show (false || decide (cmpP p p ≤ 0)) = true from by simp [e], insR_done p r h1]
      exact ⟨h, fun z => by simp⟩
    · by_cases hl : cmpP p x < 0
      · have hpx : ltP p x := hl
        rw [insR, if_pos ⟨by omega, rfl⟩, if_pos e, show (false || decide (cmpP p x ≤ 0)) = true from by simp; omega, insR_done p r fun y hy => ltP_trans hpx (h1 y hy)]
        refine ⟨List.pairwise_cons.2 ⟨fun z hz => ?_, h⟩, fun z => by simp⟩
        rcases List.mem_cons.1 hz with rfl | hz
        · exact hpx
        · exact ltP_trans hpx (h1 z hz)
      · rw [insR, if_neg (by omega), if_pos e, show (false || decide (cmpP p x ≤ 0)) = false from by simp; omega]
        have hxp : ltP x p := by have := cmpP_swap p x; unfold ltP; omega
        refine ⟨List.pairwise_cons.2 ⟨fun z hz => ?_, i1⟩, fun z => ?_⟩
        · rcases (i2 z).1 hz with rfl | q
          · exact hxp
          · exact h1 z q
        · show z ∈ x :: insR p false r ↔ _
          rw [List.mem_cons, i2 z, List.mem_cons]
          constructor
          · rintro (q | q | q) <;> simp [q]
          · rintro (q | q | q) <;> simp [q]
def sortR : List Pfx → List Pfx → List Pfx
  | acc, [] => acc
  | acc, p :: l => sortR (insR p false acc) l
theorem sortR_ok : ∀ (l acc : List Pfx), acc.Pairwise ltP → (sortR acc l).Pairwise ltP ∧ ∀ x, x ∈ sortR acc l ↔ x ∈ acc ∨ x ∈ l
  | [], acc, h => ⟨h, by simp [sortR]⟩
  | p :: l, acc, h => by
    obtain ⟨i1, i2⟩ := insR_ok p acc h
    obtain ⟨j1, j2⟩ := sortR_ok l (insR p false acc) i1
    refine ⟨j1, fun x => ?_⟩
    rw [sortR, j2 x, i2 x, List.mem_cons]
    constructor
    · rintro ((q | q) | q) <;> simp [q]
    · rintro (q | q | q) <;> simp [q]
theorem sort_eq {l s : List Pfx} (hp : s.Perm l) (hs : s.Pairwise (fun a b => ¬ ltP b a)) : cpt s = sortR [] l := by
  obtain ⟨c1, c2⟩ := cpt_ok hs
  obtain ⟨r1, r2⟩ := sortR_ok l [] (by simp)
  exact strict_unique _ _ c1 r1 fun x => by rw [c2, r2]; simp [hp.mem_iff]
end Go.AM.IR
namespace Go.AM.IR
def toP (x : Int × Int) : Pfx := ⟨x.1, x.2⟩
def ofP (p : Pfx) : Int × Int := (p.addr, p.len)
def cfP (x y : Int × Int) : Int := cmpP (toP x) (toP y)
theorem ofP_toP (x : Int × Int) : ofP (toP x) = x := rfl
def srtL (l : List Pfx) : List Pfx := ((l.map ofP).mergeSort fun x y => !decide (cfP y x < 0)).map toP
theorem srtL_ok (l : List Pfx) : (srtL l).Perm l ∧ (srtL l).Pairwise (fun a b => ¬ ltP b a) := by
  constructor
  · have h := (List.mergeSort_perm (l.map ofP) fun x y => !decide (cfP y x < 0)).map toP
    rw [List.map_map, show toP ∘ ofP = id from rfl, List.map_id] at h
    exact h
  · have h := List.pairwise_mergeSort (le := fun x y : Int × Int => !decide (cfP y x < 0)) (fun a b c h1 h2 => by
      simp only [Bool.not_eq_true', decide_eq_false_iff_not] at h1 h2 ⊢
      have h3 : ¬ ltP (toP b) (toP a) := h1
      have h4 : ¬ ltP (toP c) (toP b) := h2
      show ¬ ltP (toP c) (toP a)
      intro h5
      rcases not_ltP h3 with e | e
      · rw [e] at h5; exact h4 h5
      · exact h4 (ltP_trans h5 e)) (fun a b => by
      simp only [Bool.or_eq_true, Bool.not_eq_true', decide_eq_false_iff_not]
      by_cases h : cfP b a < 0
      · right
        have := cmpP_swap (toP a) (toP b)
        unfold cfP at h ⊢; omega
      · exact .inl h) (l.map ofP)
    unfold srtL
    rw [List.pairwise_map]
    exact h.imp fun {a b} q => by simp only [Bool.not_eq_true', decide_eq_false_iff_not] at q; exact q
theorem kp_snoc (p x : Pfx) : ∀ l : List Pfx, kp p (l ++ [x]) = if (p :: l).getLast (by simp) = x then kp p l else kp p l ++ [x]
  | [] => by
    show (if x = p then [] else [x]) = if p = x then [] else [x]
    by_cases e : x = p
    · rw [if_pos e, if_pos e.symm]
    · rw [if_neg e, if_neg (fun q : p = x => e q.symm)]
  | y :: l => by
    have ih := kp_snoc y x l
    have e : (p :: y :: l).getLast (by simp) = (y :: l).getLast (by simp) := by simp
    rw [e]
    simp only [List.cons_append, kp]
    rw [ih]
    by_cases h1 : y = p
    · subst h1; simp
    · simp only [if_neg h1]
      split <;> simp
theorem cpt_len : ∀ (l : List Pfx), (cpt l).length ≤ l.length := by
  have h : ∀ (l : List Pfx) (p : Pfx), (kp p l).length ≤ l.length := by
    intro l
    induction l with
    | nil => intro p; simp [kp]
    | cons x r ih =>
      intro p
      have := ih x
      rw [kp]; split <;> simp <;> omega
  intro l
  cases l with
  | nil => simp [cpt]
  | cons x r => have := h r x; simp [cpt]; omega
theorem cpt_take (l : List Pfx) (m : Nat) (h0 : 0 < m) (hm : m < l.length) : cpt (l.take (m + 1)) = if l[m - 1] = l[m] then cpt (l.take m) else cpt (l.take m) ++ [l[m]] := by
  cases l with
  | nil => simp at hm
  | cons p r =>
    obtain ⟨m, rfl⟩ : ∃ k, m = k + 1 := ⟨m - 1, by omega⟩
    have hm' : m < r.length := by simpa using hm
    have e1 : r.take (m + 1) = r.take m ++ [r[m]] := by rw [List.take_append_getElem hm']
    have e2 : (p :: r.take m).getLast (by simp) = (p :: r)[m]'(by simp; omega) := by
      rw [List.getLast_eq_getElem]
      have : (p :: r.take m).length - 1 = m := by simp; omega
      simp only [this]
      cases m with
      | zero => rfl
      | succ m => simp
    show cpt (p :: r.take (m + 1)) = if (p :: r)[m] = r[m] then cpt (p :: r.take m) else cpt (p :: r.take m) ++ [r[m]]
    rw [e1]
    simp only [cpt]
    rw [kp_snoc, e2]
    split <;> simp
theorem cpt_take1 (l : List Pfx) (h : 0 < l.length) : cpt (l.take 1) = l.take 1 := by
  cases l with
  | nil => simp at h
  | cons x r => simp [cpt, kp]
theorem cpt_same (l : List Pfx) : ∀ m, 0 < m → m ≤ l.length → (∀ i, (h : i + 1 < m) → (hl : i + 1 < l.length) → l[i] ≠ l[i + 1]) → cpt (l.take m) = l.take m := by
  intro m
  induction m with
  | zero => intro h; omega
  | succ m ih =>
    intro h0 hm hne
    by_cases h1 : m = 0
    · subst h1; exact cpt_take1 l (by omega)
    · have i := ih (by omega) (by omega) fun i hi hl => hne i (by omega) hl
      rw [cpt_take l m (by omega) (by omega), if_neg, i, List.take_append_getElem]
      have := hne (m - 1) (by omega) (by omega)
      simpa [show m - 1 + 1 = m by omega] using this
end Go.AM.IR
namespace Go.AM.IR
theorem ev_eq {G : Nat → Fun} {cfg : Cfg} {t t' : Ret} (h : Ev G cfg t') (e : t' = t) : Ev G cfg t := e ▸ h
theorem ins_loop257 (p : Pfx) (l : List Pfx) (hl : l.length < 2 ^ 30) (q : Nat) : ∀ (rest pre out : List Pfx) (d : Bool) (es : List (List AV)) (m g : Nat) (T : List (Nat × AV)) (H : Heap) (c : Nat) (n : Int) (e : l = pre ++ rest) (hn : n = pre.length) (hes : es = out.map Pfx.enc) (hm : m = out.length) (ho : out.length ≤ 2 * pre.length),
   Ev G ⟨f257x13LH, ⟨(11, .int .i64 n) :: (0, .sl 2 (l.map Pfx.enc)) :: (10, .int .i64 l.length) :: (3, .ref 67 q 0) :: (5, .vs 200 g m) :: (6, .bool d) :: T, (67, some (q, .cells p.enc)) :: (200, some (g, .vec 2 es)) :: H, c⟩, [.t 4], 0⟩ ⟨.vs 0 0 (out ++ insR p d rest).length, [(false, .vec 2 ((out ++ insR p d rest).map Pfx.enc))]⟩
  | [], pre, out, d, es, m, g, T, H, c, n, e, hn, hes, hm, ho => by
    have hd : l.length = pre.length := by simp [e]
    have hpe : p.enc = [.int .u32 p.addr, .int .i64 p.len] := rfl
    subst hes hm
    cases d
    · refine ev_loop' (W_ok 300 _ _ _ _ ?_)
      repeat' (first | refine stpA ?_ | (refine condS ?_ ?_ <;> intro h))
      refine ev_retV 200 _ _ _ rfl rfl (by simp [Blk.pure, pureLL, pureL, AV.pure]) ?_
      simp [insR, Pfx.enc]
    · refine ev_loop' (W_ok 300 _ _ _ _ ?_)
      repeat' (first | refine stpA ?_ | (refine condS ?_ ?_ <;> intro h))
      refine ev_retV 200 _ _ _ rfl rfl (by simp [Blk.pure, pureLL, pureL, AV.pure]) ?_
      simp [insR]
  | x :: rest, pre, out, d, es, m, g, T, H, c, n, e, hn, hes, hm, ho => by
    have hd : l.length = pre.length + (rest.length + 1) := by simp [e]
    have hx : (l.map Pfx.enc)[n.toNat]? = some x.enc := by simp [e, hn]
    have hc := cmp_gives180 p x
    have rg := cmpP_rng p x
    have hi : insR p d (x :: rest) = (if cmpP p x ≤ 0 ∧ d = false then [p] else []) ++ ((if cmpP p x ≠ 0 then [x] else []) ++ insR p (d || decide (cmpP p x ≤ 0)) rest) := by rw [insR]
    rw [hi]
    subst hes hm
    generalize cmpP p x = k at *
    by_cases h0 : k = 0
    · subst h0
      cases d
      · refine ev_loop' (W_ok 300 _ _ _ _ ?_)
        repeat' (first | refine stpA ?_ | (refine condS ?_ ?_ <;> intro h))
        refine ev_keep [11, 0, 10, 3, 5, 6] [67, 200] ?_
        refine ev_eq (ins_loop257 p l hl q rest (pre ++ [x]) (out ++ [p]) true _ _ _ _ _ _ (n + 1) (by simp [e]) (by simp [hn]) (by simp [Pfx.enc]) (by simp) (by simp; omega)) ?_
        simp
      · refine ev_loop' (W_ok 300 _ _ _ _ ?_)
        repeat' (first | refine stpA ?_ | (refine condS ?_ ?_ <;> intro h))
        refine ev_keep [11, 0, 10, 3, 5, 6] [67, 200] ?_
        refine ev_eq (ins_loop257 p l hl q rest (pre ++ [x]) out true _ _ _ _ _ _ (n + 1) (by simp [e]) (by simp [hn]) (by simp [Pfx.enc]) (by simp) (by simp; omega)) ?_
        simp
    · by_cases hle : k ≤ 0
      · cases d
        · refine ev_loop' (W_ok 300 _ _ _ _ ?_)
          repeat' (first | refine stpA ?_ | (refine condS ?_ ?_ <;> intro h))
          refine ev_keep [11, 0, 10, 3, 5, 6] [67, 200] ?_
          refine ev_eq (ins_loop257 p l hl q rest (pre ++ [x]) (out ++ [p] ++ [x]) true _ _ _ _ _ _ (n + 1) (by simp [e]) (by simp [hn]) (by simp [Pfx.enc]) (by simp) (by simp; omega)) ?_
          simp [h0, hle]
        · refine ev_loop' (W_ok 300 _ _ _ _ ?_)
          repeat' (first | refine stpA ?_ | (refine condS ?_ ?_ <;> intro h))
          refine ev_keep [11, 0, 10, 3, 5, 6] [67, 200] ?_
          refine ev_eq (ins_loop257 p l hl q rest (pre ++ [x]) (out ++ [x]) true _ _ _ _ _ _ (n + 1) (by simp [e]) (by simp [hn]) (by simp [Pfx.enc]) (by simp) (by simp; omega)) ?_
          simp [h0, hle]
      · cases d
        · refine ev_loop' (W_ok 300 _ _ _ _ ?_)
          repeat' (first | refine stpA ?_ | (refine condS ?_ ?_ <;> intro h))
          refine ev_keep [11, 0, 10, 3, 5, 6] [67, 200] ?_
          refine ev_eq (ins_loop257 p l hl q rest (pre ++ [x]) (out ++ [x]) false _ _ _ _ _ _ (n + 1) (by simp [e]) (by simp [hn]) (by simp [Pfx.enc]) (by simp) (by simp; omega)) ?_
          simp [h0, hle]
        · refine ev_loop' (W_ok 300 _ _ _ _ ?_)
          repeat' (first | refine stpA ?_ | (refine condS ?_ ?_ <;> intro h))
          refine ev_keep [11, 0, 10, 3, 5, 6] [67, 200] ?_
          refine ev_eq (ins_loop257 p l hl q rest (pre ++ [x]) (out ++ [x]) true _ _ _ _ _ _ (n + 1) (by simp [e]) (by simp [hn]) (by simp [Pfx.enc]) (by simp) (by simp; omega)) ?_
          simp [h0, hle]
theorem ins_gives257 (p : Pfx) (l : List Pfx) (hl : l.length < 2 ^ 30) : Gives G 257 [.sl 2 (l.map Pfx.enc), .agg p.enc] [] ⟨.vs 0 0 (insR p false l).length, [(false, .vec 2 ((insR p false l).map Pfx.enc))]⟩ := by
  have hll : (l.map Pfx.enc).length = l.length := by simp
  refine gives_code (F := f257) rfl rfl (W_ok 300 _ _ _ _ ?_)
  repeat' (first | refine stpA ?_ | (refine condS ?_ ?_ <;> intro h))
  refine ev_nil 200 2 [(5, .vs 200 _ 0)] [] ⟨LeP.nilV _ _ _, trivial⟩ trivial ?_
  refine ev_keep [11, 0, 10, 3, 5, 6] [67, 200] ?_
  rw [hll]
  refine ev_eq (ins_loop257 p l hl _ l [] [] false [] 0 _ _ _ _ 0 rfl rfl rfl rfl (by simp)) ?_
  simp
theorem insR_len (p : Pfx) : ∀ (d : Bool) (l : List Pfx), (insR p d l).length ≤ l.length + 1
  | d, [] => by cases d <;> simp [insR]
  | d, x :: r => by
    have h1 := insR_len p (d || decide (cmpP p x ≤ 0)) r
    have h2 := insR_len' p r
    rw [insR]
    by_cases h : cmpP p x ≤ 0 ∧ d = false
    · rw [if_pos h, show (d || decide (cmpP p x ≤ 0)) = true from by simp [h.1]]
      split <;> simp <;> omega
    · rw [if_neg h]
      split <;> simp <;> omega
where insR_len' (p : Pfx) : ∀ (l : List Pfx), (insR p true l).length ≤ l.length
  | [] => by simp [insR]
  | x :: r => by
    have := insR_len' p r
    rw [insR, if_neg (by simp), Bool.true_or]
    split <;> simp <;> omega
theorem srt_loop243 (l : List Pfx) (hl : l.length < 2 ^ 20) : ∀ (rest pre out : List Pfx) (es : List (List AV)) (m g : Nat) (T : List (Nat × AV)) (H : Heap) (c : Nat) (n : Int) (e : l = pre ++ rest) (hn : n = pre.length) (hes : es = out.map Pfx.enc) (hm : m = out.length) (ho : out.length ≤ pre.length),
   Ev G ⟨f243x7LH, ⟨(7, .int .i64 n) :: (0, .sl 2 (l.map Pfx.enc)) :: (3, .vs 79 g m) :: (6, .int .i64 l.length) :: T, (79, some (g, .vec 2 es)) :: H, c⟩, [.t 2], 0⟩ ⟨.vs 0 0 (sortR out rest).length, [(false, .vec 2 ((sortR out rest).map Pfx.enc))]⟩
  | [], pre, out, es, m, g, T, H, c, n, e, hn, hes, hm, ho => by
    have hd : l.length = pre.length := by simp [e]
    subst hes hm
    refine ev_loop' (W_ok 300 _ _ _ _ ?_)
    repeat' (first | refine stpA ?_ | (refine condS ?_ ?_ <;> intro h))
    refine ev_retV 79 _ _ _ rfl rfl (by simp [Blk.pure, pureLL, pureL, AV.pure]) ?_
    simp [sortR]
  | x :: rest, pre, out, es, m, g, T, H, c, n, e, hn, hes, hm, ho => by
    have hd : l.length = pre.length + (rest.length + 1) := by simp [e]
    have hx : (l.map Pfx.enc)[n.toNat]? = some x.enc := by simp [e, hn]
    subst hes hm
    have hi := ins_gives257 x out (by omega)
    have hil := insR_len x false out
    rw [sortR]
    refine ev_loop' (W_ok 300 _ _ _ _ ?_)
    repeat' (first | refine stpA ?_ | refine kX [] [(79, _, _)] trivial ⟨rfl, pz trivial⟩ (hi) ?_ | (refine condS ?_ ?_ <;> intro h))
    refine ev_keep [7, 0, 3, 6] [79] ?_
    refine ev_eq (srt_loop243 l hl rest (pre ++ [x]) (insR x false out) _ _ _ _ _ _ (n + 1) (by simp [e]) (by simp [hn]) (by first | rfl | simp [Blk.renS]) (by first | rfl | simp) (by simp; omega)) rfl
theorem srt_gives243 (l : List Pfx) (hl : l.length < 2 ^ 20) : Gives G 243 [.sl 2 (l.map Pfx.enc)] [] ⟨.vs 0 0 (sortR [] l).length, [(false, .vec 2 ((sortR [] l).map Pfx.enc))]⟩ := by
  have hll : (l.map Pfx.enc).length = l.length := by simp
  refine gives_code (F := f243) rfl rfl (W_ok 300 _ _ _ _ ?_)
  repeat' (first | refine stpA ?_ | (refine condS ?_ ?_ <;> intro h))
  refine ev_nil 79 2 [(3, .vs 79 _ 0)] [] ⟨LeP.nilV _ _ _, trivial⟩ trivial ?_
  refine ev_keep [7, 0, 3, 6] [79] ?_
  rw [hll]
  exact srt_loop243 l hl l [] [] [] 0 _ _ _ _ 0 rfl rfl rfl rfl (by simp)
end Go.AM.IR
namespace Go.AM.IR
def zPf : List AV := [.int .u32 0, .int .i64 0]
@[simp] theorem pureLL_repl (n : Nat) : pureLL (repl n [.int .u32 0, .int .i64 0]) = true := by
  unfold repl
  induction n with
  | zero => rfl
  | succ n ih => simp [List.replicate_succ, pureLL, pureL, AV.pure, ih]
@[simp] theorem pureLL_P (l : List Pfx) : pureLL (l.map Pfx.enc) = true := by
  induction l with
  | nil => rfl
  | cons x r ih => simp only [List.map_cons, pureLL, ih]; simp [pureL, AV.pure, Pfx.enc]
def cptB (l : List Pfx) : Blk := .vec 2 ((cpt l).map Pfx.enc ++ repl (l.length - (cpt l).length) zPf)
theorem set_take {α : Type} (l : List α) (k : Nat) (x : α) (h : k < l.length) : (l.set k x).take (k + 1) = l.take k ++ [x] := by
  apply List.ext_getElem
  · simp; omega
  · intro i h1 h2
    simp only [List.getElem_take]
    by_cases e : i = k
    · subst e; simp [List.getElem_append]; try (intro h; exfalso; omega)
    · have : i < k := by simp at h1; omega
      rw [List.getElem_set_ne (by omega), List.getElem_append_left (by simp; omega)]
      simp
theorem slw {l : Nat} {x y c : Prop} (k : c) (h : ¬ l = 0 := by omega) : (l = 0 ∧ x ∧ y) ∨ (¬ (l = 0 ∧ x) ∧ c) := .inr ⟨fun q => h q.1, k⟩
theorem slz {c d : Prop} (k : c) : (0 = 0 ∧ (none : Option Opd).isSome = false ∧ c) ∨ d := .inl ⟨rfl, rfl, k⟩
theorem cpi_loop256 (l : List Pfx) (hl : l.length < 2 ^ 30) (k0 : Nat) (hk0 : k0 < l.length) : ∀ (fuel j k : Nat) (es : List (List AV)) (T : List (Nat × AV)) (H : Heap) (c : Nat) (n2 kk ln : Int) (w n : Nat) (hf : fuel = l.length - j) (hj : k0 < j) (hj2 : j ≤ l.length) (hn2 : n2 = j - k0) (hkk : kk = k) (hw : w = l.length - k0) (hn : n = l.length)
    (hk : k = (cpt (l.take j)).length) (h0k : 0 < k) (hkj : k < j) (hes : es.take k = (cpt (l.take j)).map Pfx.enc) (hlen : es.length = l.length) (hor : ∀ i, j ≤ i + 1 → (h : i < l.length) → es[i]? = some (l[i].enc)) (hrow : ∀ (i : Nat) (r : List AV), es[i]? = some r → r.length = 2),
   Ev G ⟨f256x13LH, ⟨(5, .int .i64 n2) :: (4, .vw 0 0 k0 w) :: (0, .vs 0 0 n) :: (3, .int .i64 kk) :: T, (0, some (0, .vec 2 es)) :: H, c⟩, [.t 2], 1⟩ ⟨.vs 0 0 (cpt l).length, [(true, cptB l)]⟩
  | 0, j, k, es, T, H, c, n2, kk, ln, w, n, hf, hj, hj2, hn2, hkk, hw, hn, hk, h0k, hkj, hes, hlen, hor, hrow => by
    have hjl : j = l.length := by omega
    have e1 : l.take j = l := by rw [hjl, List.take_length]
    rw [e1] at hes hk
    subst hkk
    have hkn : (k : Int).toNat = k := by simp
    refine ev_loop' (W_ok 300 _ _ _ _ ?_)
    repeat' ((conv => whnf); first | refine slw ?_ | refine slz ?_ | refine bslP (by first | rfl | (simp [pureL, pureLL, AV.pure]; done) | fail) rfl ?_ | refine TakeC.full (by first | rfl | omega | (simp; done) | (simp; omega) | fail) ?_ | refine zBs ?_ | refine zBn ?_ | refine zBv rfl rfl ?_ | refine zN ?_ | refine zC ?_ | refine zC4 ?_ | refine zOr16 ?_ | refine zC1 ?_ | refine zByte ?_ | refine zMaxL ?_ | refine zMaxR ?_ | refine zMinL ?_ | refine zMinR ?_ | refine zShr ?_ | refine zC8 ?_ | refine zQ ?_ | refine zR ?_ | refine zS ?_ | refine zA ?_ | refine zM ?_ | refine xr rfl ?_ | refine ai rfl ?_ | refine condT ?_ | refine condF ?_ | refine condG1 ?_ | refine condG0 ?_ | refine cD ?_ | refine dD ?_ | refine cB ?_ | refine dB ?_ | refine cN ?_ | refine dN ?_ | refine cV ?_ | refine dV ?_ | refine cE ?_ | refine dE ?_ | refine condX0 ?_ | refine condX1 ?_ | refine condNot ?_ | refine condAnd ?_ | refine condOr ?_ | refine aO ?_ | refine aB ?_ | refine aR ?_ | refine aR ?_ (by simp; omega) | refine xr (by assumption) ?_ | refine ai (by assumption) ?_ | refine kV (by assumption) ?_ | refine kN (by assumption) ?_ | refine callW (by assumption) ?_ | refine condD (fun h => ?_) (fun h => ?_) | refine condB (fun h => ?_) (fun h => ?_) | refine condN (fun h => ?_) (fun h => ?_) | refine condE (fun h => ?_) (fun h => ?_) | refine condV (fun h => ?_) (fun h => ?_))
    simp only [hkn, hes]
    (conv => whnf); first | refine finX1 [(0, _, _)] [] [true] ?_ | refine finX0 [(0, _, _)] [] [true] ?_
    subst hk hn
    rfl
  | fuel + 1, j, k, es, T, H, c, n2, kk, ln, w, n, hf, hj, hj2, hn2, hkk, hw, hn, hk, h0k, hkj, hes, hlen, hor, hrow => by
    have hjl : j < l.length := by omega
    have hct := cpt_take l j (by omega) hjl
    have hx : es[k0 + n2.toNat]? = some (l[j].enc) := by rw [show k0 + n2.toNat = j by omega]; exact hor j (by omega) hjl
    have hy : es[k0 + (n2 - 1).toNat]? = some (l[j - 1].enc) := by rw [show k0 + (n2 - 1).toNat = j - 1 by omega]; exact hor (j - 1) (by omega) (by omega)
    have hkl : k < es.length := by omega
    obtain ⟨old, hz⟩ : ∃ old, es[kk.toNat]? = some old := ⟨es[k], by rw [show kk.toNat = k by omega]; exact List.getElem?_eq_getElem hkl⟩
    have hz2 := hrow _ _ hz
    generalize hX : l[j] = x at *
    generalize hY : l[j - 1] = y at *
    by_cases he : y = x
    · rw [if_pos he] at hct
      subst he
      refine ev_loop' (W_ok 300 _ _ _ _ ?_)
      repeat' (first | refine stpA ?_ | (refine condS ?_ ?_ <;> intro h))
      refine ev_keep [5, 4, 0, 3] [0] ?_
      exact cpi_loop256 l hl k0 hk0 fuel (j + 1) k es _ _ _ (n2 + 1) kk ln w n (by omega) (by omega) (by omega) (by omega) hkk hw hn (by rw [hct]; exact hk) h0k (by omega) (by rw [hct]; exact hes) hlen (fun i h1 h2 => hor i (by omega) h2) hrow
    · rw [if_neg he] at hct
      have hsp : splice old 0 x.enc = x.enc := by unfold splice; simp [Pfx.enc, hz2]
      have fin : ∀ (T : List (Nat × AV)) (H : Heap) (c : Nat), Ev G ⟨f256x13LH, ⟨(5, .int .i64 (n2 + 1)) :: (4, .vw 0 0 k0 w) :: (0, .vs 0 0 n) :: (3, .int .i64 (kk + 1)) :: T, (0, some (0, .vec 2 (es.set kk.toNat (splice old 0 x.enc)))) :: H, c⟩, [.t 2], 1⟩ ⟨.vs 0 0 (cpt l).length, [(true, cptB l)]⟩ := by
        intro T H c
        have hkt : kk.toNat = k := by omega
        refine cpi_loop256 l hl k0 hk0 fuel (j + 1) (k + 1) _ _ _ _ (n2 + 1) (kk + 1) ln w n (by omega) (by omega) (by omega) (by omega) (by omega) hw hn (by rw [hct]; simp [← hk]) (by omega) (by omega) ?_ (by simp [hlen]) (fun i h1 h2 => ?_) (fun i r hr => ?_)
        · rw [hkt, hsp, set_take _ _ _ hkl, hes, hct]; simp
        · rw [hkt, List.getElem?_set_ne (by omega)]; exact hor i (by omega) h2
        · rw [List.getElem?_set] at hr
          split at hr
          · split at hr
            · obtain rfl := Option.some.inj hr; rw [hsp]; rfl
            · cases hr
          · exact hrow i r hr
      by_cases ha : x.addr = y.addr
      · have hb : ¬ x.len = y.len := fun q => he (by cases x; cases y; simp_all)
        refine ev_loop' (W_ok 300 _ _ _ _ ?_)
        repeat' (first | refine stpA ?_ | (refine condS ?_ ?_ <;> intro h))
        refine ev_keep [5, 4, 0, 3] [0] ?_
        exact fin _ _ _
      · refine ev_loop' (W_ok 300 _ _ _ _ ?_)
        repeat' (first | refine stpA ?_ | (refine condS ?_ ?_ <;> intro h))
        refine ev_keep [5, 4, 0, 3] [0] ?_
        exact fin _ _ _
theorem row_of (l : List Pfx) : ∀ (i : Nat) (r : List AV), (l.map Pfx.enc)[i]? = some r → r.length = 2 := fun i r h => by
  rw [List.getElem?_map] at h
  cases hq : l[i]? with
  | none => rw [hq] at h; cases h
  | some x => rw [hq] at h; obtain rfl := Option.some.inj h; rfl
theorem cpo_loop256 (l : List Pfx) (hl : l.length < 2 ^ 30) : ∀ (fuel k : Nat) (T : List (Nat × AV)) (H : Heap) (c : Nat) (kk : Int) (n : Nat) (hf : fuel = l.length - k) (hk0 : 0 < k) (hkl : k ≤ l.length) (hkk : kk = k) (hn : n = l.length) (hne : ∀ i, (h : i + 1 < k) → (hl : i + 1 < l.length) → l[i] ≠ l[i + 1]),
   Ev G ⟨f256x17LH, ⟨(3, .int .i64 kk) :: (0, .vs 0 0 n) :: T, (0, some (0, .vec 2 (l.map Pfx.enc))) :: H, c⟩, [.t 2], 1⟩ ⟨.vs 0 0 (cpt l).length, [(true, cptB l)]⟩
  | 0, k, T, H, c, kk, n, hf, hk0, hkl, hkk, hn, hne => by
    have e1 : k = l.length := by omega
    have e2 := cpt_same l k hk0 hkl hne
    rw [e1, List.take_length] at e2
    have e3 : cptB l = .vec 2 (l.map Pfx.enc) := by unfold cptB; rw [e2]; simp [repl]
    rw [e2, e3]
    refine ev_loop' (W_ok 300 _ _ _ _ ?_)
    repeat' (first | refine stpA ?_ | (refine condS ?_ ?_ <;> intro h))
    (conv => whnf); first | refine finX1 [(0, _, _)] [] [true] ?_ | refine finX0 [(0, _, _)] [] [true] ?_
    subst hn; rfl
  | fuel + 1, k, T, H, c, kk, n, hf, hk0, hkl, hkk, hn, hne => by
    have hkl' : k < l.length := by omega
    have hll : (l.map Pfx.enc).length = l.length := by simp
    have hx : (l.map Pfx.enc)[kk.toNat]? = some (l[k].enc) := by rw [show kk.toNat = k by omega]; simp [hkl']
    have hy : (l.map Pfx.enc)[(kk - 1).toNat]? = some (l[k - 1].enc) := by rw [show (kk - 1).toNat = k - 1 by omega]; simp [show k - 1 < l.length by omega]
    have hsame := cpt_same l k hk0 hkl hne
    have hct := cpt_take l k hk0 hkl'
    by_cases he : l[k - 1] = l[k]
    · rw [if_pos he] at hct
      rw [he] at hy
      generalize hX : l[k] = x at *
      refine ev_loop' (W_ok 300 _ _ _ _ ?_)
      repeat' ((conv => whnf); first | refine slw ?_ | refine slz ?_ | refine bslP (by first | rfl | (simp [pureL, pureLL, AV.pure]; done) | fail) rfl ?_ | refine TakeC.full (by first | rfl | omega | (simp; done) | (simp; omega) | fail) ?_ | refine zBs ?_ | refine zBn ?_ | refine zBv rfl rfl ?_ | refine zN ?_ | refine zC ?_ | refine zC4 ?_ | refine zOr16 ?_ | refine zC1 ?_ | refine zByte ?_ | refine zMaxL ?_ | refine zMaxR ?_ | refine zMinL ?_ | refine zMinR ?_ | refine zShr ?_ | refine zC8 ?_ | refine zQ ?_ | refine zR ?_ | refine zS ?_ | refine zA ?_ | refine zM ?_ | refine xr rfl ?_ | refine ai rfl ?_ | refine condT ?_ | refine condF ?_ | refine condG1 ?_ | refine condG0 ?_ | refine cD ?_ | refine dD ?_ | refine cB ?_ | refine dB ?_ | refine cN ?_ | refine dN ?_ | refine cV ?_ | refine dV ?_ | refine cE ?_ | refine dE ?_ | refine condX0 ?_ | refine condX1 ?_ | refine condNot ?_ | refine condAnd ?_ | refine condOr ?_ | refine aO ?_ | refine aB ?_ | refine aR ?_ | refine aR ?_ (by simp; omega) | refine xr (by assumption) ?_ | refine ai (by assumption) ?_ | refine kV (by assumption) ?_ | refine kN (by assumption) ?_ | refine callW (by assumption) ?_ | refine condD (fun h => ?_) (fun h => ?_) | refine condB (fun h => ?_) (fun h => ?_) | refine condN (fun h => ?_) (fun h => ?_) | refine condE (fun h => ?_) (fun h => ?_) | refine condV (fun h => ?_) (fun h => ?_))
      refine ev_keep [5, 4, 0, 3] [0] ?_
      have hkt : kk.toNat = k := by omega
      refine ev_eq (cpi_loop256 l hl kk.toNat (by omega) (l.length - (k + 1)) (k + 1) k (l.map Pfx.enc) _ _ _ 1 kk 0 _ n rfl (by omega) (by omega) (by omega) hkk (by omega) hn (by rw [hct, hsame]; simp; omega) (by omega) (by omega) (by rw [hct, hsame]; simp) hll (fun i h1 h2 => by simp [h2]) (row_of l)) rfl
    · have hnx : ∀ i, (h : i + 1 < k + 1) → (hl : i + 1 < l.length) → l[i] ≠ l[i + 1] := fun i h hl' => by
        by_cases q : i + 1 < k
        · exact hne i q hl'
        · have : i = k - 1 := by omega
          subst this
          simpa [show k - 1 + 1 = k by omega] using he
      have fin := fun T H c => cpo_loop256 l hl fuel (k + 1) T H c (kk + 1) n (by omega) (by omega) (by omega) (by omega) hn hnx
      generalize hX : l[k] = x at *
      generalize hY : l[k - 1] = y at *
      by_cases ha : x.addr = y.addr
      · have hb : ¬ x.len = y.len := fun q => he (by cases x; cases y; simp_all)
        refine ev_loop' (W_ok 300 _ _ _ _ ?_)
        repeat' (first | refine stpA ?_ | (refine condS ?_ ?_ <;> intro h))
        refine ev_keep [3, 0] [0] ?_
        exact fin _ _ _
      · refine ev_loop' (W_ok 300 _ _ _ _ ?_)
        repeat' (first | refine stpA ?_ | (refine condS ?_ ?_ <;> intro h))
        refine ev_keep [3, 0] [0] ?_
        exact fin _ _ _
theorem cpt_gives256 (l : List Pfx) (hl : l.length < 2 ^ 30) : Gives G 256 [.vs 0 0 l.length] [.vec 2 (l.map Pfx.enc)] ⟨.vs 0 0 (cpt l).length, [(true, cptB l)]⟩ := by
  have hll : (l.map Pfx.enc).length = l.length := by simp
  by_cases h2 : l.length < 2
  · have e2 : cpt l = l := by
      match l, h2 with
      | [], _ => rfl
      | [x], _ => rfl
    have e3 : cptB l = .vec 2 (l.map Pfx.enc) := by unfold cptB; rw [e2]; simp [repl]
    rw [e2, e3]
    refine gives_code (F := f256) rfl rfl (W_ok 300 _ _ _ _ ?_)
    repeat' (first | refine stpA ?_ | (refine condS ?_ ?_ <;> intro h))
    (conv => whnf); first | refine finX1 [(0, _, _)] [] [true] ?_ | refine finX0 [(0, _, _)] [] [true] ?_
    rfl
  · refine gives_code (F := f256) rfl rfl (W_ok 300 _ _ _ _ ?_)
    repeat' (first | refine stpA ?_ | (refine condS ?_ ?_ <;> intro h))
    refine ev_keep [3, 0] [0] ?_
    exact cpo_loop256 l hl (l.length - 1) 1 _ _ _ 1 _ rfl (by omega) (by omega) rfl rfl (fun i h _ => by omega)
end Go.AM.IR
namespace Go.AM.IR
theorem pfx_loop139 (a b : List Pfx) (ha : a.length < 2 ^ 40) (hlen : a.length = b.length) : ∀ (r1 d1 r2 d2 : List Pfx) (T : List (Nat × AV)) (H : Heap) (c : Nat) (n : Int) (e1 : a = d1 ++ r1) (e2 : b = d2 ++ r2) (hn1 : n = d1.length) (hn2 : n = d2.length),
   Ev G ⟨f139x9LH, ⟨(13, .int .i64 n) :: (1, .sl 2 (b.map Pfx.enc)) :: (0, .sl 2 (a.map Pfx.enc)) :: (12, .int .i64 a.length) :: T, H, c⟩, [.t 4], 0⟩ ⟨.bool (decide (r1 = r2)), []⟩
  | [], d1, [], d2, T, H, c, n, e1, e2, hn1, hn2 => by
    have hd : a.length = d1.length := by simp [e1]
    refine ev_loop' (W_ok 300 _ _ _ _ ?_)
    repeat' (first | refine stpA ?_ | (refine condS ?_ ?_ <;> intro h))
    all_goals try ((first | refine fin1 ?_ | refine fin0 ?_); first | rfl | (simp [Bool.cond_eq_ite, *]; done) | (simp [Bool.cond_eq_ite, *]; omega))
  | x :: r1, d1, y :: r2, d2, T, H, c, n, e1, e2, hn1, hn2 => by
    have hd : a.length = d1.length + (r1.length + 1) := by simp [e1]
    have hx : (a.map Pfx.enc)[n.toNat]? = some x.enc := by simp [e1, hn1]
    have hy : (b.map Pfx.enc)[n.toNat]? = some y.enc := by simp [e2, hn2]
    have hee : (x = y) ↔ (x.addr = y.addr ∧ x.len = y.len) := by cases x; cases y; simp
    refine ev_loop' (W_ok 300 _ _ _ _ ?_)
    repeat' (first | refine stpA ?_ | (refine condS ?_ ?_ <;> intro h))
    all_goals try ((first | refine fin1 ?_ | refine fin0 ?_); first | rfl | (simp [hee, Bool.cond_eq_ite, *]; done) | (simp [hee, Bool.cond_eq_ite, *]; omega))
    rw [show (decide (x :: r1 = y :: r2)) = (decide (r1 = r2)) from by simp [hee, *]]
    refine ev_keep [13, 1, 0, 12] [] ?_; exact pfx_loop139 a b ha hlen r1 (d1 ++ [x]) r2 (d2 ++ [y]) _ _ _ (n + 1) (by simp [e1]) (by simp [e2]) (by simp [hn1]) (by simp; omega)
  | [], d1, y :: r2, d2, T, H, c, n, e1, e2, hn1, hn2 => by
    exfalso; rw [e1, e2] at hlen; simp at hlen; omega
  | x :: r1, d1, [], d2, T, H, c, n, e1, e2, hn1, hn2 => by
    exfalso; rw [e1, e2] at hlen; simp at hlen; omega
theorem samePfx_gives139 (a b : List Pfx) (ha : a.length < 2 ^ 40) : Gives G 139 [.sl 2 (a.map Pfx.enc), .sl 2 (b.map Pfx.enc)] [] ⟨.bool (decide (a = b)), []⟩ := by
  have l1 : (a.map Pfx.enc).length = a.length := by simp
  have l2 : (b.map Pfx.enc).length = b.length := by simp
  by_cases hlen : a.length = b.length
  · refine gives_code (F := f139) rfl rfl (W_ok 300 _ _ _ _ ?_)
    repeat' (first | refine stpA ?_ | (refine condS ?_ ?_ <;> intro h))
    refine ev_keep [13, 1, 0, 12] [] ?_
    rw [l1]
    exact pfx_loop139 a b ha hlen a [] b [] _ _ _ 0 rfl rfl rfl rfl
  · have hne : ¬ a = b := fun h => hlen (by rw [h])
    rw [show decide (a = b) = false from by simp [hne]]
    refine gives_code (F := f139) rfl rfl (W_ok 300 _ _ _ _ ?_)
    repeat' (first | refine stpA ?_ | (refine condS ?_ ?_ <;> intro h))
    all_goals try ((first | refine fin1 ?_ | refine fin0 ?_); first | rfl | (simp [Bool.cond_eq_ite, *]; done) | (simp [Bool.cond_eq_ite, *]; omega))
end Go.AM.IR
namespace Go.AM.IR
theorem pairs_enc : ∀ l : List Pfx, pairs (l.map Pfx.enc) = some (l.map ofP)
  | [] => rfl
  | x :: r => by
    show (pairs (r.map Pfx.enc)).map ((x.addr, x.len) :: ·) = _
    rw [pairs_enc r]; rfl
theorem row2_ofP (l : List Pfx) : (l.map ofP).map row2 = l.map Pfx.enc := by rw [List.map_map]; rfl
theorem lt_eq (x y : Int × Int) : ltPair x y = decide (cfP x y < 0) := by
  unfold ltPair cfP cmpP toP
  rw [Bool.eq_iff_iff]
  simp only [decide_eq_true_eq]
  split
  · rename_i h; exact ⟨fun _ => by omega, fun _ => h⟩
  · rename_i h
    split <;> exact ⟨fun q => absurd q h, fun q => by omega⟩
theorem srt_rows (l : List Pfx) : ((l.map ofP).mergeSort fun x y => !ltPair y x).map row2 = (srtL l).map Pfx.enc := by
  have e : (fun x y : Int × Int => !ltPair y x) = fun x y => !decide (cfP y x < 0) := by funext x y; rw [lt_eq]
  rw [e]
  unfold srtL
  rw [List.map_map]
  rfl
theorem srt_len (l : List Pfx) : (srtL l).length = l.length := by simp [srtL]
theorem clone_gives254 (l : List Pfx) (hl : l.length < 2 ^ 30) (hne : l ≠ []) : Gives G 254 [.sl 2 (l.map Pfx.enc)] [] ⟨.vs 0 0 l.length, [(false, .vec 2 (l.map Pfx.enc))]⟩ := by
  show pClone [.sl 2 (l.map Pfx.enc)] [] = _
  match l, hne with
  | x :: r, _ =>
    show ((pairs ((x :: r).map Pfx.enc)).bind fun l => if l.length < 2 ^ 40 then some (Ret.mk (.vs 0 0 l.length) [(false, .vec 2 (l.map row2))]) else none) = _
    rw [pairs_enc]
    show (if ((x :: r).map ofP).length < 2 ^ 40 then some (Ret.mk (.vs 0 0 ((x :: r).map ofP).length) [(false, .vec 2 (((x :: r).map ofP).map row2))]) else none) = _
    rw [row2_ofP, List.length_map, if_pos (by omega)]
theorem clone_gives254_0 : Gives G 254 [.sl 2 []] [] ⟨.sl 2 [], []⟩ := rfl
theorem sort_gives255 (l : List Pfx) (hl : l.length < 2 ^ 30) : Gives G 255 [.vs 0 0 l.length, .fn 172 []] [.vec 2 (l.map Pfx.enc)] ⟨.tup [], [(true, .vec 2 ((srtL l).map Pfx.enc))]⟩ := by
  show pSort 172 ltPair _ _ = _
  show (if 172 = 172 ∧ l.length = (l.map Pfx.enc).length ∧ l.length < 2 ^ 40 then (pairs (l.map Pfx.enc)).map fun l => Ret.mk (.tup []) [(true, .vec 2 ((l.mergeSort fun x y => !ltPair y x).map row2))] else none) = _
  rw [if_pos ⟨rfl, by simp, by omega⟩, pairs_enc]
  show some (Ret.mk (.tup []) [(true, .vec 2 (((l.map ofP).mergeSort fun x y => !ltPair y x).map row2))]) = _
  rw [srt_rows]
theorem sort_gives255_0 : Gives G 255 [.sl 2 [], .fn 172 []] [] ⟨.tup [], []⟩ := rfl
theorem cpt_gives256_0 : Gives G 256 [.sl 2 []] [] ⟨.sl 2 [], []⟩ := by
  refine gives_code (F := f256) rfl rfl (W_ok 300 _ _ _ _ ?_)
  repeat' (first | refine stpA ?_ | (refine condS ?_ ?_ <;> intro h))
  (first | refine fin1 ?_ | refine fin0 ?_); rfl
theorem psort_gives242 (l : List Pfx) (hl : l.length < 2 ^ 20) : Gives G 242 [.sl 2 (l.map Pfx.enc)] [] ⟨.sl 2 ((cpt (srtL l)).map Pfx.enc), []⟩ := by
  have hs := srt_len l
  by_cases hne : l = []
  · subst hne
    have e : cpt (srtL []) = [] := by
      have := cpt_len (srtL [])
      rw [hs] at this
      exact List.eq_nil_of_length_eq_zero (Nat.le_zero.1 this)
    rw [e]
    have h1 := clone_gives254_0
    have h2 := sort_gives255_0
    have h3 := cpt_gives256_0
    refine gives_code (F := f242) rfl rfl (W_ok 300 _ _ _ _ ?_)
    repeat' (first | refine stpA ?_ | (refine condS ?_ ?_ <;> intro h))
    (first | refine fin1 ?_ | refine fin0 ?_); rfl
  · have h1 := clone_gives254 l (by omega) hne
    have h2 := sort_gives255 l (by omega)
    have h3 := cpt_gives256 (srtL l) (by omega)
    rw [hs] at h3
    unfold cptB zPf at h3
    have hcl := cpt_len (srtL l)
    have ht : ((cpt (srtL l)).map Pfx.enc ++ repl ((srtL l).length - (cpt (srtL l)).length) zPf).take (cpt (srtL l)).length = (cpt (srtL l)).map Pfx.enc := by simp
    have hpb : (cptB (srtL l)).pure = true := by show pureLL _ = true; rw [pureLL_app]; simp [zPf]
    have hle : (cpt (srtL l)).length ≤ ((cpt (srtL l)).map Pfx.enc ++ repl ((srtL l).length - (cpt (srtL l)).length) zPf).length := by simp
    refine gives_code (F := f242) rfl rfl (W_ok 300 _ _ _ _ ?_)
    repeat' (first | refine stpA ?_ | refine kX [(69, _, _)] [] ⟨rfl, trivial⟩ trivial (h2) ?_ | refine kX [(69, _, _)] [] ⟨rfl, trivial⟩ trivial (h3) ?_ | (refine condS ?_ ?_ <;> intro h))
    refine ev_frz [(69, _, cptB (srtL l))] [(2, .sl 2 ((cpt (srtL l)).map Pfx.enc))] [] ⟨rfl, hpb, trivial⟩ ⟨?_, trivial⟩ trivial ?_
    · show AV.ren _ (.vs 69 _ _) = _
      simp only [AV.ren, φF, and_self, if_true]
      show (if _ then _ else _) = _
      rw [if_pos hle]; exact congrArg _ ht
    · intro T H
      (first | refine fin1 ?_ | refine fin0 ?_); rfl
end Go.AM.IR
namespace Go.AM.IR
theorem law219_gives (l : List Pfx) (hl : l.length < 2 ^ 20) : Gives G 219 [.sl 2 (l.map Pfx.enc)] [] ⟨.bool true, []⟩ := by
  have hll : (l.map Pfx.enc).length = l.length := by simp
  by_cases h : 100 < l.length
  · refine gives_code (F := f219) rfl rfl (W_ok 300 _ _ _ _ ?_)
    repeat' (first | refine stpA ?_ | refine kV (lives226_gives) ?_ | (refine condS ?_ ?_ <;> intro h))
    (first | refine fin1 ?_ | refine fin0 ?_); rfl
  · have h1 := psort_gives242 l hl
    have h2 := srt_gives243 l hl
    have e : cpt (srtL l) = sortR [] l := sort_eq (srtL_ok l).1 (srtL_ok l).2
    have hcl := cpt_len (srtL l)
    have hs := srt_len l
    rw [e] at h1 hcl
    generalize sortR [] l = s at *
    have h3 := samePfx_gives139 s s (by omega)
    rw [show decide (s = s) = true from by simp] at h3
    refine gives_code (F := f219) rfl rfl (W_ok 300 _ _ _ _ ?_)
    repeat' (first | refine stpA ?_ | refine kZ [(74, _, _)] ⟨rfl, pz trivial⟩ (h3) ?_ | refine kV (lives226_gives) ?_ | (refine condS ?_ ?_ <;> intro h))
    (first | refine fin1 ?_ | refine fin0 ?_); rfl
theorem T_pfxs {as : List AV} (h : Ty.T (.sl tPfx) as) : ∃ l : List Pfx, as = [.sl 2 (l.map Pfx.enc)] ∧ ∀ r ∈ l, Pfx.ok r := T_sl (fun _ => T_pfx) h
theorem bk_pfxs : ∀ l : List Pfx, l.length * 2 ≤ bkLL (l.map Pfx.enc)
  | [] => by simp
  | r :: l => by
    have := bk_pfxs l
    rw [List.map_cons, bkLL, List.length_cons]
    have h1 : bkL r.enc = 2 := rfl
    omega
theorem law219_all (ass : List (List AV)) (h : ArgsT [.sl tPfx] ass) (hb : bkLL ass ≤ 1048576) : Gives G 219 (argsA [.sl tPfx] ass) [] ⟨.bool true, []⟩ := by
  obtain ⟨x0, s0, rfl, h0, h⟩ := argsT_cons h
  obtain rfl := argsT_nil h
  obtain ⟨L, rfl, hL⟩ := T_pfxs h0
  simp only [bkLL] at hb
  have bL := bk_pfxs L
  have bs : bkL [AV.sl 2 (L.map Pfx.enc)] = bkLL (L.map Pfx.enc) + 1 := by simp [bkL, AV.bk]
  rw [bs] at hb
  exact law219_gives L (by omega)
end Go.AM.IR
namespace Go.AM.IR
def G0 (f : Nat) : Fun := bif Nat.beq f 254 then .code f254 else .none
@[simp] theorem pureLL_row2 (l : List (Int × Int)) : pureLL (l.map row2) = true := by
  induction l with
  | nil => rfl
  | cons x r ih => simp only [List.map_cons, pureLL, ih]; simp [pureL, AV.pure, row2]
theorem clone_run : ∀ l : List (Int × Int), l ≠ [] → l.length < 2 ^ 40 → Gives G0 254 [.sl 2 (l.map row2)] [] ⟨.vs 0 0 l.length, [(false, .vec 2 (l.map row2))]⟩
  | [], h, _ => absurd rfl h
  | x :: r, _, hl => by
    have hll : ((x :: r).map row2).length = (x :: r).length := by simp
    have hlr : (x :: r).length = r.length + 1 := rfl
    refine gives_code (F := f254) rfl rfl (W_ok 300 _ _ _ _ ?_)
    repeat' (first | refine stpA ?_ | (refine condS ?_ ?_ <;> intro h))
    refine ev_retV 69 _ _ _ rfl rfl (by simp [Blk.pure, pureLL, pureL, AV.pure, row2]) ?_
    simp
end Go.AM.IR
