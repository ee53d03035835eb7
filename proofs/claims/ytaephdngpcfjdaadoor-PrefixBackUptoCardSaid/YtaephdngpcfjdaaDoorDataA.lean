/- What the functions of this program give, on the abstract machine. -/
import Derived.Test.YtaephdngpcfjdaaDoorMachineB
import Derived.Test.YtaephdngpcfjdaaDoorLibraryA
import Derived.Test.YtaephdngpcfjdaaDoorMachineC
import Derived.KernelRfl
set_option linter.unusedVariables false
set_option linter.unusedSimpArgs false
set_option maxRecDepth 100000
namespace Go.AM.IR
open Go Go.AM
def f211x0 : List AOper := [
  Op 1 (.box (.t 0)),
  Mc 2 (.bool false)]
def f211x1 : List AOper := [
  Mc 3 (.int .u32 0)]
def f211x2 : List AOper := [
  Ls 14 2 1,
  Ct 15 179 [14]]
def f211x3 : List AOper := [
  Ls 16 2 1,
  Ct 17 220 [16],
  Mv 3 17]
def f211x4 : List AOper := [
  Ls 19 2 1,
  Ct 20 221 [19],
  Mv 18 20,
  Ex 21 18 0,
  Ex 22 18 1,
  Op 4 (.alloc (.agg [.int .u32 0, .int .i64 0])),
  St 2 4 21,
  Mv 5 22]
def f211x5 : List AOper := [
  Ls 24 2 1,
  Ct 25 222 [24],
  Mv 23 25,
  Ex 26 23 0,
  Ex 27 23 1,
  Op 6 (.alloc (.agg [.int .u32 0, .int .i64 0])),
  St 2 6 26,
  Mv 7 27]
def f211x6 : List AOper := [
  Ls 29 2 1,
  Ct 30 223 [29],
  Mv 28 30,
  Ex 31 28 0,
  Ex 32 28 1,
  Ex 33 28 2,
  Op 8 (.alloc (.agg [.int .u32 0, .int .i64 0])),
  Op 9 (.alloc (.agg [.int .u32 0, .int .i64 0])),
  St 2 8 31,
  St 2 9 32,
  Mv 10 33]
def f211x7 : List AOper := [
  Ls 35 2 1,
  Ct 36 224 [35],
  Mv 34 36,
  Ex 37 34 0,
  Ex 38 34 1,
  Ex 39 34 2,
  Op 11 (.alloc (.agg [.int .u32 0, .int .i64 0])),
  Op 12 (.alloc (.agg [.int .u32 0, .int .i64 0])),
  St 2 11 37,
  St 2 12 38,
  Mv 13 39]
def f211x8 : List AOper := [
  Ls 40 2 1,
  Ct 41 225 [40],
  Mv 42 3,
  Bi 43 .eql 41 42,
  Mv 44 43,
  Gt 44 (Ls 45 2 4),
  Gt 44 (Ls 46 2 6),
  Gt 44 (Op 47 (.eqs [.int, .int] false (.t 45) (.t 46))),
  Pa 48 44 47,
  Mv 49 48,
  Gt 49 (Mv 50 5),
  Gt 49 (Mv 51 7),
  Gt 49 (Op 52 (.eqb false (.t 50) (.t 51))),
  Pa 53 49 52,
  Mv 54 53,
  Gt 54 (Ls 55 2 8),
  Gt 54 (Ls 56 2 11),
  Gt 54 (Op 57 (.eqs [.int, .int] false (.t 55) (.t 56))),
  Pa 58 54 57,
  Mv 59 58,
  Gt 59 (Ls 60 2 9),
  Gt 59 (Ls 61 2 12),
  Gt 59 (Op 62 (.eqs [.int, .int] false (.t 60) (.t 61))),
  Pa 63 59 62,
  Mv 64 63,
  Gt 64 (Mv 65 10),
  Gt 64 (Mv 66 13),
  Gt 64 (Op 67 (.eqb false (.t 65) (.t 66))),
  Pa 68 64 67,
  Mv 69 68,
  Gt 69 (Ct 70 226 []),
  Pa 71 69 70,
  Mv 2 71]
def f211 : AFunc := ⟨72, 1, false, [.t 2], (.seq (.region f211x0 false) (.seq (.region f211x1 false) (.seq (.seq (.region f211x2 false) (.cond (.t 15) (.region f211x3 false) .skip)) (.seq (.region f211x4 false) (.seq (.region f211x5 false) (.seq (.region f211x6 false) (.seq (.region f211x7 false) (.seq (.region f211x8 false) .ret))))))))⟩
def f212x0 : List AOper := [
  Op 2 (.box (.t 0)),
  Mc 4 (.bool false)]
def f212x1 : List AOper := [
  Mv 5 1,
  Ct 6 227 [5],
  Mv 7 1,
  Af [1] (Ct 8 228 [7]),
  Bi 9 .eql 6 8,
  Mv 10 9,
  Af [3, 1] (Gt 10 (Ls 11 2 2)),
  Af [6, 3, 1] (Gt 10 (Ct 12 229 [11])),
  Af [3, 1] (Gt 10 (Ls 13 2 2)),
  Af [8, 7, 6, 3, 1] (Gt 10 (Ct 14 230 [13])),
  Gt 10 (Bi 15 .eql 12 14),
  Pa 16 10 15,
  Mv 17 16,
  Af [9, 8, 7, 6, 3, 1] (Gt 17 (Ct 18 226 [])),
  Pa 19 17 18,
  Mv 4 19]
def f212 : AFunc := ⟨20, 2, false, [.t 4], (.seq (.region f212x0 false) (.seq (.region f212x1 true) .ret))⟩
def f213x0 : List AOper := [
  Mc 2 (.bool false)]
def f213x1 : List AOper := [
  Mv 12 0,
  Ct 13 231 [12],
  Mv 11 13,
  Ex 14 11 0,
  Ex 15 11 1,
  Mv 3 14,
  Mv 4 15]
def f213x2 : List AOper := [
  Mv 17 0,
  Ct 18 232 [17],
  Mv 16 18,
  Ex 19 16 0,
  Ex 20 16 1,
  Mv 5 19,
  Mv 6 20]
def f213x3 : List AOper := [
  Mv 22 0,
  Ct 23 233 [22],
  Mv 21 23,
  Ex 24 21 0,
  Ex 25 21 1,
  Op 7 (.alloc (.agg [.int .u32 0, .int .i64 0])),
  St 2 7 24,
  Mv 8 25]
def f213x4 : List AOper := [
  Mv 27 0,
  Ct 28 234 [27],
  Mv 26 28,
  Ex 29 26 0,
  Ex 30 26 1,
  Op 9 (.alloc (.agg [.int .u32 0, .int .i64 0])),
  St 2 9 29,
  Mv 10 30]
def f213x5 : List AOper := [
  Mv 31 3,
  Mv 32 5,
  Bi 33 .eql 31 32,
  Mv 34 33,
  Gt 34 (Mv 35 4),
  Gt 34 (Mv 36 6),
  Gt 34 (Bi 37 .eql 35 36),
  Pa 38 34 37,
  Mv 39 38,
  Gt 39 (Ls 40 2 7),
  Gt 39 (Ls 41 2 9),
  Gt 39 (Op 42 (.eqs [.int, .int] false (.t 40) (.t 41))),
  Pa 43 39 42,
  Mv 44 43,
  Gt 44 (Mv 45 8),
  Gt 44 (Mv 46 10),
  Gt 44 (Bi 47 .eql 45 46),
  Pa 48 44 47,
  Mv 49 48,
  Gt 49 (Ct 50 226 []),
  Pa 51 49 50,
  Mv 2 51]
def f213 : AFunc := ⟨52, 1, false, [.t 2], (.seq (.region f213x0 false) (.seq (.region f213x1 false) (.seq (.region f213x2 false) (.seq (.region f213x3 false) (.seq (.region f213x4 false) (.seq (.region f213x5 false) .ret))))))⟩
def f214x0 : List AOper := [
  Op 3 (.box (.t 0)),
  Mc 6 (.bool false)]
def f214x1 : List AOper := [
  Ls 16 2 3,
  Ct 17 229 [16],
  Ct 18 233 [17],
  Mv 15 18,
  Ex 19 15 0,
  Ex 20 15 1,
  Op 7 (.alloc (.agg [.int .u32 0, .int .i64 0])),
  St 2 7 19,
  Mv 8 20]
def f214x2 : List AOper := [
  Mv 22 1,
  Ct 23 227 [22],
  Ct 24 231 [23],
  Mv 21 24,
  Ex 25 21 0,
  Ex 26 21 1,
  Mv 9 25,
  Mv 10 26]
def f214x3 : List AOper := [
  Ls 27 2 3,
  Ct 28 178 [27],
  Mv 29 28,
  Gt 29 (Mv 30 8),
  Gt 29 (Bc 31 .neq 30 0),
  Gt 29 (Mv 32 31),
  Gf 32 (Ls 33 2 7),
  Gf 32 (Ls 34 2 3),
  Gf 32 (Op 35 (.eqs [.int, .int] true (.t 33) (.t 34))),
  Gt 29 (Po 36 32 35),
  Pa 37 29 36,
  Mv 38 37,
  Gf 38 (Mv 39 10),
  Gf 38 (Bc 40 .neq 39 0),
  Po 41 38 40,
  Mv 42 41,
  Gf 42 (Mv 43 1),
  Gf 42 (Mv 44 9),
  Gf 42 (Bi 45 .neq 43 44),
  Po 46 42 45]
def f214x4 : List AOper := [
  Mc 6 (.bool false)]
def f214x5 : List AOper := [
  Mv 48 2,
  Ct 49 233 [48],
  Mv 47 49,
  Ex 50 47 0,
  Ex 51 47 1,
  Op 11 (.alloc (.agg [.int .u32 0, .int .i64 0])),
  St 2 11 50,
  Mv 12 51]
def f214x6 : List AOper := [
  Mv 53 2,
  Ct 54 231 [53],
  Mv 52 54,
  Ex 55 52 0,
  Ex 56 52 1,
  Mv 13 55,
  Mv 14 56]
def f214x7 : List AOper := [
  Mv 57 12,
  Bc 58 .neq 57 0,
  Mv 59 58,
  Gf 59 (Ls 60 2 11),
  Gf 59 (Ct 61 178 [60]),
  Gf 59 (Mv 62 61),
  Gt 62 (Ls 63 2 11),
  Gt 62 (Ct 64 229 [63]),
  Gt 62 (Mv 65 2),
  Gt 62 (Bi 66 .eql 64 65),
  Gf 59 (Pa 67 62 66),
  Po 68 59 67,
  Mv 69 68,
  Gt 69 (Mv 70 14),
  Gt 69 (Bc 71 .neq 70 0),
  Gt 69 (Mv 72 71),
  Gf 72 (Mv 73 13),
  Gf 72 (Ct 74 227 [73]),
  Gf 72 (Mv 75 2),
  Gf 72 (Bi 76 .eql 74 75),
  Gt 69 (Po 77 72 76),
  Pa 78 69 77,
  Mv 79 78,
  Gt 79 (Ct 80 226 []),
  Pa 81 79 80,
  Mv 6 81]
def f214 : AFunc := ⟨82, 3, false, [.t 6], (.seq (.region f214x0 false) (.seq (.region f214x1 false) (.seq (.region f214x2 false) (.seq (.seq (.region f214x3 false) (.cond (.t 46) (.seq (.region f214x4 false) .ret) .skip)) (.seq (.region f214x5 false) (.seq (.region f214x6 false) (.seq (.region f214x7 false) .ret)))))))⟩
def f215x0 : List AOper := [
  Op 3 (.box (.t 0)),
  Op 4 (.box (.t 1)),
  Mc 6 (.bool false)]
def f215x1 : List AOper := [
  Ls 15 2 3,
  Ct 16 223 [15],
  Mv 14 16,
  Ex 17 14 0,
  Ex 18 14 1,
  Ex 19 14 2,
  Op 7 (.alloc (.agg [.int .u32 0, .int .i64 0])),
  Op 8 (.alloc (.agg [.int .u32 0, .int .i64 0])),
  St 2 7 17,
  St 2 8 18,
  Mv 9 19]
def f215x2 : List AOper := [
  Ls 20 2 7,
  Mv 21 2,
  Af [0] (Ct 22 235 [20, 21]),
  Ls 23 2 8,
  Mv 24 2,
  Af [3, 2, 0] (Ct 25 235 [23, 24]),
  Mv 10 22,
  Mv 11 25]
def f215x3 : List AOper := [
  Mv 26 9,
  Mv 27 26,
  Gt 27 (Ls 28 2 3),
  Gt 27 (Mv 29 2),
  Gt 27 (Ct 30 235 [28, 29]),
  Gt 27 (Mv 31 10),
  Gt 27 (Mv 32 31),
  Gf 32 (Mv 33 11),
  Gt 27 (Po 34 32 33),
  Gt 27 (Op 35 (.eqb true (.t 30) (.t 34))),
  Gt 27 (Mv 36 35),
  Gf 36 (Mv 37 10),
  Gf 36 (Mv 38 37),
  Gt 38 (Mv 39 11),
  Gf 36 (Pa 40 38 39),
  Gt 27 (Po 41 36 40),
  Pa 42 27 41]
def f215x4 : List AOper := [
  Mc 6 (.bool false)]
def f215x5 : List AOper := [
  Ls 43 2 4,
  Ct 44 178 [43],
  Un 45 .not 44]
def f215x6 : List AOper := [
  Ct 46 226 [],
  Mv 6 46]
def f215x7 : List AOper := [
  Mv 48 2,
  Fa 49 1 4,
  Ld 50 49,
  Ct 51 236 [48, 50],
  Mv 47 51,
  Ex 52 47 0,
  Ex 53 47 1,
  Op 12 (.alloc (.agg [.int .u32 0, .int .i64 0])),
  St 2 12 52,
  Mv 13 53]
def f215x8 : List AOper := [
  Mv 54 13,
  Bc 55 .eql 54 0,
  Mv 56 55,
  Gt 56 (Ls 57 2 12),
  Gt 56 (Mv 58 2),
  Af [3] (Gt 56 (Ct 59 235 [57, 58])),
  Pa 60 56 59,
  Mv 61 60,
  Af [5, 3] (Gt 61 (Ls 62 2 4)),
  Gt 61 (Mv 63 2),
  Af [8, 5, 3] (Gt 61 (Ct 64 235 [62, 63])),
  Af [5, 3] (Gt 61 (Ls 65 2 4)),
  Af [5, 3] (Gt 61 (Ls 66 2 12)),
  Gt 61 (Op 67 (.eqs [.int, .int] false (.t 65) (.t 66))),
  Gt 61 (Op 68 (.eqb false (.t 64) (.t 67))),
  Pa 69 61 68,
  Mv 70 69,
  Af [10, 11, 12, 8, 5, 3] (Gt 70 (Ct 71 226 [])),
  Pa 72 70 71,
  Mv 6 72]
def f215 : AFunc := ⟨73, 3, false, [.t 6], (.seq (.region f215x0 false) (.seq (.region f215x1 false) (.seq (.region f215x2 true) (.seq (.seq (.region f215x3 false) (.cond (.t 42) (.seq (.region f215x4 false) .ret) .skip)) (.seq (.seq (.region f215x5 false) (.cond (.t 45) (.seq (.region f215x6 false) .ret) .skip)) (.seq (.region f215x7 false) (.seq (.region f215x8 true) .ret)))))))⟩
def f216x0 : List AOper := [
  Op 4 (.box (.t 0)),
  Op 5 (.box (.t 1)),
  Op 6 (.box (.t 2)),
  Mc 8 (.bool false)]
def f216x1 : List AOper := [
  Ls 9 2 4,
  Mv 10 3,
  Ct 11 235 [9, 10],
  Mv 12 11,
  Gt 12 (Ls 13 2 5),
  Gt 12 (Mv 14 3),
  Gt 12 (Ct 15 235 [13, 14]),
  Pa 16 12 15,
  Mv 17 16,
  Gt 17 (Ls 18 2 4),
  Gt 17 (Ls 19 2 5),
  Gt 17 (Ct 20 237 [18, 19]),
  Gt 17 (Un 21 .not 20),
  Pa 22 17 21,
  Mv 23 22,
  Gt 23 (Ls 24 2 5),
  Gt 23 (Ls 25 2 4),
  Gt 23 (Ct 26 237 [24, 25]),
  Gt 23 (Un 27 .not 26),
  Pa 28 23 27]
def f216x2 : List AOper := [
  Mc 8 (.bool false)]
def f216x3 : List AOper := [
  Ls 29 2 4,
  Ls 30 2 5,
  Ct 31 237 [29, 30],
  Un 32 .not 31,
  Mv 33 32,
  Gf 33 (Ls 34 2 5),
  Gf 33 (Ls 35 2 6),
  Gf 33 (Ct 36 237 [34, 35]),
  Gf 33 (Un 37 .not 36),
  Po 38 33 37,
  Mv 39 38,
  Gf 39 (Ls 40 2 4),
  Gf 39 (Ls 41 2 6),
  Gf 39 (Ct 42 237 [40, 41]),
  Po 43 39 42,
  Mv 44 43,
  Gt 44 (Ct 45 226 []),
  Pa 46 44 45,
  Mv 8 46]
def f216 : AFunc := ⟨47, 4, false, [.t 8], (.seq (.region f216x0 false) (.seq (.seq (.region f216x1 false) (.cond (.t 28) (.seq (.region f216x2 false) .ret) .skip)) (.seq (.region f216x3 false) .ret)))⟩
def f217x0 : List AOper := [
  Op 3 (.box (.t 0)),
  Op 4 (.box (.t 1)),
  Mc 6 (.bool false)]
def f217x1 : List AOper := [
  Mv 11 2,
  Fa 12 1 4,
  Ld 13 12,
  Ct 14 236 [11, 13],
  Mv 10 14,
  Ex 15 10 0,
  Ex 16 10 1,
  Op 7 (.alloc (.agg [.int .u32 0, .int .i64 0])),
  St 2 7 15,
  Mv 8 16]
def f217x2 : List AOper := [
  Fa 17 1 4,
  Ld 18 17,
  Bc 19 .lss 18 0,
  Mv 20 19,
  Gf 20 (Fa 21 1 4),
  Gf 20 (Ld 22 21),
  Gf 20 (Bc 23 .gtr 22 32),
  Po 24 20 23]
def f217x3 : List AOper := [
  Mv 25 8,
  Bc 26 .neq 25 5,
  Mv 27 26,
  Gf 27 (Ls 28 2 7),
  Gf 27 (Op 29 (.build [.int .u32 0, .int .i64 0] [] [])),
  Gf 27 (Op 30 (.eqs [.int, .int] true (.t 28) (.t 29))),
  Po 31 27 30]
def f217x4 : List AOper := [
  Mc 6 (.bool false)]
def f217x5 : List AOper := [
  Mv 32 8,
  Bc 33 .neq 32 0,
  Mv 34 33,
  Gf 34 (Ls 35 2 7),
  Gf 34 (Mv 36 2),
  Gf 34 (Fa 37 1 4),
  Gf 34 (Ld 38 37),
  Af [6] (Gf 34 (Ct 39 238 [36, 38])),
  Gf 34 (Op 40 (.eqs [.int, .int] true (.t 35) (.t 39))),
  Po 41 34 40]
def f217x6 : List AOper := [
  Mc 6 (.bool false)]
def f217x7 : List AOper := [
  Ls 42 2 3,
  Ls 43 2 4,
  Ct 44 239 [42, 43],
  Mv 45 44,
  Gf 45 (Ls 46 2 4),
  Gf 45 (Ls 47 2 3),
  Gf 45 (Ct 48 239 [46, 47]),
  Po 49 45 48,
  Mv 9 49]
def f217x8 : List AOper := [
  Ls 50 2 3,
  Af [0] (Ct 51 178 [50]),
  Ls 52 2 3,
  Af [2, 1, 0] (Ct 53 179 [52]),
  Op 54 (.eqb false (.t 51) (.t 53)),
  Mv 55 54,
  Af [3, 2, 1, 0] (Gt 55 (Ls 56 2 3)),
  Gt 55 (Mv 57 2),
  Af [6, 3, 2, 1, 0] (Gt 55 (Ct 58 235 [56, 57])),
  Af [3, 2, 1, 0] (Gt 55 (Ls 59 2 3)),
  Gt 55 (Mv 60 2),
  Af [9, 8, 6, 3, 2, 1, 0] (Gt 55 (Ct 61 240 [59, 60])),
  Gt 55 (Op 62 (.eqb false (.t 58) (.t 61))),
  Pa 63 55 62,
  Mv 64 63,
  Af [11, 9, 8, 6, 3, 2, 1, 0] (Gt 64 (Ls 65 2 3)),
  Af [11, 9, 8, 6, 3, 2, 1, 0] (Gt 64 (Ls 66 2 4)),
  Af [15, 16, 11, 9, 8, 6, 3, 2, 1, 0] (Gt 64 (Ct 67 237 [65, 66])),
  Af [11, 9, 8, 6, 3, 2, 1, 0] (Gt 64 (Ls 68 2 3)),
  Af [11, 9, 8, 6, 3, 2, 1, 0] (Gt 64 (Ls 69 2 4)),
  Af [18, 19, 17, 15, 16, 11, 9, 8, 6, 3, 2, 1, 0] (Gt 64 (Ct 70 239 [68, 69])),
  Gt 64 (Op 71 (.eqb false (.t 67) (.t 70))),
  Pa 72 64 71,
  Mv 73 72,
  Af [20, 18, 19, 17, 15, 16, 11, 9, 8, 6, 3, 2, 1, 0] (Gt 73 (Ls 74 2 3)),
  Af [20, 18, 19, 17, 15, 16, 11, 9, 8, 6, 3, 2, 1, 0] (Gt 73 (Ls 75 2 4)),
  Af [24, 25, 20, 18, 19, 17, 15, 16, 11, 9, 8, 6, 3, 2, 1, 0] (Gt 73 (Ct 76 241 [74, 75])),
  Gt 73 (Mv 77 9),
  Gt 73 (Op 78 (.eqb false (.t 76) (.t 77))),
  Pa 79 73 78,
  Mv 80 79,
  Af [26, 24, 25, 20, 18, 19, 17, 15, 16, 11, 9, 8, 6, 3, 2, 1, 0] (Gt 80 (Ct 81 226 [])),
  Pa 82 80 81,
  Mv 6 82]
def f217 : AFunc := ⟨83, 3, false, [.t 6], (.seq (.region f217x0 false) (.seq (.region f217x1 false) (.seq (.seq (.region f217x2 false) (.cond (.t 24) (.seq (.region f217x3 false) (.cond (.t 31) (.seq (.region f217x4 false) .ret) .skip)) (.seq (.region f217x5 true) (.cond (.t 41) (.seq (.region f217x6 false) .ret) .skip)))) (.seq (.region f217x7 false) (.seq (.region f217x8 true) .ret)))))⟩
def f218x0 : List AOper := [
  Op 3 (.box (.t 0)),
  Op 4 (.box (.t 1)),
  Op 5 (.box (.t 2)),
  Mc 6 (.bool false)]
def f218x1 : List AOper := [
  Ls 9 2 3,
  Ls 10 2 4,
  Af [0, 1] (Ct 11 172 [9, 10]),
  Ls 12 2 4,
  Ls 13 2 5,
  Af [3, 4, 2, 0, 1] (Ct 14 172 [12, 13]),
  Mv 7 11,
  Mv 8 14]
def f218x2 : List AOper := [
  Mv 15 7,
  Ls 16 2 3,
  Ls 17 2 4,
  Ct 18 180 [16, 17],
  Bi 19 .neq 15 18,
  Mv 20 19,
  Gf 20 (Ls 21 2 4),
  Gf 20 (Ls 22 2 3),
  Gf 20 (Ct 23 172 [21, 22]),
  Gf 20 (Mv 24 7),
  Gf 20 (Un 25 .neg 24),
  Gf 20 (Bi 26 .neq 23 25),
  Po 27 20 26,
  Mv 28 27,
  Gf 28 (Mv 29 7),
  Gf 28 (Bc 30 .eql 29 0),
  Gf 28 (Ls 31 2 3),
  Gf 28 (Ls 32 2 4),
  Gf 28 (Op 33 (.eqs [.int, .int] false (.t 31) (.t 32))),
  Gf 28 (Op 34 (.eqb true (.t 30) (.t 33))),
  Po 35 28 34]
def f218x3 : List AOper := [
  Mc 6 (.bool false)]
def f218x4 : List AOper := [
  Mv 36 7,
  Bc 37 .gtr 36 0,
  Mv 38 37,
  Gf 38 (Mv 39 8),
  Gf 38 (Bc 40 .gtr 39 0),
  Po 41 38 40,
  Mv 42 41,
  Gf 42 (Ls 43 2 3),
  Gf 42 (Ls 44 2 5),
  Gf 42 (Ct 45 172 [43, 44]),
  Gf 42 (Bc 46 .leq 45 0),
  Po 47 42 46,
  Mv 48 47,
  Gt 48 (Ct 49 226 []),
  Pa 50 48 49,
  Mv 6 50]
def f218 : AFunc := ⟨51, 3, false, [.t 6], (.seq (.region f218x0 false) (.seq (.region f218x1 true) (.seq (.seq (.region f218x2 false) (.cond (.t 35) (.seq (.region f218x3 false) .ret) .skip)) (.seq (.region f218x4 false) .ret))))⟩
def f219x0 : List AOper := [
  Mc 2 (.bool false)]
def f219x1 : List AOper := [
  Mv 3 0,
  Ln 4 0 3,
  Bc 5 .gtr 4 100]
def f219x2 : List AOper := [
  Ct 6 226 [],
  Mv 2 6]
def f219x3 : List AOper := [
  Mv 7 0,
  Ct 8 242 [7],
  Mv 9 0,
  Ct 10 243 [9],
  Ct 11 139 [8, 10],
  Mv 12 11,
  Gt 12 (Ct 13 226 []),
  Pa 14 12 13,
  Mv 2 14]
def f219 : AFunc := ⟨15, 1, false, [.t 2], (.seq (.region f219x0 false) (.seq (.seq (.region f219x1 false) (.cond (.t 5) (.seq (.region f219x2 false) .ret) .skip)) (.seq (.region f219x3 false) .ret)))⟩
def f179x0 : List AOper := [
  Op 1 (.box (.t 0)),
  Mc 2 (.bool false)]
def f179x1 : List AOper := [
  Fa 3 1 1,
  Ld 4 3,
  Bc 5 .geq 4 0,
  Mv 6 5,
  Gt 6 (Fa 7 1 1),
  Af [1] (Gt 6 (Ld 8 7)),
  Gt 6 (Bc 9 .leq 8 32),
  Pa 10 6 9,
  Mv 11 10,
  Gt 11 (Fa 12 0 1),
  Af [5, 1] (Gt 11 (Ld 13 12)),
  Gt 11 (Fa 14 1 1),
  Af [5, 1] (Gt 11 (Ld 15 14)),
  Af [10, 12, 5, 1] (Gt 11 (Ct 16 182 [13, 15])),
  Gt 11 (Fa 17 0 1),
  Af [5, 1] (Gt 11 (Ld 18 17)),
  Gt 11 (Bi 19 .eql 16 18),
  Pa 20 11 19,
  Mv 2 20]
def f179 : AFunc := ⟨21, 1, false, [.t 2], (.seq (.region f179x0 false) (.seq (.region f179x1 true) .ret))⟩
def f220x0 : List AOper := [
  Op 1 (.box (.t 0)),
  Mc 2 (.int .u32 0)]
def f220x1 : List AOper := [
  Fa 3 0 1,
  Ld 4 3,
  Fa 5 1 1,
  Ld 6 5,
  Af [3] (Ct 7 244 [6]),
  Op 8 (.bin .sub (.c (.int .u32 4294967295)) (.t 7)),
  Bi 9 .or 4 8,
  Mv 2 9]
def f220 : AFunc := ⟨10, 1, false, [.t 2], (.seq (.region f220x0 false) (.seq (.region f220x1 true) .ret))⟩
def f221x0 : List AOper := [
  Op 1 (.box (.t 0)),
  Op 2 (.alloc (.agg [.int .u32 0, .int .i64 0])),
  Mc 3 (.bool false)]
def f221x1 : List AOper := [
  Ls 4 2 1,
  Ct 5 178 [4],
  Un 6 .not 5,
  Mv 7 6,
  Gf 7 (Fa 8 1 1),
  Gf 7 (Ld 9 8),
  Gf 7 (Bc 10 .eql 9 0),
  Po 11 7 10]
def f221x2 : List AOper := [
  Op 12 (.build [.int .u32 0, .int .i64 0] [] []),
  St 2 2 12,
  Mc 3 (.bool false)]
def f221x3 : List AOper := [
  Fa 13 0 1,
  Ld 14 13,
  Fa 15 1 1,
  Ld 16 15,
  Bc 17 .sub 16 1,
  Ct 18 245 [14, 17],
  St 2 2 18,
  Mc 3 (.bool true)]
def f221 : AFunc := ⟨19, 1, false, [.cell 2 (some 2), .t 3], (.seq (.region f221x0 false) (.seq (.seq (.region f221x1 false) (.cond (.t 11) (.seq (.region f221x2 false) .ret) .skip)) (.seq (.region f221x3 false) .ret)))⟩
def f222x0 : List AOper := [
  Op 1 (.box (.t 0)),
  Op 2 (.alloc (.agg [.int .u32 0, .int .i64 0])),
  Mc 3 (.bool false)]
def f222x1 : List AOper := [
  Ls 4 2 1,
  Ct 5 179 [4],
  Un 6 .not 5,
  Mv 7 6,
  Gf 7 (Fa 8 1 1),
  Gf 7 (Ld 9 8),
  Gf 7 (Bc 10 .eql 9 0),
  Po 11 7 10]
def f222x2 : List AOper := [
  Op 12 (.build [.int .u32 0, .int .i64 0] [] []),
  St 2 2 12,
  Mc 3 (.bool false)]
def f222x3 : List AOper := [
  Fa 13 0 1,
  Ld 14 13,
  Fa 15 1 1,
  Ld 16 15,
  Bc 17 .sub 16 1,
  Ct 18 238 [14, 17],
  St 2 2 18,
  Mc 3 (.bool true)]
def f222 : AFunc := ⟨19, 1, false, [.cell 2 (some 2), .t 3], (.seq (.region f222x0 false) (.seq (.seq (.region f222x1 false) (.cond (.t 11) (.seq (.region f222x2 false) .ret) .skip)) (.seq (.region f222x3 false) .ret)))⟩
def f223x0 : List AOper := [
  Op 1 (.box (.t 0)),
  Op 2 (.alloc (.agg [.int .u32 0, .int .i64 0])),
  Op 3 (.alloc (.agg [.int .u32 0, .int .i64 0])),
  Mc 4 (.bool false)]
def f223x1 : List AOper := [
  Ls 5 2 1,
  Ct 6 178 [5],
  Un 7 .not 6,
  Mv 8 7,
  Gf 8 (Fa 9 1 1),
  Gf 8 (Ld 10 9),
  Gf 8 (Bc 11 .eql 10 32),
  Po 12 8 11]
def f223x2 : List AOper := [
  Op 13 (.build [.int .u32 0, .int .i64 0] [] []),
  Op 14 (.build [.int .u32 0, .int .i64 0] [] []),
  St 2 2 13,
  St 2 3 14,
  Mc 4 (.bool false)]
def f223x3 : List AOper := [
  Fa 15 0 1,
  Ld 16 15,
  Fa 17 1 1,
  Ld 18 17,
  Bc 19 .add 18 1,
  Af [1, 3] (Ct 20 245 [16, 19]),
  Ls 21 2 1,
  Af [6, 5, 1, 3] (Ct 22 225 [21]),
  Fa 23 1 1,
  Ld 24 23,
  Bc 25 .add 24 1,
  Af [7, 9, 6, 5, 1, 3] (Ct 26 245 [22, 25]),
  Af [11, 7, 9, 6, 5, 1, 3] (St 2 2 20),
  Af [12, 11, 7, 9, 6, 5, 1, 3] (St 2 3 26),
  Mc 4 (.bool true)]
def f223 : AFunc := ⟨27, 1, false, [.cell 2 (some 2), .cell 3 (some 2), .t 4], (.seq (.region f223x0 false) (.seq (.seq (.region f223x1 false) (.cond (.t 12) (.seq (.region f223x2 false) .ret) .skip)) (.seq (.region f223x3 true) .ret)))⟩
def f224x0 : List AOper := [
  Op 1 (.box (.t 0)),
  Op 2 (.alloc (.agg [.int .u32 0, .int .i64 0])),
  Op 3 (.alloc (.agg [.int .u32 0, .int .i64 0])),
  Mc 4 (.bool false)]
def f224x1 : List AOper := [
  Ls 5 2 1,
  Ct 6 179 [5],
  Un 7 .not 6,
  Mv 8 7,
  Gf 8 (Fa 9 1 1),
  Gf 8 (Ld 10 9),
  Gf 8 (Bc 11 .eql 10 32),
  Po 12 8 11]
def f224x2 : List AOper := [
  Op 13 (.build [.int .u32 0, .int .i64 0] [] []),
  Op 14 (.build [.int .u32 0, .int .i64 0] [] []),
  St 2 2 13,
  St 2 3 14,
  Mc 4 (.bool false)]
def f224x3 : List AOper := [
  Fa 15 0 1,
  Ld 16 15,
  Fa 17 1 1,
  Ld 18 17,
  Bc 19 .add 18 1,
  Op 20 (.build [.int .u32 0, .int .i64 0] [(0, 1), (1, 1)] [(.t 16), (.t 19)]),
  Fa 21 0 1,
  Ld 22 21,
  Fa 23 1 1,
  Ld 24 23,
  Op 25 (.bin .sub (.c (.int .i64 31)) (.t 24)),
  Cv 26 .u64 25,
  Op 27 (.bin .shl (.c (.int .u32 1)) (.t 26)),
  Bi 28 .or 22 27,
  Fa 29 1 1,
  Ld 30 29,
  Bc 31 .add 30 1,
  Op 32 (.build [.int .u32 0, .int .i64 0] [(0, 1), (1, 1)] [(.t 28), (.t 31)]),
  Af [1, 3] (St 2 2 20),
  Af [18, 7, 9, 15, 1, 3] (St 2 3 32),
  Mc 4 (.bool true)]
def f224 : AFunc := ⟨33, 1, false, [.cell 2 (some 2), .cell 3 (some 2), .t 4], (.seq (.region f224x0 false) (.seq (.seq (.region f224x1 false) (.cond (.t 12) (.seq (.region f224x2 false) .ret) .skip)) (.seq (.region f224x3 true) .ret)))⟩
def f225x0 : List AOper := [
  Op 1 (.box (.t 0)),
  Mc 2 (.int .u32 0)]
def f225x1 : List AOper := [
  Ls 3 2 1,
  Ct 4 178 [3],
  Un 5 .not 4]
def f225x2 : List AOper := [
  Mc 2 (.int .u32 0)]
def f225x3 : List AOper := [
  Fa 6 0 1,
  Ld 7 6,
  Fa 8 1 1,
  Ld 9 8,
  Af [3] (Ct 10 183 [9]),
  Un 11 .xor 10,
  Bi 12 .or 7 11,
  Mv 2 12]
def f225 : AFunc := ⟨13, 1, false, [.t 2], (.seq (.region f225x0 false) (.seq (.seq (.region f225x1 false) (.cond (.t 5) (.seq (.region f225x2 false) .ret) .skip)) (.seq (.region f225x3 true) .ret)))⟩
def f226x0 : List AOper := [
  Mc 0 (.bool false)]
def f226x1 : List AOper := [
  Ca 13 236 [(.c (.int .u32 167838211)), (.c (.int .i64 23))],
  Mv 12 13,
  Ex 14 12 0,
  Ex 15 12 1,
  Op 1 (.alloc (.agg [.int .u32 0, .int .i64 0])),
  St 2 1 14,
  Mv 2 15]
def f226x2 : List AOper := [
  Ls 17 2 1,
  Ct 18 223 [17],
  Mv 16 18,
  Ex 19 16 0,
  Ex 20 16 1,
  Ex 21 16 2,
  Op 3 (.alloc (.agg [.int .u32 0, .int .i64 0])),
  Op 4 (.alloc (.agg [.int .u32 0, .int .i64 0])),
  St 2 3 19,
  St 2 4 20,
  Mv 5 21]
def f226x3 : List AOper := [
  Ls 23 2 1,
  Ct 24 221 [23],
  Mv 22 24,
  Ex 25 22 0,
  Ex 26 22 1,
  Op 6 (.alloc (.agg [.int .u32 0, .int .i64 0])),
  St 2 6 25,
  Mv 7 26]
def f226x4 : List AOper := [
  Ca 28 233 [(.c (.str [49, 48, 46, 48, 46, 48, 46, 49, 47, 56]))],
  Mv 27 28,
  Ex 29 27 0,
  Ex 30 27 1,
  Op 8 (.alloc (.agg [.int .u32 0, .int .i64 0])),
  St 2 8 29,
  Mv 9 30]
def f226x5 : List AOper := [
  Ca 32 233 [(.c (.str [49, 48, 46, 48, 46, 48, 46, 48, 47, 48, 56]))],
  Mv 31 32,
  Ex 33 31 0,
  Ex 34 31 1,
  Op 10 (.alloc (.agg [.int .u32 0, .int .i64 0])),
  St 2 10 33,
  Mv 11 34]
def f226x6 : List AOper := [
  Mv 35 2,
  Bc 36 .eql 35 0,
  Mv 37 36,
  Gt 37 (Mv 38 5),
  Pa 39 37 38,
  Mv 40 39,
  Gt 40 (Mv 41 7),
  Pa 42 40 41,
  Mv 43 42,
  Gt 43 (Mv 44 9),
  Gt 43 (Bc 45 .eql 44 1),
  Pa 46 43 45,
  Mv 47 46,
  Gt 47 (Mv 48 11),
  Gt 47 (Bc 49 .eql 48 2),
  Pa 50 47 49,
  Mv 51 50,
  Gt 51 (Ls 52 2 1),
  Gt 51 (Ct 53 229 [52]),
  Gt 51 (Op 54 (.bin .eql (.t 53) (.c (.str [49, 48, 46, 49, 46, 50, 46, 48, 47, 50, 51])))),
  Pa 55 51 54,
  Mv 56 55,
  Gt 56 (Ls 57 2 1),
  Gt 56 (Ct 58 225 [57]),
  Gt 56 (Ct 59 227 [58]),
  Gt 56 (Op 60 (.bin .eql (.t 59) (.c (.str [49, 48, 46, 49, 46, 51, 46, 50, 53, 53])))),
  Pa 61 56 60,
  Mv 62 61,
  Gt 62 (Ls 63 2 3),
  Gt 62 (Ct 64 229 [63]),
  Gt 62 (Op 65 (.bin .eql (.t 64) (.c (.str [49, 48, 46, 49, 46, 50, 46, 48, 47, 50, 52])))),
  Pa 66 62 65,
  Mv 67 66,
  Gt 67 (Ls 68 2 4),
  Gt 67 (Ct 69 229 [68]),
  Gt 67 (Op 70 (.bin .eql (.t 69) (.c (.str [49, 48, 46, 49, 46, 51, 46, 48, 47, 50, 52])))),
  Pa 71 67 70,
  Mv 72 71,
  Gt 72 (Ls 73 2 6),
  Gt 72 (Ct 74 229 [73]),
  Gt 72 (Op 75 (.bin .eql (.t 74) (.c (.str [49, 48, 46, 49, 46, 48, 46, 48, 47, 50, 50])))),
  Pa 76 72 75,
  Mv 0 76]
def f226 : AFunc := ⟨77, 0, false, [.t 0], (.seq (.region f226x0 false) (.seq (.region f226x1 false) (.seq (.region f226x2 false) (.seq (.region f226x3 false) (.seq (.region f226x4 false) (.seq (.region f226x5 false) (.seq (.region f226x6 false) .ret)))))))⟩
def f227x0 : List AOper := [
  Mc 2 (.str [])]
def f227x1 : List AOper := [
  Op 3 (.alloc (.agg [.str [], .str [], .str [], .str []]))]
def f227x2 : List AOper := [
  Mc 5 (.int .i64 0)]
def f227x3 : List AOper := [
  Bc 6 .lss 5 4]
def f227x4 : List AOper := [
  Mv 7 5,
  Mv 4 7]
def f227x5 : List AOper := [
  Mv 8 4,
  Mv 9 0,
  Mv 10 4,
  Op 11 (.bin .mul (.c (.int .i64 8)) (.t 10)),
  Op 12 (.bin .sub (.c (.int .i64 24)) (.t 11)),
  Bi 13 .shr 9 12,
  Op 14 (.bin .and (.t 13) (.c (.int .u32 255))),
  Cv 15 .i64 14,
  Ct 16 246 [15],
  Op 17 (.iarr 4 1 (.t 3) (.t 8)),
  St 1 17 16]
def f227x6 : List AOper := [
  Bc 18 .add 5 1,
  Mv 5 18]
def f227x7L : ACode := (.seq (.region f227x3 false) (.seq (.cond (.t 6) .skip (.exit 0)) (.seq (.block 1 (.seq (.region f227x4 false) (.region f227x5 false))) (.region f227x6 false))))
def f227x8 : List AOper := [
  Op 19 (.slarr 4 1 (.t 3) none none none),
  Ca 20 247 [(.t 19), (.c (.str [46]))],
  Mv 2 20]
def f227 : AFunc := ⟨21, 1, false, [.t 2], (.seq (.region f227x0 false) (.seq (.region f227x1 false) (.seq (.seq (.region f227x2 false) (.block 0 (.loop f227x7L))) (.seq (.region f227x8 false) .ret))))⟩
def f227x7LH : List AItem := [.inLoop f227x7L, .inBlock 0, .code (.seq (.region f227x8 false) .ret)]
def f228x0 : List AOper := [
  Mc 2 (.str [])]
def f228x1 : List AOper := [
  Mv 3 0,
  Op 4 (.bin .shr (.t 3) (.c (.int .u64 24))),
  Cv 5 .i64 4,
  Ct 6 248 [5],
  Op 7 (.bin .add (.t 6) (.c (.str [46]))),
  Mv 8 0,
  Op 9 (.bin .shr (.t 8) (.c (.int .u64 16))),
  Op 10 (.bin .and (.t 9) (.c (.int .u32 255))),
  Cv 11 .i64 10,
  Ct 12 248 [11],
  Bi 13 .add 7 12,
  Op 14 (.bin .add (.t 13) (.c (.str [46]))),
  Mv 15 0,
  Op 16 (.bin .shr (.t 15) (.c (.int .u64 8))),
  Op 17 (.bin .and (.t 16) (.c (.int .u32 255))),
  Cv 18 .i64 17,
  Ct 19 248 [18],
  Bi 20 .add 14 19,
  Op 21 (.bin .add (.t 20) (.c (.str [46]))),
  Mv 22 0,
  Op 23 (.bin .and (.t 22) (.c (.int .u32 255))),
  Cv 24 .i64 23,
  Ct 25 248 [24],
  Bi 26 .add 21 25,
  Mv 2 26]
def f228 : AFunc := ⟨27, 1, false, [.t 2], (.seq (.region f228x0 false) (.seq (.region f228x1 false) .ret))⟩
def f229x0 : List AOper := [
  Op 1 (.box (.t 0)),
  Mc 2 (.str [])]
def f229x1 : List AOper := [
  Ls 3 2 1,
  Ct 4 178 [3],
  Un 5 .not 4]
def f229x2 : List AOper := [
  Mc 2 (.str [])]
def f229x3 : List AOper := [
  Fa 6 0 1,
  Ld 7 6,
  Af [1] (Ct 8 227 [7]),
  Op 9 (.bin .add (.t 8) (.c (.str [47]))),
  Fa 10 1 1,
  Ld 11 10,
  Af [5, 2, 1] (Ct 12 246 [11]),
  Bi 13 .add 9 12,
  Mv 2 13]
def f229 : AFunc := ⟨14, 1, false, [.t 2], (.seq (.region f229x0 false) (.seq (.seq (.region f229x1 false) (.cond (.t 5) (.seq (.region f229x2 false) .ret) .skip)) (.seq (.region f229x3 true) .ret)))⟩
def f230x0 : List AOper := [
  Op 1 (.box (.t 0)),
  Mc 2 (.str [])]
def f230x1 : List AOper := [
  Ls 3 2 1,
  Ct 4 179 [3],
  Un 5 .not 4]
def f230x2 : List AOper := [
  Mc 2 (.str [])]
def f230x3 : List AOper := [
  Fa 6 0 1,
  Ld 7 6,
  Af [1] (Ct 8 228 [7]),
  Op 9 (.bin .add (.t 8) (.c (.str [47]))),
  Fa 10 1 1,
  Ld 11 10,
  Af [5, 2, 1] (Ct 12 248 [11]),
  Bi 13 .add 9 12,
  Mv 2 13]
def f230 : AFunc := ⟨14, 1, false, [.t 2], (.seq (.region f230x0 false) (.seq (.seq (.region f230x1 false) (.cond (.t 5) (.seq (.region f230x2 false) .ret) .skip)) (.seq (.region f230x3 true) .ret)))⟩
def f231x0 : List AOper := [
  Mc 2 (.int .u32 0),
  Mc 3 (.int .i64 0)]
def f231x1 : List AOper := [
  Mv 10 0,
  Ca 11 249 [(.t 10), (.c (.str [46]))],
  Mv 4 11]
def f231x2 : List AOper := [
  Mv 12 4,
  Ln 13 0 12,
  Bc 14 .neq 13 4]
def f231x3 : List AOper := [
  Mc 2 (.int .u32 0),
  Mc 3 (.int .i64 2)]
def f231x4 : List AOper := [
  Mc 5 (.int .u32 0)]
def f231x5 : List AOper := [
  Mv 15 4,
  Ln 16 0 15,
  Mc 17 (.int .i64 0)]
def f231x6 : List AOper := [
  Bi 18 .lss 17 16]
def f231x7 : List AOper := [
  Ia 19 1 15 17,
  Ld 20 19,
  Mv 7 20]
def f231x8 : List AOper := [
  Mv 22 7,
  Ca 23 250 [(.t 22), (.c (.int .i64 255))],
  Mv 21 23,
  Ex 24 21 0,
  Ex 25 21 1,
  Mv 8 24,
  Mv 9 25]
def f231x9 : List AOper := [
  Mv 26 9,
  Un 27 .not 26]
def f231x10 : List AOper := [
  Mc 2 (.int .u32 0),
  Mc 3 (.int .i64 2)]
def f231x11 : List AOper := [
  Mv 28 5,
  Op 29 (.bin .shl (.t 28) (.c (.int .u64 8))),
  Mv 30 8,
  Cv 31 .u32 30,
  Bi 32 .or 29 31,
  Mv 5 32]
def f231x12 : List AOper := [
  Bc 33 .add 17 1,
  Mv 17 33]
def f231x13L : ACode := (.seq (.region f231x6 false) (.seq (.cond (.t 18) .skip (.exit 0)) (.seq (.block 1 (.seq (.region f231x7 false) (.seq (.region f231x8 false) (.seq (.seq (.region f231x9 false) (.cond (.t 27) (.seq (.region f231x10 false) .ret) .skip)) (.region f231x11 false))))) (.region f231x12 false))))
def f231x14 : List AOper := [
  Mv 34 5,
  Mv 2 34,
  Mc 3 (.int .i64 0)]
def f231 : AFunc := ⟨35, 1, false, [.t 2, .t 3], (.seq (.region f231x0 false) (.seq (.region f231x1 false) (.seq (.seq (.region f231x2 false) (.cond (.t 14) (.seq (.region f231x3 false) .ret) .skip)) (.seq (.region f231x4 false) (.seq (.seq (.region f231x5 false) (.block 0 (.loop f231x13L))) (.seq (.region f231x14 false) .ret))))))⟩
def f231x13LH : List AItem := [.inLoop f231x13L, .inBlock 0, .code (.seq (.region f231x14 false) .ret)]
def f232x0 : List AOper := [
  Mc 2 (.int .u32 0),
  Mc 3 (.int .i64 0)]
def f232x1 : List AOper := [
  Mv 7 0,
  Ct 8 251 [7],
  Mv 6 8,
  Ex 9 6 0,
  Ex 10 6 1,
  Mv 4 9,
  Mv 5 10]
def f232x2 : List AOper := [
  Mv 11 5,
  Mv 12 0,
  Ln 13 1 12,
  Bi 14 .neq 11 13]
def f232x3 : List AOper := [
  Mc 2 (.int .u32 0),
  Mc 3 (.int .i64 2)]
def f232x4 : List AOper := [
  Mv 15 4,
  Mv 2 15,
  Mc 3 (.int .i64 0)]
def f232 : AFunc := ⟨16, 1, false, [.t 2, .t 3], (.seq (.region f232x0 false) (.seq (.region f232x1 false) (.seq (.seq (.region f232x2 false) (.cond (.t 14) (.seq (.region f232x3 false) .ret) .skip)) (.seq (.region f232x4 false) .ret))))⟩
def f233x0 : List AOper := [
  Op 2 (.alloc (.agg [.int .u32 0, .int .i64 0])),
  Mc 3 (.int .i64 0)]
def f233x1 : List AOper := [
  Mv 13 0,
  Ca 14 252 [(.t 13), (.c (.str [47]))],
  Mv 12 14,
  Ex 15 12 0,
  Ex 16 12 1,
  Ex 17 12 2,
  Mv 4 15,
  Mv 5 16,
  Mv 6 17]
def f233x2 : List AOper := [
  Mv 19 4,
  Ct 20 231 [19],
  Mv 18 20,
  Ex 21 18 0,
  Ex 22 18 1,
  Mv 7 21,
  Mv 8 22]
def f233x3 : List AOper := [
  Mv 24 5,
  Ca 25 250 [(.t 24), (.c (.int .i64 32))],
  Mv 23 25,
  Ex 26 23 0,
  Ex 27 23 1,
  Mv 9 26,
  Mv 10 27]
def f233x4 : List AOper := [
  Mv 28 6,
  Un 29 .not 28,
  Mv 30 29,
  Gf 30 (Mv 31 8),
  Gf 30 (Bc 32 .neq 31 0),
  Po 33 30 32,
  Mv 34 33,
  Gf 34 (Mv 35 10),
  Gf 34 (Un 36 .not 35),
  Po 37 34 36]
def f233x5 : List AOper := [
  Op 38 (.build [.int .u32 0, .int .i64 0] [] []),
  St 2 2 38,
  Mc 3 (.int .i64 2)]
def f233x6 : List AOper := [
  Mv 39 7,
  Mv 40 9,
  Op 41 (.build [.int .u32 0, .int .i64 0] [(0, 1), (1, 1)] [(.t 39), (.t 40)]),
  Op 11 (.alloc (.agg [.int .u32 0, .int .i64 0])),
  St 2 11 41]
def f233x7 : List AOper := [
  Ls 42 2 11,
  Ct 43 178 [42],
  Un 44 .not 43]
def f233x8 : List AOper := [
  Op 45 (.build [.int .u32 0, .int .i64 0] [] []),
  St 2 2 45,
  Mc 3 (.int .i64 1)]
def f233x9 : List AOper := [
  Ls 46 2 11,
  St 2 2 46,
  Mc 3 (.int .i64 0)]
def f233 : AFunc := ⟨47, 1, false, [.cell 2 (some 2), .t 3], (.seq (.region f233x0 false) (.seq (.region f233x1 false) (.seq (.region f233x2 false) (.seq (.region f233x3 false) (.seq (.seq (.region f233x4 false) (.cond (.t 37) (.seq (.region f233x5 false) .ret) .skip)) (.seq (.region f233x6 false) (.seq (.seq (.region f233x7 false) (.cond (.t 44) (.seq (.region f233x8 false) .ret) .skip)) (.seq (.region f233x9 false) .ret))))))))⟩
def f234x0 : List AOper := [
  Op 2 (.alloc (.agg [.int .u32 0, .int .i64 0])),
  Mc 3 (.int .i64 0)]
def f234x1 : List AOper := [
  Mv 10 0,
  Ct 11 251 [10],
  Mv 9 11,
  Ex 12 9 0,
  Ex 13 9 1,
  Mv 4 12,
  Mv 5 13]
def f234x2 : List AOper := [
  Mv 14 5,
  Bc 15 .lss 14 0,
  Mv 16 15,
  Gf 16 (Mv 17 5),
  Gf 16 (Mv 18 0),
  Gf 16 (Ln 19 1 18),
  Gf 16 (Bi 20 .geq 17 19),
  Po 21 16 20,
  Mv 22 21,
  Gf 22 (Mv 23 0),
  Gf 22 (Mv 24 5),
  Gf 22 (Op 25 (.istr (.t 23) (.t 24))),
  Gf 22 (Op 26 (.bin .neq (.t 25) (.c (.int .u8 47)))),
  Po 27 22 26]
def f234x3 : List AOper := [
  Op 28 (.build [.int .u32 0, .int .i64 0] [] []),
  St 2 2 28,
  Mc 3 (.int .i64 2)]
def f234x4 : List AOper := [
  Mv 30 0,
  Mv 31 5,
  Bc 32 .add 31 1,
  Ca 33 253 [(.t 30), (.t 32), (.c (.int .i64 32))],
  Mv 29 33,
  Ex 34 29 0,
  Ex 35 29 1,
  Mv 6 34,
  Mv 7 35]
def f234x5 : List AOper := [
  Mv 36 7,
  Mv 37 0,
  Ln 38 1 37,
  Bi 39 .neq 36 38]
def f234x6 : List AOper := [
  Op 40 (.build [.int .u32 0, .int .i64 0] [] []),
  St 2 2 40,
  Mc 3 (.int .i64 2)]
def f234x7 : List AOper := [
  Mv 41 4,
  Mv 42 6,
  Op 43 (.build [.int .u32 0, .int .i64 0] [(0, 1), (1, 1)] [(.t 41), (.t 42)]),
  Op 8 (.alloc (.agg [.int .u32 0, .int .i64 0])),
  St 2 8 43]
def f234x8 : List AOper := [
  Ls 44 2 8,
  Ct 45 179 [44],
  Un 46 .not 45]
def f234x9 : List AOper := [
  Op 47 (.build [.int .u32 0, .int .i64 0] [] []),
  St 2 2 47,
  Mc 3 (.int .i64 1)]
def f234x10 : List AOper := [
  Ls 48 2 8,
  St 2 2 48,
  Mc 3 (.int .i64 0)]
def f234 : AFunc := ⟨49, 1, false, [.cell 2 (some 2), .t 3], (.seq (.region f234x0 false) (.seq (.region f234x1 false) (.seq (.seq (.region f234x2 false) (.cond (.t 27) (.seq (.region f234x3 false) .ret) .skip)) (.seq (.region f234x4 false) (.seq (.seq (.region f234x5 false) (.cond (.t 39) (.seq (.region f234x6 false) .ret) .skip)) (.seq (.region f234x7 false) (.seq (.seq (.region f234x8 false) (.cond (.t 46) (.seq (.region f234x9 false) .ret) .skip)) (.seq (.region f234x10 false) .ret))))))))⟩
def f178x0 : List AOper := [
  Op 1 (.box (.t 0)),
  Mc 2 (.bool false)]
def f178x1 : List AOper := [
  Fa 3 1 1,
  Ld 4 3,
  Bc 5 .geq 4 0,
  Mv 6 5,
  Gt 6 (Fa 7 1 1),
  Af [1] (Gt 6 (Ld 8 7)),
  Gt 6 (Bc 9 .leq 8 32),
  Pa 10 6 9,
  Mv 11 10,
  Gt 11 (Fa 12 0 1),
  Af [5, 1] (Gt 11 (Ld 13 12)),
  Gt 11 (Fa 14 1 1),
  Af [5, 1] (Gt 11 (Ld 15 14)),
  Af [10, 12, 5, 1] (Gt 11 (Ct 16 181 [13, 15])),
  Gt 11 (Fa 17 0 1),
  Af [5, 1] (Gt 11 (Ld 18 17)),
  Gt 11 (Bi 19 .eql 16 18),
  Pa 20 11 19,
  Mv 2 20]
def f178 : AFunc := ⟨21, 1, false, [.t 2], (.seq (.region f178x0 false) (.seq (.region f178x1 true) .ret))⟩
def f235x0 : List AOper := [
  Op 2 (.box (.t 0)),
  Mc 4 (.bool false)]
def f235x1 : List AOper := [
  Ls 5 2 2,
  Af [0] (Ct 6 178 [5]),
  Mv 7 6,
  Gt 7 (Mv 8 1),
  Gt 7 (Fa 9 1 2),
  Af [1, 0] (Gt 7 (Ld 10 9)),
  Af [5, 1, 0] (Gt 7 (Ct 11 245 [8, 10])),
  Af [1, 0] (Gt 7 (Ls 12 2 2)),
  Gt 7 (Op 13 (.eqs [.int, .int] false (.t 11) (.t 12))),
  Pa 14 7 13,
  Mv 4 14]
def f235 : AFunc := ⟨15, 2, false, [.t 4], (.seq (.region f235x0 false) (.seq (.region f235x1 true) .ret))⟩
def f236x0 : List AOper := [
  Op 4 (.alloc (.agg [.int .u32 0, .int .i64 0])),
  Mc 5 (.int .i64 0)]
def f236x1 : List AOper := [
  Mv 6 1,
  Bc 7 .lss 6 0,
  Mv 8 7,
  Gf 8 (Mv 9 1),
  Gf 8 (Bc 10 .gtr 9 32),
  Po 11 8 10]
def f236x2 : List AOper := [
  Op 12 (.build [.int .u32 0, .int .i64 0] [] []),
  St 2 4 12,
  Mc 5 (.int .i64 5)]
def f236x3 : List AOper := [
  Mv 13 0,
  Mv 14 1,
  Ct 15 245 [13, 14],
  St 2 4 15,
  Mc 5 (.int .i64 0)]
def f236 : AFunc := ⟨16, 2, false, [.cell 4 (some 2), .t 5], (.seq (.region f236x0 false) (.seq (.seq (.region f236x1 false) (.cond (.t 11) (.seq (.region f236x2 false) .ret) .skip)) (.seq (.region f236x3 false) .ret)))⟩
def f237x0 : List AOper := [
  Op 2 (.box (.t 0)),
  Op 3 (.box (.t 1)),
  Mc 4 (.bool false)]
def f237x1 : List AOper := [
  Ls 5 2 3,
  Ct 6 178 [5],
  Mv 7 6,
  Gt 7 (Fa 8 1 2),
  Gt 7 (Ld 9 8),
  Gt 7 (Fa 10 1 3),
  Gt 7 (Ld 11 10),
  Gt 7 (Bi 12 .leq 9 11),
  Pa 13 7 12,
  Mv 14 13,
  Gt 14 (Ls 15 2 2),
  Gt 14 (Fa 16 0 3),
  Gt 14 (Ld 17 16),
  Gt 14 (Ct 18 235 [15, 17]),
  Pa 19 14 18,
  Mv 4 19]
def f237 : AFunc := ⟨20, 2, false, [.t 4], (.seq (.region f237x0 false) (.seq (.region f237x1 false) .ret))⟩
def f238x0 : List AOper := [
  Op 4 (.alloc (.agg [.int .u32 0, .int .i64 0]))]
def f238x1 : List AOper := [
  Mv 5 0,
  Mv 6 1,
  Ct 7 182 [5, 6],
  Mv 8 1,
  Op 9 (.build [.int .u32 0, .int .i64 0] [(0, 1), (1, 1)] [(.t 7), (.t 8)]),
  St 2 4 9]
def f238 : AFunc := ⟨10, 2, false, [.cell 4 (some 2)], (.seq (.region f238x0 false) (.seq (.region f238x1 false) .ret))⟩
def f239x0 : List AOper := [
  Op 2 (.box (.t 0)),
  Op 3 (.box (.t 1)),
  Mc 4 (.bool false)]
def f239x1 : List AOper := [
  Ls 5 2 3,
  Ct 6 179 [5],
  Mv 7 6,
  Gt 7 (Ls 8 2 2),
  Gt 7 (Fa 9 0 3),
  Gt 7 (Ld 10 9),
  Gt 7 (Ct 11 240 [8, 10]),
  Pa 12 7 11,
  Mv 13 12,
  Gt 13 (Fa 14 1 2),
  Gt 13 (Ld 15 14),
  Gt 13 (Fa 16 1 3),
  Gt 13 (Ld 17 16),
  Gt 13 (Bi 18 .leq 15 17),
  Pa 19 13 18,
  Mv 4 19]
def f239 : AFunc := ⟨20, 2, false, [.t 4], (.seq (.region f239x0 false) (.seq (.region f239x1 false) .ret))⟩
def f240x0 : List AOper := [
  Op 2 (.box (.t 0)),
  Mc 4 (.bool false)]
def f240x1 : List AOper := [
  Ls 5 2 2,
  Af [0] (Ct 6 179 [5]),
  Mv 7 6,
  Gt 7 (Mv 8 1),
  Gt 7 (Fa 9 1 2),
  Af [1, 0] (Gt 7 (Ld 10 9)),
  Af [5, 1, 0] (Gt 7 (Ct 11 238 [8, 10])),
  Af [1, 0] (Gt 7 (Ls 12 2 2)),
  Gt 7 (Op 13 (.eqs [.int, .int] false (.t 11) (.t 12))),
  Pa 14 7 13,
  Mv 4 14]
def f240 : AFunc := ⟨15, 2, false, [.t 4], (.seq (.region f240x0 false) (.seq (.region f240x1 true) .ret))⟩
def f241x0 : List AOper := [
  Op 2 (.box (.t 0)),
  Op 3 (.box (.t 1)),
  Mc 4 (.bool false)]
def f241x1 : List AOper := [
  Ls 5 2 2,
  Ls 6 2 3,
  Ct 7 237 [5, 6],
  Mv 8 7,
  Gf 8 (Ls 9 2 3),
  Gf 8 (Ls 10 2 2),
  Gf 8 (Ct 11 237 [9, 10]),
  Po 12 8 11,
  Mv 4 12]
def f241 : AFunc := ⟨13, 2, false, [.t 4], (.seq (.region f241x0 false) (.seq (.region f241x1 false) .ret))⟩
def f172x0 : List AOper := [
  Op 2 (.box (.t 0)),
  Op 3 (.box (.t 1)),
  Mc 4 (.int .i64 0)]
def f172x1 : List AOper := [
  Fa 6 0 2,
  Ld 7 6,
  Fa 8 0 3,
  Ld 9 8,
  Bi 10 .lss 7 9,
  Mv 11 10,
  Gf 11 (Fa 12 0 2),
  Gf 11 (Ld 13 12),
  Gf 11 (Fa 14 0 3),
  Gf 11 (Ld 15 14),
  Gf 11 (Bi 16 .eql 13 15),
  Gf 11 (Mv 17 16),
  Gt 17 (Fa 18 1 2),
  Gt 17 (Ld 19 18),
  Gt 17 (Fa 20 1 3),
  Gt 17 (Ld 21 20),
  Gt 17 (Bi 22 .lss 19 21),
  Gf 11 (Pa 23 17 22),
  Po 24 11 23,
  Mv 5 24]
def f172x2 : List AOper := [
  Mc 4 (.int .i64 (-1))]
def f172x3 : List AOper := [
  Ls 26 2 2,
  Ls 27 2 3,
  Op 28 (.eqs [.int, .int] false (.t 26) (.t 27)),
  Mv 25 28]
def f172x4 : List AOper := [
  Mc 4 (.int .i64 0)]
def f172x5 : List AOper := [
  Mc 4 (.int .i64 1)]
def f172 : AFunc := ⟨29, 2, false, [.t 4], (.seq (.region f172x0 false) (.seq (.block 0 (.seq (.region f172x1 false) (.cond (.t 5) (.seq (.region f172x2 false) .ret) (.seq (.region f172x3 false) (.cond (.t 25) (.seq (.region f172x4 false) .ret) .skip))))) (.seq (.region f172x5 false) .ret)))⟩
def f180x0 : List AOper := [
  Op 2 (.box (.t 0)),
  Op 3 (.box (.t 1)),
  Mc 4 (.int .i64 0)]
def f180x1 : List AOper := [
  Fa 5 0 2,
  Ld 6 5,
  Fa 7 0 3,
  Ld 8 7,
  Bi 9 .neq 6 8]
def f180x2 : List AOper := [
  Fa 10 0 2,
  Ld 11 10,
  Fa 12 0 3,
  Ld 13 12,
  Bi 14 .lss 11 13]
def f180x3 : List AOper := [
  Mc 4 (.int .i64 (-1))]
def f180x4 : List AOper := [
  Mc 4 (.int .i64 1)]
def f180x5 : List AOper := [
  Fa 15 1 2,
  Ld 16 15,
  Fa 17 1 3,
  Ld 18 17,
  Bi 19 .lss 16 18]
def f180x6 : List AOper := [
  Mc 4 (.int .i64 (-1))]
def f180x7 : List AOper := [
  Fa 20 1 2,
  Ld 21 20,
  Fa 22 1 3,
  Ld 23 22,
  Bi 24 .gtr 21 23]
def f180x8 : List AOper := [
  Mc 4 (.int .i64 1)]
def f180x9 : List AOper := [
  Mc 4 (.int .i64 0)]
def f180 : AFunc := ⟨25, 2, false, [.t 4], (.seq (.region f180x0 false) (.seq (.seq (.region f180x1 false) (.cond (.t 9) (.seq (.seq (.region f180x2 false) (.cond (.t 14) (.seq (.region f180x3 false) .ret) .skip)) (.seq (.region f180x4 false) .ret)) .skip)) (.seq (.seq (.region f180x5 false) (.cond (.t 19) (.seq (.region f180x6 false) .ret) .skip)) (.seq (.seq (.region f180x7 false) (.cond (.t 24) (.seq (.region f180x8 false) .ret) .skip)) (.seq (.region f180x9 false) .ret)))))⟩
def f139x0 : List AOper := [
  Mc 4 (.bool false)]
def f139x1 : List AOper := [
  Mv 6 0,
  Ln 7 0 6,
  Mv 8 1,
  Ln 9 0 8,
  Bi 10 .neq 7 9]
def f139x2 : List AOper := [
  Mc 4 (.bool false)]
def f139x3 : List AOper := [
  Mv 11 0,
  Ln 12 0 11,
  Mc 13 (.int .i64 0)]
def f139x4 : List AOper := [
  Bi 14 .lss 13 12]
def f139x5 : List AOper := [
  Mv 15 13,
  Mv 5 15]
def f139x6 : List AOper := [
  Mv 16 0,
  Mv 17 5,
  Ia 18 2 16 17,
  Af [2] (Ls 19 2 18),
  Mv 20 1,
  Mv 21 5,
  Ia 22 2 20 21,
  Af [6] (Ls 23 2 22),
  Op 24 (.eqs [.int, .int] true (.t 19) (.t 23))]
def f139x7 : List AOper := [
  Mc 4 (.bool false)]
def f139x8 : List AOper := [
  Bc 25 .add 13 1,
  Mv 13 25]
def f139x9L : ACode := (.seq (.region f139x4 false) (.seq (.cond (.t 14) .skip (.exit 0)) (.seq (.block 1 (.seq (.region f139x5 false) (.seq (.region f139x6 true) (.cond (.t 24) (.seq (.region f139x7 false) .ret) .skip)))) (.region f139x8 false))))
def f139x10 : List AOper := [
  Mc 4 (.bool true)]
def f139 : AFunc := ⟨26, 2, false, [.t 4], (.seq (.region f139x0 false) (.seq (.seq (.region f139x1 false) (.cond (.t 10) (.seq (.region f139x2 false) .ret) .skip)) (.seq (.seq (.region f139x3 false) (.block 0 (.loop f139x9L))) (.seq (.region f139x10 false) .ret))))⟩
def f242x0 : List AOper := [
  Mc 2 (.con (.slice none 0 0))]
def f242x1 : List AOper := [
  Mv 4 0,
  Ct 5 254 [4],
  Mv 3 5]
def f242x2 : List AOper := [
  Mv 6 3,
  Ca 7 255 [(.t 6), (.c (.fn 172 []))]]
def f242x3 : List AOper := [
  Mv 8 3,
  Ct 9 256 [8],
  Mv 2 9]
def f242 : AFunc := ⟨10, 1, false, [.t 2], (.seq (.region f242x0 false) (.seq (.region f242x1 false) (.seq (.region f242x2 false) (.seq (.region f242x3 false) .ret))))⟩
def f243x0 : List AOper := [
  Mc 2 (.con (.slice none 0 0))]
def f243x1 : List AOper := [
  Mc 3 (.con (.slice none 0 0))]
def f243x2 : List AOper := [
  Mv 5 0,
  Ln 6 0 5,
  Mc 7 (.int .i64 0)]
def f243x3 : List AOper := [
  Bi 8 .lss 7 6]
def f243x4 : List AOper := [
  Mv 9 7,
  Mv 4 9]
def f243x5 : List AOper := [
  Mv 10 3,
  Mv 11 0,
  Mv 12 4,
  Ia 13 2 11 12,
  Ls 14 2 13,
  Ct 15 257 [10, 14],
  Mv 3 15]
def f243x6 : List AOper := [
  Bc 16 .add 7 1,
  Mv 7 16]
def f243x7L : ACode := (.seq (.region f243x3 false) (.seq (.cond (.t 8) .skip (.exit 0)) (.seq (.block 1 (.seq (.region f243x4 false) (.region f243x5 false))) (.region f243x6 false))))
def f243x8 : List AOper := [
  Mv 17 3,
  Mv 2 17]
def f243 : AFunc := ⟨18, 1, false, [.t 2], (.seq (.region f243x0 false) (.seq (.region f243x1 false) (.seq (.seq (.region f243x2 false) (.block 0 (.loop f243x7L))) (.seq (.region f243x8 false) .ret))))⟩
def f182x0 : List AOper := [
  Mc 4 (.int .u32 0)]
def f182x1 : List AOper := [
  Mc 5 (.int .u32 0)]
def f182x2 : List AOper := [
  Mv 7 1,
  Ca 8 184 [(.t 7), (.c (.int .i64 32))],
  Mc 9 (.int .i64 0)]
def f182x3 : List AOper := [
  Bi 10 .lss 9 8]
def f182x4 : List AOper := [
  Mv 11 9,
  Mv 6 11]
def f182x5 : List AOper := [
  Mv 12 5,
  Mv 13 0,
  Mv 14 6,
  Ct 15 185 [13, 14],
  Cv 16 .u32 15,
  Mv 17 6,
  Op 18 (.bin .sub (.c (.int .i64 31)) (.t 17)),
  Cv 19 .u64 18,
  Bi 20 .shl 16 19,
  Bi 21 .or 12 20,
  Mv 5 21]
def f182x6 : List AOper := [
  Bc 22 .add 9 1,
  Mv 9 22]
def f182x7L : ACode := (.seq (.region f182x3 false) (.seq (.cond (.t 10) .skip (.exit 0)) (.seq (.block 1 (.seq (.region f182x4 false) (.region f182x5 false))) (.region f182x6 false))))
def f182x8 : List AOper := [
  Mv 23 5,
  Mv 4 23]
def f182 : AFunc := ⟨24, 2, false, [.t 4], (.seq (.region f182x0 false) (.seq (.region f182x1 false) (.seq (.seq (.region f182x2 false) (.block 0 (.loop f182x7L))) (.seq (.region f182x8 false) .ret))))⟩
def f244x0 : List AOper := [
  Mc 2 (.int .u32 0)]
def f244x1 : List AOper := [
  Mc 3 (.int .u32 0)]
def f244x2 : List AOper := [
  Mv 5 0,
  Ca 6 184 [(.t 5), (.c (.int .i64 32))],
  Mc 7 (.int .i64 0)]
def f244x3 : List AOper := [
  Bi 8 .lss 7 6]
def f244x4 : List AOper := [
  Mv 9 7,
  Mv 4 9]
def f244x5 : List AOper := [
  Mv 10 3,
  Mv 11 4,
  Op 12 (.bin .sub (.c (.int .i64 31)) (.t 11)),
  Cv 13 .u64 12,
  Op 14 (.bin .shl (.c (.int .u32 1)) (.t 13)),
  Bi 15 .or 10 14,
  Mv 3 15]
def f244x6 : List AOper := [
  Bc 16 .add 7 1,
  Mv 7 16]
def f244x7L : ACode := (.seq (.region f244x3 false) (.seq (.cond (.t 8) .skip (.exit 0)) (.seq (.block 1 (.seq (.region f244x4 false) (.region f244x5 false))) (.region f244x6 false))))
def f244x8 : List AOper := [
  Mv 17 3,
  Mv 2 17]
def f244 : AFunc := ⟨18, 1, false, [.t 2], (.seq (.region f244x0 false) (.seq (.region f244x1 false) (.seq (.seq (.region f244x2 false) (.block 0 (.loop f244x7L))) (.seq (.region f244x8 false) .ret))))⟩
def f245x0 : List AOper := [
  Op 4 (.alloc (.agg [.int .u32 0, .int .i64 0]))]
def f245x1 : List AOper := [
  Mv 5 0,
  Mv 6 1,
  Ct 7 181 [5, 6],
  Mv 8 1,
  Op 9 (.build [.int .u32 0, .int .i64 0] [(0, 1), (1, 1)] [(.t 7), (.t 8)]),
  St 2 4 9]
def f245 : AFunc := ⟨10, 2, false, [.cell 4 (some 2)], (.seq (.region f245x0 false) (.seq (.region f245x1 false) .ret))⟩
def f183x0 : List AOper := [
  Mc 2 (.int .u32 0)]
def f183x1 : List AOper := [
  Mv 3 0,
  Ca 4 186 [(.t 3), (.c (.int .i64 32))],
  Op 5 (.bin .sub (.c (.int .i64 32)) (.t 4)),
  Op 6 (.bin .shl (.c (.int .u32 4294967295)) (.t 5)),
  Mv 2 6]
def f183 : AFunc := ⟨7, 1, false, [.t 2], (.seq (.region f183x0 false) (.seq (.region f183x1 false) .ret))⟩
def f246x0 : List AOper := [
  Mc 2 (.str [])]
def f246x1 : List AOper := [
  Mv 3 0,
  Ct 4 258 [3],
  Mv 2 4]
def f246 : AFunc := ⟨5, 1, false, [.t 2], (.seq (.region f246x0 false) (.seq (.region f246x1 false) .ret))⟩
def f248x0 : List AOper := [
  Mc 2 (.str [])]
def f248x1 : List AOper := [
  Mc 3 (.str [48, 49, 50, 51, 52, 53, 54, 55, 56, 57])]
def f248x2 : List AOper := [
  Mv 5 3,
  Mv 6 0,
  Bc 7 .rem 6 10,
  Mv 8 0,
  Bc 9 .rem 8 10,
  Bc 10 .add 9 1,
  Op 11 (.slstr (.t 5) (some (.t 7)) (some (.t 10))),
  Mv 4 11]
def f248x3 : List AOper := [
  Mv 12 0,
  Bc 13 .geq 12 10]
def f248x4 : List AOper := [
  Mv 14 0,
  Bc 15 .quo 14 10,
  Mv 0 15]
def f248x5 : List AOper := [
  Mv 16 3,
  Mv 17 0,
  Bc 18 .rem 17 10,
  Mv 19 0,
  Bc 20 .rem 19 10,
  Bc 21 .add 20 1,
  Op 22 (.slstr (.t 16) (some (.t 18)) (some (.t 21))),
  Mv 23 4,
  Bi 24 .add 22 23,
  Mv 4 24]
def f248x6L : ACode := (.seq (.seq (.region f248x3 false) (.cond (.t 13) .skip (.exit 0))) (.block 1 (.seq (.region f248x4 false) (.region f248x5 false))))
def f248x7 : List AOper := [
  Mv 25 4,
  Mv 2 25]
def f248 : AFunc := ⟨26, 1, false, [.t 2], (.seq (.region f248x0 false) (.seq (.region f248x1 false) (.seq (.region f248x2 false) (.seq (.block 0 (.loop f248x6L)) (.seq (.region f248x7 false) .ret)))))⟩
def f250x0 : List AOper := [
  Mc 4 (.int .i64 0),
  Mc 5 (.bool false)]
def f250x1 : List AOper := [
  Mv 9 0,
  Ct 10 263 [9],
  Mv 8 10,
  Ex 11 8 0,
  Ex 12 8 1,
  Mv 6 11,
  Mv 7 12]
def f250x2 : List AOper := [
  Mv 13 6,
  Mv 14 7,
  Op 15 (.eqn .iface false (.t 14) (.c (.con (.nilIface)))),
  Mv 16 15,
  Gt 16 (Mv 17 6),
  Gt 16 (Bc 18 .geq 17 0),
  Pa 19 16 18,
  Mv 20 19,
  Gt 20 (Mv 21 6),
  Gt 20 (Mv 22 1),
  Gt 20 (Bi 23 .leq 21 22),
  Pa 24 20 23,
  Mv 25 24,
  Gt 25 (Mv 26 6),
  Gt 25 (Ct 27 246 [26]),
  Gt 25 (Mv 28 0),
  Gt 25 (Bi 29 .eql 27 28),
  Pa 30 25 29,
  Mv 4 13,
  Mv 5 30]
def f250 : AFunc := ⟨31, 2, false, [.t 4, .t 5], (.seq (.region f250x0 false) (.seq (.region f250x1 false) (.seq (.region f250x2 false) .ret)))⟩
def f251x0 : List AOper := [
  Mc 2 (.int .u32 0),
  Mc 3 (.int .i64 0)]
def f251x1 : List AOper := [
  Mc 4 (.int .u32 0)]
def f251x2 : List AOper := [
  Mc 5 (.int .i64 0)]
def f251x3 : List AOper := [
  Mc 9 (.int .i64 0)]
def f251x4 : List AOper := [
  Bc 10 .lss 9 4]
def f251x5 : List AOper := [
  Mv 11 9,
  Mv 6 11]
def f251x6 : List AOper := [
  Mv 12 6,
  Bc 13 .gtr 12 0]
def f251x7 : List AOper := [
  Mv 14 5,
  Mv 15 0,
  Ln 16 1 15,
  Bi 17 .geq 14 16,
  Mv 18 17,
  Gf 18 (Mv 19 0),
  Gf 18 (Mv 20 5),
  Gf 18 (Op 21 (.istr (.t 19) (.t 20))),
  Gf 18 (Op 22 (.bin .neq (.t 21) (.c (.int .u8 46)))),
  Po 23 18 22]
def f251x8 : List AOper := [
  Mc 2 (.int .u32 0),
  Mc 3 (.int .i64 (-1))]
def f251x9 : List AOper := [
  Mv 24 5,
  Bc 25 .add 24 1,
  Mv 5 25]
def f251x10 : List AOper := [
  Mv 27 0,
  Mv 28 5,
  Ca 29 253 [(.t 27), (.t 28), (.c (.int .i64 255))],
  Mv 26 29,
  Ex 30 26 0,
  Ex 31 26 1,
  Mv 7 30,
  Mv 8 31]
def f251x11 : List AOper := [
  Mv 32 8,
  Bc 33 .lss 32 0]
def f251x12 : List AOper := [
  Mc 2 (.int .u32 0),
  Mc 3 (.int .i64 (-1))]
def f251x13 : List AOper := [
  Mv 34 4,
  Op 35 (.bin .mul (.t 34) (.c (.int .u32 256))),
  Mv 36 7,
  Cv 37 .u32 36,
  Bi 38 .add 35 37,
  Mv 4 38]
def f251x14 : List AOper := [
  Mv 39 8,
  Mv 5 39]
def f251x15 : List AOper := [
  Bc 40 .add 9 1,
  Mv 9 40]
def f251x16L : ACode := (.seq (.region f251x4 false) (.seq (.cond (.t 10) .skip (.exit 0)) (.seq (.block 1 (.seq (.region f251x5 false) (.seq (.seq (.region f251x6 false) (.cond (.t 13) (.seq (.seq (.region f251x7 false) (.cond (.t 23) (.seq (.region f251x8 false) .ret) .skip)) (.region f251x9 false)) .skip)) (.seq (.region f251x10 false) (.seq (.seq (.region f251x11 false) (.cond (.t 33) (.seq (.region f251x12 false) .ret) .skip)) (.seq (.region f251x13 false) (.region f251x14 false))))))) (.region f251x15 false))))
def f251x17 : List AOper := [
  Mv 41 4,
  Mv 42 5,
  Mv 2 41,
  Mv 3 42]
def f251 : AFunc := ⟨43, 1, false, [.t 2, .t 3], (.seq (.region f251x0 false) (.seq (.region f251x1 false) (.seq (.region f251x2 false) (.seq (.seq (.region f251x3 false) (.block 0 (.loop f251x16L))) (.seq (.region f251x17 false) .ret)))))⟩
def f253x0 : List AOper := [
  Mc 6 (.int .i64 0),
  Mc 7 (.int .i64 0)]
def f253x1 : List AOper := [
  Mc 8 (.int .i64 0)]
def f253x2 : List AOper := [
  Mv 10 1,
  Mv 9 10]
def f253x3 : List AOper := [
  Mv 11 9,
  Mv 12 0,
  Ln 13 1 12,
  Bi 14 .lss 11 13,
  Mv 15 14,
  Gt 15 (Mv 16 0),
  Gt 15 (Mv 17 9),
  Gt 15 (Op 18 (.istr (.t 16) (.t 17))),
  Gt 15 (Op 19 (.bin .geq (.t 18) (.c (.int .u8 48)))),
  Pa 20 15 19,
  Mv 21 20,
  Gt 21 (Mv 22 0),
  Gt 21 (Mv 23 9),
  Gt 21 (Op 24 (.istr (.t 22) (.t 23))),
  Gt 21 (Op 25 (.bin .leq (.t 24) (.c (.int .u8 57)))),
  Pa 26 21 25,
  Mv 27 26,
  Gt 27 (Mv 28 9),
  Gt 27 (Mv 29 1),
  Gt 27 (Bc 30 .add 29 4),
  Gt 27 (Bi 31 .lss 28 30),
  Pa 32 27 31]
def f253x4 : List AOper := [
  Mv 33 8,
  Bc 34 .mul 33 10,
  Mv 35 0,
  Mv 36 9,
  Op 37 (.istr (.t 35) (.t 36)),
  Op 38 (.bin .sub (.t 37) (.c (.int .u8 48))),
  Cv 39 .i64 38,
  Bi 40 .add 34 39,
  Mv 8 40]
def f253x5 : List AOper := [
  Mv 41 9,
  Bc 42 .add 41 1,
  Mv 9 42]
def f253x6L : ACode := (.seq (.seq (.region f253x3 false) (.cond (.t 32) .skip (.exit 0))) (.block 1 (.seq (.region f253x4 false) (.region f253x5 false))))
def f253x7 : List AOper := [
  Mv 43 9,
  Mv 44 1,
  Bi 45 .eql 43 44,
  Mv 46 45,
  Gf 46 (Mv 47 9),
  Gf 46 (Mv 48 1),
  Gf 46 (Bc 49 .add 48 4),
  Gf 46 (Bi 50 .eql 47 49),
  Po 51 46 50,
  Mv 52 51,
  Gf 52 (Mv 53 8),
  Gf 52 (Mv 54 2),
  Gf 52 (Bi 55 .gtr 53 54),
  Po 56 52 55,
  Mv 57 56,
  Gf 57 (Mv 58 9),
  Gf 57 (Mv 59 1),
  Gf 57 (Bc 60 .add 59 1),
  Gf 57 (Bi 61 .gtr 58 60),
  Gf 57 (Mv 62 61),
  Gt 62 (Mv 63 0),
  Gt 62 (Mv 64 1),
  Gt 62 (Op 65 (.istr (.t 63) (.t 64))),
  Gt 62 (Op 66 (.bin .eql (.t 65) (.c (.int .u8 48)))),
  Gf 57 (Pa 67 62 66),
  Po 68 57 67]
def f253x8 : List AOper := [
  Mc 6 (.int .i64 0),
  Mc 7 (.int .i64 (-1))]
def f253x9 : List AOper := [
  Mv 69 8,
  Mv 70 9,
  Mv 6 69,
  Mv 7 70]
def f253 : AFunc := ⟨71, 3, false, [.t 6, .t 7], (.seq (.region f253x0 false) (.seq (.region f253x1 false) (.seq (.region f253x2 false) (.seq (.block 0 (.loop f253x6L)) (.seq (.seq (.region f253x7 false) (.cond (.t 68) (.seq (.region f253x8 false) .ret) .skip)) (.seq (.region f253x9 false) .ret))))))⟩
def f181x0 : List AOper := [
  Mc 4 (.int .u32 0)]
def f181x1 : List AOper := [
  Mv 5 0,
  Mv 6 1,
  Ct 7 183 [6],
  Bi 8 .and 5 7,
  Mv 4 8]
def f181 : AFunc := ⟨9, 2, false, [.t 4], (.seq (.region f181x0 false) (.seq (.region f181x1 false) .ret))⟩
def f257x0 : List AOper := [
  Op 3 (.box (.t 1)),
  Mc 4 (.con (.slice none 0 0))]
def f257x1 : List AOper := [
  Mc 5 (.con (.slice none 0 0))]
def f257x2 : List AOper := [
  Mc 6 (.bool false)]
def f257x3 : List AOper := [
  Mv 9 0,
  Ln 10 0 9,
  Mc 11 (.int .i64 0)]
def f257x4 : List AOper := [
  Bi 12 .lss 11 10]
def f257x5 : List AOper := [
  Mv 13 11,
  Mv 7 13]
def f257x6 : List AOper := [
  Ls 14 2 3,
  Mv 15 0,
  Mv 16 7,
  Ia 17 2 15 16,
  Af [3] (Ls 18 2 17),
  Af [0, 4, 3] (Ct 19 180 [14, 18]),
  Mv 8 19]
def f257x7 : List AOper := [
  Mv 20 8,
  Bc 21 .leq 20 0,
  Mv 22 21,
  Gt 22 (Mv 23 6),
  Gt 22 (Un 24 .not 23),
  Pa 25 22 24]
def f257x8 : List AOper := [
  Mv 26 5,
  Ls 27 2 3,
  Op 28 (.bsl 2 [.int .u32 0, .int .i64 0] 1 [0] [(.t 27)]),
  Ap 29 2 16 26 28,
  Mv 5 29]
def f257x9 : List AOper := [
  Mc 6 (.bool true)]
def f257x10 : List AOper := [
  Mv 30 8,
  Bc 31 .neq 30 0]
def f257x11 : List AOper := [
  Mv 32 5,
  Mv 33 0,
  Mv 34 7,
  Ia 35 2 33 34,
  Ls 36 2 35,
  Op 37 (.bsl 2 [.int .u32 0, .int .i64 0] 1 [0] [(.t 36)]),
  Ap 38 2 16 32 37,
  Mv 5 38]
def f257x12 : List AOper := [
  Bc 39 .add 11 1,
  Mv 11 39]
def f257x13L : ACode := (.seq (.region f257x4 false) (.seq (.cond (.t 12) .skip (.exit 0)) (.seq (.block 1 (.seq (.region f257x5 false) (.seq (.region f257x6 true) (.seq (.seq (.region f257x7 false) (.cond (.t 25) (.seq (.region f257x8 false) (.region f257x9 false)) .skip)) (.seq (.region f257x10 false) (.cond (.t 31) (.region f257x11 false) .skip)))))) (.region f257x12 false))))
def f257x14 : List AOper := [
  Mv 40 6,
  Un 41 .not 40]
def f257x15 : List AOper := [
  Mv 42 5,
  Ls 43 2 3,
  Op 44 (.bsl 2 [.int .u32 0, .int .i64 0] 1 [0] [(.t 43)]),
  Ap 45 2 16 42 44,
  Mv 5 45]
def f257x16 : List AOper := [
  Mv 46 5,
  Mv 4 46]
def f257 : AFunc := ⟨47, 2, false, [.t 4], (.seq (.region f257x0 false) (.seq (.region f257x1 false) (.seq (.region f257x2 false) (.seq (.seq (.region f257x3 false) (.block 0 (.loop f257x13L))) (.seq (.seq (.region f257x14 false) (.cond (.t 41) (.region f257x15 false) .skip)) (.seq (.region f257x16 false) .ret))))))⟩
def f184x0 : List AOper := [
  Mc 4 (.int .i64 0)]
def f184x1 : List AOper := [
  Mv 5 0,
  Op 6 (.minmax true [(.t 5), (.c (.int .i64 0))]),
  Mv 7 1,
  Op 8 (.minmax false [(.t 6), (.t 7)]),
  Mv 4 8]
def f184 : AFunc := ⟨9, 2, false, [.t 4], (.seq (.region f184x0 false) (.seq (.region f184x1 false) .ret))⟩
def f185x0 : List AOper := [
  Mc 4 (.int .i64 0)]
def f185x1 : List AOper := [
  Mv 5 1,
  Bc 6 .lss 5 0,
  Mv 7 6,
  Gf 7 (Mv 8 1),
  Gf 7 (Bc 9 .gtr 8 31),
  Po 10 7 9]
def f185x2 : List AOper := [
  Mc 4 (.int .i64 0)]
def f185x3 : List AOper := [
  Mv 11 0,
  Mv 12 1,
  Op 13 (.bin .sub (.c (.int .i64 31)) (.t 12)),
  Cv 14 .u64 13,
  Bi 15 .shr 11 14,
  Op 16 (.bin .and (.t 15) (.c (.int .u32 1))),
  Cv 17 .i64 16,
  Mv 4 17]
def f185 : AFunc := ⟨18, 2, false, [.t 4], (.seq (.region f185x0 false) (.seq (.seq (.region f185x1 false) (.cond (.t 10) (.seq (.region f185x2 false) .ret) .skip)) (.seq (.region f185x3 false) .ret)))⟩
def f186x0 : List AOper := [
  Mc 4 (.int .i64 0)]
def f186x1 : List AOper := [
  Mv 5 0,
  Op 6 (.minmax true [(.t 5), (.c (.int .i64 0))]),
  Mv 7 1,
  Op 8 (.minmax false [(.t 6), (.t 7)]),
  Mv 4 8]
def f186 : AFunc := ⟨9, 2, false, [.t 4], (.seq (.region f186x0 false) (.seq (.region f186x1 false) .ret))⟩
def f260x0 : List AOper := [
  Mc 4 (.int .i64 0),
  Mc 5 (.con (.nilIface))]
def f260x1 : List AOper := [
  Mv 6 0,
  Ct 7 268 [6]]
def f260x2 : List AOper := [
  Mv 8 0,
  Mv 9 0,
  Nc 10 9,
  Fa 11 1 10,
  Ld 12 11,
  Mv 13 1,
  Ap 14 1 1 12 13,
  Nc 15 8,
  Fa 16 1 15,
  St 1 16 14]
def f260x3 : List AOper := [
  Mv 17 1,
  Ln 18 1 17,
  Mv 4 18,
  Mc 5 (.con (.nilIface))]
def f260 : AFunc := ⟨19, 2, false, [.t 4, .t 5], (.seq (.region f260x0 false) (.seq (.region f260x1 false) (.seq (.region f260x2 false) (.seq (.region f260x3 false) .ret))))⟩
def f266x0 : List AOper := [
  Mc 2 (.int .i64 0)]
def f266x1 : List AOper := [
  Mv 3 0,
  Cv 4 .u32 3,
  Ct 5 284 [4],
  Mv 2 5]
def f266x2 : List AOper := [
  Mv 6 0,
  Ct 7 285 [6],
  Mv 2 7]
def f266 : AFunc := ⟨8, 1, false, [.t 2], (.seq (.region f266x0 false) (.seq (.cond (.c (.bool false)) (.seq (.region f266x1 false) .ret) .skip) (.seq (.region f266x2 false) .ret)))⟩
def f276x0 : List AOper := [
  Mv 10 1,
  Bc 11 .add 10 1,
  Mv 8 11]
def f276x1 : List AOper := [
  Mv 12 8,
  Mv 13 2,
  Bi 14 .lss 12 13]
def f276x2 : List AOper := [
  Mv 17 8,
  Mv 9 17]
def f276x3 : List AOper := [
  Mv 18 9,
  Mv 19 1,
  Bi 20 .gtr 18 19,
  Mv 21 20,
  Gt 21 (Mv 22 3),
  Gt 21 (Mv 23 0),
  Gt 21 (Mv 24 9),
  Gt 21 (Ia 25 2 23 24),
  Af [7] (Gt 21 (Ls 26 2 25)),
  Gt 21 (Mv 27 0),
  Gt 21 (Mv 28 9),
  Gt 21 (Bc 29 .sub 28 1),
  Gt 21 (Ia 30 2 27 29),
  Af [12] (Gt 21 (Ls 31 2 30)),
  Af [8, 13, 7, 12] (Gt 21 (Op 32 (.call (.t 22) [(.t 26), (.t 31)]))),
  Gt 21 (Bc 33 .lss 32 0),
  Pa 34 21 33]
def f276x4 : List AOper := [
  Mv 37 0,
  Mv 38 9,
  Mv 39 0,
  Mv 40 9,
  Bc 41 .sub 40 1,
  Mv 42 0,
  Mv 43 9,
  Bc 44 .sub 43 1,
  Ia 45 2 42 44,
  Af [8] (Ls 46 2 45),
  Mv 47 0,
  Mv 48 9,
  Ia 49 2 47 48,
  Af [12] (Ls 50 2 49),
  Af [9, 13, 8, 12] (Ia 51 2 37 38),
  Af [14, 9, 13, 8, 12] (St 2 51 46),
  Af [15, 14, 9, 13, 8, 12] (Ia 52 2 39 41),
  Af [16, 15, 14, 9, 13, 8, 12] (St 2 52 50)]
def f276x5 : List AOper := [
  Mv 35 9,
  Bc 36 .sub 35 1,
  Mv 9 36]
def f276x6L : ACode := (.seq (.seq (.region f276x3 true) (.cond (.t 34) .skip (.exit 2))) (.seq (.block 3 (.region f276x4 true)) (.region f276x5 false)))
def f276x7 : List AOper := [
  Mv 15 8,
  Bc 16 .add 15 1,
  Mv 8 16]
def f276x8L : ACode := (.seq (.seq (.region f276x1 false) (.cond (.t 14) .skip (.exit 0))) (.seq (.block 1 (.seq (.region f276x2 false) (.block 2 (.loop f276x6L)))) (.region f276x7 false)))
def f276 : AFunc := ⟨53, 4, false, [], (.seq (.region f276x0 false) (.block 0 (.loop f276x8L)))⟩
def f277x0 : List AOper := [
  Mv 13 1,
  Mv 8 13]
def f277x1 : List AOper := [
  Mc 9 (.int .i64 0)]
def f277x2 : List AOper := [
  Mv 14 2,
  Mv 15 1,
  Bi 16 .sub 14 15,
  Mv 10 16]
def f277x3 : List AOper := [
  Mv 17 10,
  Bc 18 .sub 17 1,
  Bc 19 .quo 18 2,
  Mv 11 19]
def f277x4 : List AOper := [
  Mv 20 11,
  Bc 21 .geq 20 0]
def f277x5 : List AOper := [
  Mv 24 0,
  Mv 25 11,
  Mv 26 10,
  Mv 27 8,
  Mv 28 3,
  Ct 29 300 [24, 25, 26, 27, 28]]
def f277x6 : List AOper := [
  Mv 22 11,
  Bc 23 .sub 22 1,
  Mv 11 23]
def f277x7L : ACode := (.seq (.seq (.region f277x4 false) (.cond (.t 21) .skip (.exit 0))) (.seq (.block 1 (.region f277x5 false)) (.region f277x6 false)))
def f277x8 : List AOper := [
  Mv 30 10,
  Bc 31 .sub 30 1,
  Mv 12 31]
def f277x9 : List AOper := [
  Mv 32 12,
  Bc 33 .geq 32 0]
def f277x10 : List AOper := [
  Mv 36 0,
  Mv 37 8,
  Mv 38 0,
  Mv 39 8,
  Mv 40 12,
  Bi 41 .add 39 40,
  Mv 42 0,
  Mv 43 8,
  Mv 44 12,
  Bi 45 .add 43 44,
  Ia 46 2 42 45,
  Af [10] (Ls 47 2 46),
  Mv 48 0,
  Mv 49 8,
  Ia 50 2 48 49,
  Af [14] (Ls 51 2 50),
  Af [11, 15, 10, 14] (Ia 52 2 36 37),
  Af [16, 11, 15, 10, 14] (St 2 52 47),
  Af [17, 16, 11, 15, 10, 14] (Ia 53 2 38 41),
  Af [18, 17, 16, 11, 15, 10, 14] (St 2 53 51)]
def f277x11 : List AOper := [
  Mv 54 0,
  Mv 55 9,
  Mv 56 12,
  Mv 57 8,
  Mv 58 3,
  Ct 59 300 [54, 55, 56, 57, 58]]
def f277x12 : List AOper := [
  Mv 34 12,
  Bc 35 .sub 34 1,
  Mv 12 35]
def f277x13L : ACode := (.seq (.seq (.region f277x9 false) (.cond (.t 33) .skip (.exit 2))) (.seq (.block 3 (.seq (.region f277x10 true) (.region f277x11 false))) (.region f277x12 false)))
def f277 : AFunc := ⟨60, 4, false, [], (.seq (.region f277x0 false) (.seq (.region f277x1 false) (.seq (.region f277x2 false) (.seq (.seq (.region f277x3 false) (.block 0 (.loop f277x7L))) (.seq (.region f277x8 false) (.block 2 (.loop f277x13L)))))))⟩
def f279x0 : List AOper := [
  Mc 8 (.int .i64 0),
  Mc 9 (.int .i64 0)]
def f279x1 : List AOper := [
  Mv 15 2,
  Mv 16 1,
  Bi 17 .sub 15 16,
  Mv 10 17]
def f279x2 : List AOper := [
  Op 11 (.alloc (.int .i64 0))]
def f279x3 : List AOper := [
  Mv 18 1,
  Mv 19 10,
  Bc 20 .quo 19 4,
  Bc 21 .mul 20 1,
  Bi 22 .add 18 21,
  Mv 12 22]
def f279x4 : List AOper := [
  Mv 23 1,
  Mv 24 10,
  Bc 25 .quo 24 4,
  Bc 26 .mul 25 2,
  Bi 27 .add 23 26,
  Mv 13 27]
def f279x5 : List AOper := [
  Mv 28 1,
  Mv 29 10,
  Bc 30 .quo 29 4,
  Bc 31 .mul 30 3,
  Bi 32 .add 28 31,
  Mv 14 32]
def f279x6 : List AOper := [
  Mv 33 10,
  Bc 34 .geq 33 8]
def f279x7 : List AOper := [
  Mv 35 10,
  Bc 36 .geq 35 50]
def f279x8 : List AOper := [
  Mv 37 0,
  Mv 38 12,
  Mv 39 3,
  Ct 40 303 [37, 38, 11, 39],
  Mv 12 40]
def f279x9 : List AOper := [
  Mv 41 0,
  Mv 42 13,
  Mv 43 3,
  Ct 44 303 [41, 42, 11, 43],
  Mv 13 44]
def f279x10 : List AOper := [
  Mv 45 0,
  Mv 46 14,
  Mv 47 3,
  Ct 48 303 [45, 46, 11, 47],
  Mv 14 48]
def f279x11 : List AOper := [
  Mv 49 0,
  Mv 50 12,
  Mv 51 13,
  Mv 52 14,
  Mv 53 3,
  Ct 54 304 [49, 50, 51, 52, 11, 53],
  Mv 13 54]
def f279x12 : List AOper := [
  Ld 55 11]
def f279x13 : List AOper := [
  Bc 58 .eql 55 0,
  Mv 57 58]
def f279x14 : List AOper := [
  Mv 59 13,
  Mv 8 59,
  Mc 9 (.int .i64 1)]
def f279x15 : List AOper := [
  Bc 61 .eql 55 12,
  Mv 60 61]
def f279x16 : List AOper := [
  Mv 62 13,
  Mv 8 62,
  Mc 9 (.int .i64 2)]
def f279x17 : List AOper := [
  Mv 56 13,
  Mv 8 56,
  Mc 9 (.int .i64 0)]
def f279 : AFunc := ⟨63, 4, false, [.t 8, .t 9], (.seq (.region f279x0 false) (.seq (.region f279x1 false) (.seq (.region f279x2 false) (.seq (.region f279x3 false) (.seq (.region f279x4 false) (.seq (.region f279x5 false) (.seq (.seq (.region f279x6 false) (.cond (.t 34) (.seq (.seq (.region f279x7 false) (.cond (.t 36) (.seq (.region f279x8 false) (.seq (.region f279x9 false) (.region f279x10 false))) .skip)) (.region f279x11 false)) .skip)) (.seq (.region f279x12 false) (.block 0 (.seq (.region f279x13 false) (.cond (.t 57) (.seq (.region f279x14 false) .ret) (.seq (.region f279x15 false) (.cond (.t 60) (.seq (.region f279x16 false) .ret) (.seq (.region f279x17 false) .ret))))))))))))))⟩
def f280x0 : List AOper := [
  Mv 10 1,
  Mv 8 10]
def f280x1 : List AOper := [
  Mv 11 2,
  Bc 12 .sub 11 1,
  Mv 9 12]
def f280x2 : List AOper := [
  Mv 13 8,
  Mv 14 9,
  Bi 15 .lss 13 14]
def f280x3 : List AOper := [
  Mv 16 0,
  Mv 17 8,
  Mv 18 0,
  Mv 19 9,
  Mv 20 0,
  Mv 21 9,
  Ia 22 2 20 21,
  Af [6] (Ls 23 2 22),
  Mv 24 0,
  Mv 25 8,
  Ia 26 2 24 25,
  Af [10] (Ls 27 2 26),
  Af [7, 11, 6, 10] (Ia 28 2 16 17),
  Af [12, 7, 11, 6, 10] (St 2 28 23),
  Af [13, 12, 7, 11, 6, 10] (Ia 29 2 18 19),
  Af [14, 13, 12, 7, 11, 6, 10] (St 2 29 27)]
def f280x4 : List AOper := [
  Mv 30 8,
  Bc 31 .add 30 1,
  Mv 8 31]
def f280x5 : List AOper := [
  Mv 32 9,
  Bc 33 .sub 32 1,
  Mv 9 33]
def f280x6L : ACode := (.seq (.seq (.region f280x2 false) (.cond (.t 15) .skip (.exit 0))) (.block 1 (.seq (.region f280x3 true) (.seq (.region f280x4 false) (.region f280x5 false)))))
def f280 : AFunc := ⟨34, 4, false, [], (.seq (.region f280x0 false) (.seq (.region f280x1 false) (.block 0 (.loop f280x6L))))⟩
def f281x0 : List AOper := [
  Mc 8 (.bool false)]
def f281x1 : List AOper := [
  Mv 13 1,
  Bc 14 .add 13 1,
  Mv 9 14]
def f281x2 : List AOper := [
  Mc 10 (.int .i64 0)]
def f281x3 : List AOper := [
  Mv 15 10,
  Bc 16 .lss 15 5]
def f281x4 : List AOper := [
  Mv 19 9,
  Mv 20 2,
  Bi 21 .lss 19 20,
  Mv 22 21,
  Gt 22 (Mv 23 3),
  Gt 22 (Mv 24 0),
  Gt 22 (Mv 25 9),
  Gt 22 (Ia 26 2 24 25),
  Af [7] (Gt 22 (Ls 27 2 26)),
  Gt 22 (Mv 28 0),
  Gt 22 (Mv 29 9),
  Gt 22 (Bc 30 .sub 29 1),
  Gt 22 (Ia 31 2 28 30),
  Af [12] (Gt 22 (Ls 32 2 31)),
  Af [8, 13, 7, 12] (Gt 22 (Op 33 (.call (.t 23) [(.t 27), (.t 32)]))),
  Gt 22 (Bc 34 .lss 33 0),
  Gt 22 (Un 35 .not 34),
  Pa 36 22 35]
def f281x5 : List AOper := [
  Mv 37 9,
  Bc 38 .add 37 1,
  Mv 9 38]
def f281x6L : ACode := (.seq (.seq (.region f281x4 true) (.cond (.t 36) .skip (.exit 2))) (.block 3 (.region f281x5 false)))
def f281x7 : List AOper := [
  Mv 39 9,
  Mv 40 2,
  Bi 41 .eql 39 40]
def f281x8 : List AOper := [
  Mc 8 (.bool true)]
def f281x9 : List AOper := [
  Mv 42 2,
  Mv 43 1,
  Bi 44 .sub 42 43,
  Bc 45 .lss 44 50]
def f281x10 : List AOper := [
  Mc 8 (.bool false)]
def f281x11 : List AOper := [
  Mv 46 0,
  Mv 47 9,
  Mv 48 0,
  Mv 49 9,
  Bc 50 .sub 49 1,
  Mv 51 0,
  Mv 52 9,
  Bc 53 .sub 52 1,
  Ia 54 2 51 53,
  Af [8] (Ls 55 2 54),
  Mv 56 0,
  Mv 57 9,
  Ia 58 2 56 57,
  Af [12] (Ls 59 2 58),
  Af [9, 13, 8, 12] (Ia 60 2 46 47),
  Af [14, 9, 13, 8, 12] (St 2 60 55),
  Af [15, 14, 9, 13, 8, 12] (Ia 61 2 48 50),
  Af [16, 15, 14, 9, 13, 8, 12] (St 2 61 59)]
def f281x12 : List AOper := [
  Mv 62 9,
  Mv 63 1,
  Bi 64 .sub 62 63,
  Bc 65 .geq 64 2]
def f281x13 : List AOper := [
  Mv 66 9,
  Bc 67 .sub 66 1,
  Mv 11 67]
def f281x14 : List AOper := [
  Mv 68 11,
  Bc 69 .geq 68 1]
def f281x15 : List AOper := [
  Mv 72 3,
  Mv 73 0,
  Mv 74 11,
  Ia 75 2 73 74,
  Af [3] (Ls 76 2 75),
  Mv 77 0,
  Mv 78 11,
  Bc 79 .sub 78 1,
  Ia 80 2 77 79,
  Af [8] (Ls 81 2 80),
  Af [4, 9, 3, 8] (Op 82 (.call (.t 72) [(.t 76), (.t 81)])),
  Bc 83 .lss 82 0,
  Un 84 .not 83]
def f281x16 : List AOper := [
  Mv 85 0,
  Mv 86 11,
  Mv 87 0,
  Mv 88 11,
  Bc 89 .sub 88 1,
  Mv 90 0,
  Mv 91 11,
  Bc 92 .sub 91 1,
  Ia 93 2 90 92,
  Af [8] (Ls 94 2 93),
  Mv 95 0,
  Mv 96 11,
  Ia 97 2 95 96,
  Af [12] (Ls 98 2 97),
  Af [9, 13, 8, 12] (Ia 99 2 85 86),
  Af [14, 9, 13, 8, 12] (St 2 99 94),
  Af [15, 14, 9, 13, 8, 12] (Ia 100 2 87 89),
  Af [16, 15, 14, 9, 13, 8, 12] (St 2 100 98)]
def f281x17 : List AOper := [
  Mv 70 11,
  Bc 71 .sub 70 1,
  Mv 11 71]
def f281x18L : ACode := (.seq (.seq (.region f281x14 false) (.cond (.t 69) .skip (.exit 4))) (.seq (.block 5 (.seq (.seq (.region f281x15 true) (.cond (.t 84) (.exit 4) .skip)) (.region f281x16 true))) (.region f281x17 false)))
def f281x19 : List AOper := [
  Mv 101 2,
  Mv 102 9,
  Bi 103 .sub 101 102,
  Bc 104 .geq 103 2]
def f281x20 : List AOper := [
  Mv 105 9,
  Bc 106 .add 105 1,
  Mv 12 106]
def f281x21 : List AOper := [
  Mv 107 12,
  Mv 108 2,
  Bi 109 .lss 107 108]
def f281x22 : List AOper := [
  Mv 112 3,
  Mv 113 0,
  Mv 114 12,
  Ia 115 2 113 114,
  Af [3] (Ls 116 2 115),
  Mv 117 0,
  Mv 118 12,
  Bc 119 .sub 118 1,
  Ia 120 2 117 119,
  Af [8] (Ls 121 2 120),
  Af [4, 9, 3, 8] (Op 122 (.call (.t 112) [(.t 116), (.t 121)])),
  Bc 123 .lss 122 0,
  Un 124 .not 123]
def f281x23 : List AOper := [
  Mv 125 0,
  Mv 126 12,
  Mv 127 0,
  Mv 128 12,
  Bc 129 .sub 128 1,
  Mv 130 0,
  Mv 131 12,
  Bc 132 .sub 131 1,
  Ia 133 2 130 132,
  Af [8] (Ls 134 2 133),
  Mv 135 0,
  Mv 136 12,
  Ia 137 2 135 136,
  Af [12] (Ls 138 2 137),
  Af [9, 13, 8, 12] (Ia 139 2 125 126),
  Af [14, 9, 13, 8, 12] (St 2 139 134),
  Af [15, 14, 9, 13, 8, 12] (Ia 140 2 127 129),
  Af [16, 15, 14, 9, 13, 8, 12] (St 2 140 138)]
def f281x24 : List AOper := [
  Mv 110 12,
  Bc 111 .add 110 1,
  Mv 12 111]
def f281x25L : ACode := (.seq (.seq (.region f281x21 false) (.cond (.t 109) .skip (.exit 6))) (.seq (.block 7 (.seq (.seq (.region f281x22 true) (.cond (.t 124) (.exit 6) .skip)) (.region f281x23 true))) (.region f281x24 false)))
def f281x26 : List AOper := [
  Mv 17 10,
  Bc 18 .add 17 1,
  Mv 10 18]
def f281x27L : ACode := (.seq (.seq (.region f281x3 false) (.cond (.t 16) .skip (.exit 0))) (.seq (.block 1 (.seq (.block 2 (.loop f281x6L)) (.seq (.seq (.region f281x7 false) (.cond (.t 41) (.seq (.region f281x8 false) .ret) .skip)) (.seq (.seq (.region f281x9 false) (.cond (.t 45) (.seq (.region f281x10 false) .ret) .skip)) (.seq (.region f281x11 true) (.seq (.seq (.region f281x12 false) (.cond (.t 65) (.seq (.region f281x13 false) (.block 4 (.loop f281x18L))) .skip)) (.seq (.region f281x19 false) (.cond (.t 104) (.seq (.region f281x20 false) (.block 6 (.loop f281x25L))) .skip)))))))) (.region f281x26 false)))
def f281x28 : List AOper := [
  Mc 8 (.bool false)]
def f281 : AFunc := ⟨141, 4, false, [.t 8], (.seq (.region f281x0 false) (.seq (.region f281x1 false) (.seq (.seq (.region f281x2 false) (.block 0 (.loop f281x27L))) (.seq (.region f281x28 false) .ret))))⟩
def f282x0 : List AOper := [
  Mc 10 (.int .i64 0)]
def f282x1 : List AOper := [
  Mv 13 0,
  Mv 14 1,
  Mv 15 0,
  Mv 16 3,
  Mv 17 0,
  Mv 18 3,
  Ia 19 2 17 18,
  Af [6] (Ls 20 2 19),
  Mv 21 0,
  Mv 22 1,
  Ia 23 2 21 22,
  Af [10] (Ls 24 2 23),
  Af [7, 11, 6, 10] (Ia 25 2 13 14),
  Af [12, 7, 11, 6, 10] (St 2 25 20),
  Af [13, 12, 7, 11, 6, 10] (Ia 26 2 15 16),
  Af [14, 13, 12, 7, 11, 6, 10] (St 2 26 24)]
def f282x2 : List AOper := [
  Mv 27 1,
  Bc 28 .add 27 1,
  Mv 29 2,
  Bc 30 .sub 29 1,
  Mv 11 28,
  Mv 12 30]
def f282x3 : List AOper := [
  Mv 31 11,
  Mv 32 12,
  Bi 33 .leq 31 32,
  Mv 34 33,
  Gt 34 (Mv 35 4),
  Gt 34 (Mv 36 0),
  Gt 34 (Mv 37 1),
  Gt 34 (Ia 38 2 36 37),
  Af [7] (Gt 34 (Ls 39 2 38)),
  Gt 34 (Mv 40 0),
  Gt 34 (Mv 41 11),
  Gt 34 (Ia 42 2 40 41),
  Af [11] (Gt 34 (Ls 43 2 42)),
  Af [8, 12, 7, 11] (Gt 34 (Op 44 (.call (.t 35) [(.t 39), (.t 43)]))),
  Gt 34 (Bc 45 .lss 44 0),
  Gt 34 (Un 46 .not 45),
  Pa 47 34 46]
def f282x4 : List AOper := [
  Mv 48 11,
  Bc 49 .add 48 1,
  Mv 11 49]
def f282x5L : ACode := (.seq (.seq (.region f282x3 true) (.cond (.t 47) .skip (.exit 2))) (.block 3 (.region f282x4 false)))
def f282x6 : List AOper := [
  Mv 50 11,
  Mv 51 12,
  Bi 52 .leq 50 51,
  Mv 53 52,
  Gt 53 (Mv 54 4),
  Gt 53 (Mv 55 0),
  Gt 53 (Mv 56 1),
  Gt 53 (Ia 57 2 55 56),
  Af [7] (Gt 53 (Ls 58 2 57)),
  Gt 53 (Mv 59 0),
  Gt 53 (Mv 60 12),
  Gt 53 (Ia 61 2 59 60),
  Af [11] (Gt 53 (Ls 62 2 61)),
  Af [8, 12, 7, 11] (Gt 53 (Op 63 (.call (.t 54) [(.t 58), (.t 62)]))),
  Gt 53 (Bc 64 .lss 63 0),
  Pa 65 53 64]
def f282x7 : List AOper := [
  Mv 66 12,
  Bc 67 .sub 66 1,
  Mv 12 67]
def f282x8L : ACode := (.seq (.seq (.region f282x6 true) (.cond (.t 65) .skip (.exit 4))) (.block 5 (.region f282x7 false)))
def f282x9 : List AOper := [
  Mv 68 11,
  Mv 69 12,
  Bi 70 .gtr 68 69]
def f282x10 : List AOper := [
  Mv 71 0,
  Mv 72 11,
  Mv 73 0,
  Mv 74 12,
  Mv 75 0,
  Mv 76 12,
  Ia 77 2 75 76,
  Af [6] (Ls 78 2 77),
  Mv 79 0,
  Mv 80 11,
  Ia 81 2 79 80,
  Af [10] (Ls 82 2 81),
  Af [7, 11, 6, 10] (Ia 83 2 71 72),
  Af [12, 7, 11, 6, 10] (St 2 83 78),
  Af [13, 12, 7, 11, 6, 10] (Ia 84 2 73 74),
  Af [14, 13, 12, 7, 11, 6, 10] (St 2 84 82)]
def f282x11 : List AOper := [
  Mv 85 11,
  Bc 86 .add 85 1,
  Mv 11 86]
def f282x12 : List AOper := [
  Mv 87 12,
  Bc 88 .sub 87 1,
  Mv 12 88]
def f282x13L : ACode := (.block 1 (.seq (.block 2 (.loop f282x5L)) (.seq (.block 4 (.loop f282x8L)) (.seq (.seq (.region f282x9 false) (.cond (.t 70) (.exit 0) .skip)) (.seq (.region f282x10 true) (.seq (.region f282x11 false) (.region f282x12 false)))))))
def f282x14 : List AOper := [
  Mv 89 11,
  Mv 10 89]
def f282 : AFunc := ⟨90, 5, false, [.t 10], (.seq (.region f282x0 false) (.seq (.region f282x1 true) (.seq (.region f282x2 false) (.seq (.block 0 (.loop f282x13L)) (.seq (.region f282x14 false) .ret)))))⟩
def f283x0 : List AOper := [
  Mc 10 (.int .i64 0),
  Mc 11 (.bool false)]
def f283x1 : List AOper := [
  Mv 14 0,
  Mv 15 1,
  Mv 16 0,
  Mv 17 3,
  Mv 18 0,
  Mv 19 3,
  Ia 20 2 18 19,
  Af [6] (Ls 21 2 20),
  Mv 22 0,
  Mv 23 1,
  Ia 24 2 22 23,
  Af [10] (Ls 25 2 24),
  Af [7, 11, 6, 10] (Ia 26 2 14 15),
  Af [12, 7, 11, 6, 10] (St 2 26 21),
  Af [13, 12, 7, 11, 6, 10] (Ia 27 2 16 17),
  Af [14, 13, 12, 7, 11, 6, 10] (St 2 27 25)]
def f283x2 : List AOper := [
  Mv 28 1,
  Bc 29 .add 28 1,
  Mv 30 2,
  Bc 31 .sub 30 1,
  Mv 12 29,
  Mv 13 31]
def f283x3 : List AOper := [
  Mv 32 12,
  Mv 33 13,
  Bi 34 .leq 32 33,
  Mv 35 34,
  Gt 35 (Mv 36 4),
  Gt 35 (Mv 37 0),
  Gt 35 (Mv 38 12),
  Gt 35 (Ia 39 2 37 38),
  Af [7] (Gt 35 (Ls 40 2 39)),
  Gt 35 (Mv 41 0),
  Gt 35 (Mv 42 1),
  Gt 35 (Ia 43 2 41 42),
  Af [11] (Gt 35 (Ls 44 2 43)),
  Af [8, 12, 7, 11] (Gt 35 (Op 45 (.call (.t 36) [(.t 40), (.t 44)]))),
  Gt 35 (Bc 46 .lss 45 0),
  Pa 47 35 46]
def f283x4 : List AOper := [
  Mv 48 12,
  Bc 49 .add 48 1,
  Mv 12 49]
def f283x5L : ACode := (.seq (.seq (.region f283x3 true) (.cond (.t 47) .skip (.exit 0))) (.block 1 (.region f283x4 false)))
def f283x6 : List AOper := [
  Mv 50 12,
  Mv 51 13,
  Bi 52 .leq 50 51,
  Mv 53 52,
  Gt 53 (Mv 54 4),
  Gt 53 (Mv 55 0),
  Gt 53 (Mv 56 13),
  Gt 53 (Ia 57 2 55 56),
  Af [7] (Gt 53 (Ls 58 2 57)),
  Gt 53 (Mv 59 0),
  Gt 53 (Mv 60 1),
  Gt 53 (Ia 61 2 59 60),
  Af [11] (Gt 53 (Ls 62 2 61)),
  Af [8, 12, 7, 11] (Gt 53 (Op 63 (.call (.t 54) [(.t 58), (.t 62)]))),
  Gt 53 (Bc 64 .lss 63 0),
  Gt 53 (Un 65 .not 64),
  Pa 66 53 65]
def f283x7 : List AOper := [
  Mv 67 13,
  Bc 68 .sub 67 1,
  Mv 13 68]
def f283x8L : ACode := (.seq (.seq (.region f283x6 true) (.cond (.t 66) .skip (.exit 2))) (.block 3 (.region f283x7 false)))
def f283x9 : List AOper := [
  Mv 69 12,
  Mv 70 13,
  Bi 71 .gtr 69 70]
def f283x10 : List AOper := [
  Mv 72 0,
  Mv 73 13,
  Mv 74 0,
  Mv 75 1,
  Mv 76 0,
  Mv 77 1,
  Ia 78 2 76 77,
  Af [6] (Ls 79 2 78),
  Mv 80 0,
  Mv 81 13,
  Ia 82 2 80 81,
  Af [10] (Ls 83 2 82),
  Af [7, 11, 6, 10] (Ia 84 2 72 73),
  Af [12, 7, 11, 6, 10] (St 2 84 79),
  Af [13, 12, 7, 11, 6, 10] (Ia 85 2 74 75),
  Af [14, 13, 12, 7, 11, 6, 10] (St 2 85 83)]
def f283x11 : List AOper := [
  Mv 86 13,
  Mv 10 86,
  Mc 11 (.bool true)]
def f283x12 : List AOper := [
  Mv 87 0,
  Mv 88 12,
  Mv 89 0,
  Mv 90 13,
  Mv 91 0,
  Mv 92 13,
  Ia 93 2 91 92,
  Af [6] (Ls 94 2 93),
  Mv 95 0,
  Mv 96 12,
  Ia 97 2 95 96,
  Af [10] (Ls 98 2 97),
  Af [7, 11, 6, 10] (Ia 99 2 87 88),
  Af [12, 7, 11, 6, 10] (St 2 99 94),
  Af [13, 12, 7, 11, 6, 10] (Ia 100 2 89 90),
  Af [14, 13, 12, 7, 11, 6, 10] (St 2 100 98)]
def f283x13 : List AOper := [
  Mv 101 12,
  Bc 102 .add 101 1,
  Mv 12 102]
def f283x14 : List AOper := [
  Mv 103 13,
  Bc 104 .sub 103 1,
  Mv 13 104]
def f283x15 : List AOper := [
  Mv 105 12,
  Mv 106 13,
  Bi 107 .leq 105 106,
  Mv 108 107,
  Gt 108 (Mv 109 4),
  Gt 108 (Mv 110 0),
  Gt 108 (Mv 111 12),
  Gt 108 (Ia 112 2 110 111),
  Af [7] (Gt 108 (Ls 113 2 112)),
  Gt 108 (Mv 114 0),
  Gt 108 (Mv 115 1),
  Gt 108 (Ia 116 2 114 115),
  Af [11] (Gt 108 (Ls 117 2 116)),
  Af [8, 12, 7, 11] (Gt 108 (Op 118 (.call (.t 109) [(.t 113), (.t 117)]))),
  Gt 108 (Bc 119 .lss 118 0),
  Pa 120 108 119]
def f283x16 : List AOper := [
  Mv 121 12,
  Bc 122 .add 121 1,
  Mv 12 122]
def f283x17L : ACode := (.seq (.seq (.region f283x15 true) (.cond (.t 120) .skip (.exit 6))) (.block 7 (.region f283x16 false)))
def f283x18 : List AOper := [
  Mv 123 12,
  Mv 124 13,
  Bi 125 .leq 123 124,
  Mv 126 125,
  Gt 126 (Mv 127 4),
  Gt 126 (Mv 128 0),
  Gt 126 (Mv 129 13),
  Gt 126 (Ia 130 2 128 129),
  Af [7] (Gt 126 (Ls 131 2 130)),
  Gt 126 (Mv 132 0),
  Gt 126 (Mv 133 1),
  Gt 126 (Ia 134 2 132 133),
  Af [11] (Gt 126 (Ls 135 2 134)),
  Af [8, 12, 7, 11] (Gt 126 (Op 136 (.call (.t 127) [(.t 131), (.t 135)]))),
  Gt 126 (Bc 137 .lss 136 0),
  Gt 126 (Un 138 .not 137),
  Pa 139 126 138]
def f283x19 : List AOper := [
  Mv 140 13,
  Bc 141 .sub 140 1,
  Mv 13 141]
def f283x20L : ACode := (.seq (.seq (.region f283x18 true) (.cond (.t 139) .skip (.exit 8))) (.block 9 (.region f283x19 false)))
def f283x21 : List AOper := [
  Mv 142 12,
  Mv 143 13,
  Bi 144 .gtr 142 143]
def f283x22 : List AOper := [
  Mv 145 0,
  Mv 146 12,
  Mv 147 0,
  Mv 148 13,
  Mv 149 0,
  Mv 150 13,
  Ia 151 2 149 150,
  Af [6] (Ls 152 2 151),
  Mv 153 0,
  Mv 154 12,
  Ia 155 2 153 154,
  Af [10] (Ls 156 2 155),
  Af [7, 11, 6, 10] (Ia 157 2 145 146),
  Af [12, 7, 11, 6, 10] (St 2 157 152),
  Af [13, 12, 7, 11, 6, 10] (Ia 158 2 147 148),
  Af [14, 13, 12, 7, 11, 6, 10] (St 2 158 156)]
def f283x23 : List AOper := [
  Mv 159 12,
  Bc 160 .add 159 1,
  Mv 12 160]
def f283x24 : List AOper := [
  Mv 161 13,
  Bc 162 .sub 161 1,
  Mv 13 162]
def f283x25L : ACode := (.block 5 (.seq (.block 6 (.loop f283x17L)) (.seq (.block 8 (.loop f283x20L)) (.seq (.seq (.region f283x21 false) (.cond (.t 144) (.exit 4) .skip)) (.seq (.region f283x22 true) (.seq (.region f283x23 false) (.region f283x24 false)))))))
def f283x26 : List AOper := [
  Mv 163 0,
  Mv 164 13,
  Mv 165 0,
  Mv 166 1,
  Mv 167 0,
  Mv 168 1,
  Ia 169 2 167 168,
  Af [6] (Ls 170 2 169),
  Mv 171 0,
  Mv 172 13,
  Ia 173 2 171 172,
  Af [10] (Ls 174 2 173),
  Af [7, 11, 6, 10] (Ia 175 2 163 164),
  Af [12, 7, 11, 6, 10] (St 2 175 170),
  Af [13, 12, 7, 11, 6, 10] (Ia 176 2 165 166),
  Af [14, 13, 12, 7, 11, 6, 10] (St 2 176 174)]
def f283x27 : List AOper := [
  Mv 177 13,
  Mv 10 177,
  Mc 11 (.bool false)]
def f283 : AFunc := ⟨178, 5, false, [.t 10, .t 11], (.seq (.region f283x0 false) (.seq (.region f283x1 true) (.seq (.region f283x2 false) (.seq (.block 0 (.loop f283x5L)) (.seq (.block 2 (.loop f283x8L)) (.seq (.seq (.region f283x9 false) (.cond (.t 71) (.seq (.region f283x10 true) (.seq (.region f283x11 false) .ret)) .skip)) (.seq (.region f283x12 true) (.seq (.region f283x13 false) (.seq (.region f283x14 false) (.seq (.block 4 (.loop f283x25L)) (.seq (.region f283x26 true) (.seq (.region f283x27 false) .ret))))))))))))⟩
def f284x0 : List AOper := [
  Mc 2 (.int .i64 0)]
def f284x1 : List AOper := [
  Mv 3 0,
  Op 4 (.bin .geq (.t 3) (.c (.int .u32 65536)))]
def f284x2 : List AOper := [
  Mv 5 0,
  Op 6 (.bin .shr (.t 5) (.c (.int .u64 16))),
  Mv 0 6]
def f284x3 : List AOper := [
  Mc 2 (.int .i64 16)]
def f284x4 : List AOper := [
  Mv 7 0,
  Op 8 (.bin .geq (.t 7) (.c (.int .u32 256)))]
def f284x5 : List AOper := [
  Mv 9 0,
  Op 10 (.bin .shr (.t 9) (.c (.int .u64 8))),
  Mv 0 10]
def f284x6 : List AOper := [
  Mv 11 2,
  Bc 12 .add 11 8,
  Mv 2 12]
def f284x7 : List AOper := [
  Mv 13 2,
  Mv 14 0,
  Cv 15 .u8 14,
  Op 16 (.istr (.c (.str [0, 1, 2, 2, 3, 3, 3, 3, 4, 4, 4, 4, 4, 4, 4, 4, 5, 5, 5, 5, 5, 5, 5, 5, 5, 5, 5, 5, 5, 5, 5, 5, 6, 6, 6, 6, 6, 6, 6, 6, 6, 6, 6, 6, 6, 6, 6, 6, 6, 6, 6, 6, 6, 6, 6, 6, 6, 6, 6, 6, 6, 6, 6, 6, 7, 7, 7, 7, 7, 7, 7, 7, 7, 7, 7, 7, 7, 7, 7, 7, 7, 7, 7, 7, 7, 7, 7, 7, 7, 7, 7, 7, 7, 7, 7, 7, 7, 7, 7, 7, 7, 7, 7, 7, 7, 7, 7, 7, 7, 7, 7, 7, 7, 7, 7, 7, 7, 7, 7, 7, 7, 7, 7, 7, 7, 7, 7, 7, 8, 8, 8, 8, 8, 8, 8, 8, 8, 8, 8, 8, 8, 8, 8, 8, 8, 8, 8, 8, 8, 8, 8, 8, 8, 8, 8, 8, 8, 8, 8, 8, 8, 8, 8, 8, 8, 8, 8, 8, 8, 8, 8, 8, 8, 8, 8, 8, 8, 8, 8, 8, 8, 8, 8, 8, 8, 8, 8, 8, 8, 8, 8, 8, 8, 8, 8, 8, 8, 8, 8, 8, 8, 8, 8, 8, 8, 8, 8, 8, 8, 8, 8, 8, 8, 8, 8, 8, 8, 8, 8, 8, 8, 8, 8, 8, 8, 8, 8, 8, 8, 8, 8, 8, 8, 8, 8, 8, 8, 8, 8, 8, 8, 8, 8, 8, 8, 8, 8, 8, 8, 8, 8, 8, 8, 8, 8, 8])) (.t 15)),
  Cv 17 .i64 16,
  Bi 18 .add 13 17,
  Mv 2 18]
def f284 : AFunc := ⟨19, 1, false, [.t 2], (.seq (.region f284x0 false) (.seq (.seq (.region f284x1 false) (.cond (.t 4) (.seq (.region f284x2 false) (.region f284x3 false)) .skip)) (.seq (.seq (.region f284x4 false) (.cond (.t 8) (.seq (.region f284x5 false) (.region f284x6 false)) .skip)) (.seq (.region f284x7 false) .ret))))⟩
def f285x0 : List AOper := [
  Mc 2 (.int .i64 0)]
def f285x1 : List AOper := [
  Mv 3 0,
  Op 4 (.bin .geq (.t 3) (.c (.int .u64 4294967296)))]
def f285x2 : List AOper := [
  Mv 5 0,
  Op 6 (.bin .shr (.t 5) (.c (.int .u64 32))),
  Mv 0 6]
def f285x3 : List AOper := [
  Mc 2 (.int .i64 32)]
def f285x4 : List AOper := [
  Mv 7 0,
  Op 8 (.bin .geq (.t 7) (.c (.int .u64 65536)))]
def f285x5 : List AOper := [
  Mv 9 0,
  Op 10 (.bin .shr (.t 9) (.c (.int .u64 16))),
  Mv 0 10]
def f285x6 : List AOper := [
  Mv 11 2,
  Bc 12 .add 11 16,
  Mv 2 12]
def f285x7 : List AOper := [
  Mv 13 0,
  Op 14 (.bin .geq (.t 13) (.c (.int .u64 256)))]
def f285x8 : List AOper := [
  Mv 15 0,
  Op 16 (.bin .shr (.t 15) (.c (.int .u64 8))),
  Mv 0 16]
def f285x9 : List AOper := [
  Mv 17 2,
  Bc 18 .add 17 8,
  Mv 2 18]
def f285x10 : List AOper := [
  Mv 19 2,
  Mv 20 0,
  Cv 21 .u8 20,
  Op 22 (.istr (.c (.str [0, 1, 2, 2, 3, 3, 3, 3, 4, 4, 4, 4, 4, 4, 4, 4, 5, 5, 5, 5, 5, 5, 5, 5, 5, 5, 5, 5, 5, 5, 5, 5, 6, 6, 6, 6, 6, 6, 6, 6, 6, 6, 6, 6, 6, 6, 6, 6, 6, 6, 6, 6, 6, 6, 6, 6, 6, 6, 6, 6, 6, 6, 6, 6, 7, 7, 7, 7, 7, 7, 7, 7, 7, 7, 7, 7, 7, 7, 7, 7, 7, 7, 7, 7, 7, 7, 7, 7, 7, 7, 7, 7, 7, 7, 7, 7, 7, 7, 7, 7, 7, 7, 7, 7, 7, 7, 7, 7, 7, 7, 7, 7, 7, 7, 7, 7, 7, 7, 7, 7, 7, 7, 7, 7, 7, 7, 7, 7, 8, 8, 8, 8, 8, 8, 8, 8, 8, 8, 8, 8, 8, 8, 8, 8, 8, 8, 8, 8, 8, 8, 8, 8, 8, 8, 8, 8, 8, 8, 8, 8, 8, 8, 8, 8, 8, 8, 8, 8, 8, 8, 8, 8, 8, 8, 8, 8, 8, 8, 8, 8, 8, 8, 8, 8, 8, 8, 8, 8, 8, 8, 8, 8, 8, 8, 8, 8, 8, 8, 8, 8, 8, 8, 8, 8, 8, 8, 8, 8, 8, 8, 8, 8, 8, 8, 8, 8, 8, 8, 8, 8, 8, 8, 8, 8, 8, 8, 8, 8, 8, 8, 8, 8, 8, 8, 8, 8, 8, 8, 8, 8, 8, 8, 8, 8, 8, 8, 8, 8, 8, 8, 8, 8, 8, 8, 8, 8])) (.t 21)),
  Cv 23 .i64 22,
  Bi 24 .add 19 23,
  Mv 2 24]
def f285 : AFunc := ⟨25, 1, false, [.t 2], (.seq (.region f285x0 false) (.seq (.seq (.region f285x1 false) (.cond (.t 4) (.seq (.region f285x2 false) (.region f285x3 false)) .skip)) (.seq (.seq (.region f285x4 false) (.cond (.t 8) (.seq (.region f285x5 false) (.region f285x6 false)) .skip)) (.seq (.seq (.region f285x7 false) (.cond (.t 14) (.seq (.region f285x8 false) (.region f285x9 false)) .skip)) (.seq (.region f285x10 false) .ret)))))⟩
def f286x0 : List AOper := [
  Mc 2 (.str [])]
def f286x1 : List AOper := [
  Mv 3 0,
  Bc 4 .lss 3 10]
def f286x2 : List AOper := [
  Mv 5 0,
  Mv 6 0,
  Bc 7 .add 6 1,
  Op 8 (.slstr (.c (.str [48, 49, 50, 51, 52, 53, 54, 55, 56, 57, 97, 98, 99, 100, 101, 102, 103, 104, 105, 106, 107, 108, 109, 110, 111, 112, 113, 114, 115, 116, 117, 118, 119, 120, 121, 122])) (some (.t 5)) (some (.t 7))),
  Mv 2 8]
def f286x3 : List AOper := [
  Mv 9 0,
  Bc 10 .mul 9 2,
  Mv 11 0,
  Bc 12 .mul 11 2,
  Bc 13 .add 12 2,
  Op 14 (.slstr (.c (.str [48, 48, 48, 49, 48, 50, 48, 51, 48, 52, 48, 53, 48, 54, 48, 55, 48, 56, 48, 57, 49, 48, 49, 49, 49, 50, 49, 51, 49, 52, 49, 53, 49, 54, 49, 55, 49, 56, 49, 57, 50, 48, 50, 49, 50, 50, 50, 51, 50, 52, 50, 53, 50, 54, 50, 55, 50, 56, 50, 57, 51, 48, 51, 49, 51, 50, 51, 51, 51, 52, 51, 53, 51, 54, 51, 55, 51, 56, 51, 57, 52, 48, 52, 49, 52, 50, 52, 51, 52, 52, 52, 53, 52, 54, 52, 55, 52, 56, 52, 57, 53, 48, 53, 49, 53, 50, 53, 51, 53, 52, 53, 53, 53, 54, 53, 55, 53, 56, 53, 57, 54, 48, 54, 49, 54, 50, 54, 51, 54, 52, 54, 53, 54, 54, 54, 55, 54, 56, 54, 57, 55, 48, 55, 49, 55, 50, 55, 51, 55, 52, 55, 53, 55, 54, 55, 55, 55, 56, 55, 57, 56, 48, 56, 49, 56, 50, 56, 51, 56, 52, 56, 53, 56, 54, 56, 55, 56, 56, 56, 57, 57, 48, 57, 49, 57, 50, 57, 51, 57, 52, 57, 53, 57, 54, 57, 55, 57, 56, 57, 57])) (some (.t 10)) (some (.t 13))),
  Mv 2 14]
def f286 : AFunc := ⟨15, 1, false, [.t 2], (.seq (.region f286x0 false) (.seq (.seq (.region f286x1 false) (.cond (.t 4) (.seq (.region f286x2 false) .ret) .skip)) (.seq (.region f286x3 false) .ret)))⟩
def f314x0 : List AOper := [
  Mc 10 (.int .i64 0),
  Mc 11 (.int .i64 0)]
def f314x1 : List AOper := [
  Mv 12 4,
  Mv 13 0,
  Mv 14 2,
  Ia 15 2 13 14,
  Af [3] (Ls 16 2 15),
  Mv 17 0,
  Mv 18 1,
  Ia 19 2 17 18,
  Af [7] (Ls 20 2 19),
  Af [4, 8, 3, 7] (Op 21 (.call (.t 12) [(.t 16), (.t 20)])),
  Bc 22 .lss 21 0]
def f314x2 : List AOper := [
  Mv 23 3,
  Nc 24 23,
  Ld 25 24,
  Bc 26 .add 25 1,
  Nc 27 23,
  St 1 27 26]
def f314x3 : List AOper := [
  Mv 28 2,
  Mv 29 1,
  Mv 10 28,
  Mv 11 29]
def f314x4 : List AOper := [
  Mv 30 1,
  Mv 31 2,
  Mv 10 30,
  Mv 11 31]
def f314 : AFunc := ⟨32, 5, false, [.t 10, .t 11], (.seq (.region f314x0 false) (.seq (.seq (.region f314x1 true) (.cond (.t 22) (.seq (.region f314x2 false) (.seq (.region f314x3 false) .ret)) .skip)) (.seq (.region f314x4 false) .ret)))⟩
def f317x0 : List AOper := [
  Mc 2 (.int .u8 0)]
def f317x1 : List AOper := [
  Mv 3 0,
  Op 4 (.bin .or (.t 3) (.c (.int .u8 32))),
  Mv 2 4]
def f317 : AFunc := ⟨5, 1, false, [.t 2], (.seq (.region f317x0 false) (.seq (.region f317x1 false) .ret))⟩
def f318x0 : List AOper := [
  Mc 2 (.bool false)]
def f318x1 : List AOper := [
  Mc 3 (.int .i32 94)]
def f318x2 : List AOper := [
  Mc 4 (.int .i64 0)]
def f318x3 : List AOper := [
  Mv 6 0,
  Ln 7 1 6,
  Bc 8 .geq 7 1,
  Mv 9 8,
  Gt 9 (Mv 10 0),
  Gt 9 (Op 11 (.istr (.t 10) (.c (.int .i64 0)))),
  Gt 9 (Op 12 (.bin .eql (.t 11) (.c (.int .u8 45)))),
  Gt 9 (Mv 13 12),
  Gf 13 (Mv 14 0),
  Gf 13 (Op 15 (.istr (.t 14) (.c (.int .i64 0)))),
  Gf 13 (Op 16 (.bin .eql (.t 15) (.c (.int .u8 43)))),
  Gt 9 (Po 17 13 16),
  Pa 18 9 17]
def f318x4 : List AOper := [
  Mv 19 0,
  Op 20 (.slstr (.t 19) (some (.c (.int .i64 1))) none),
  Mv 0 20]
def f318x5 : List AOper := [
  Mc 5 (.bool false)]
def f318x6 : List AOper := [
  Mv 21 0,
  Ln 22 1 21,
  Bc 23 .geq 22 2,
  Mv 24 23,
  Gt 24 (Mv 25 0),
  Gt 24 (Op 26 (.istr (.t 25) (.c (.int .i64 0)))),
  Gt 24 (Op 27 (.bin .eql (.t 26) (.c (.int .u8 48)))),
  Pa 28 24 27,
  Mv 29 28,
  Gt 29 (Mv 30 0),
  Gt 29 (Op 31 (.istr (.t 30) (.c (.int .i64 1)))),
  Gt 29 (Ct 32 317 [31]),
  Gt 29 (Op 33 (.bin .eql (.t 32) (.c (.int .u8 98)))),
  Gt 29 (Mv 34 33),
  Gf 34 (Mv 35 0),
  Gf 34 (Op 36 (.istr (.t 35) (.c (.int .i64 1)))),
  Gf 34 (Ct 37 317 [36]),
  Gf 34 (Op 38 (.bin .eql (.t 37) (.c (.int .u8 111)))),
  Gt 29 (Po 39 34 38),
  Gt 29 (Mv 40 39),
  Gf 40 (Mv 41 0),
  Gf 40 (Op 42 (.istr (.t 41) (.c (.int .i64 1)))),
  Gf 40 (Ct 43 317 [42]),
  Gf 40 (Op 44 (.bin .eql (.t 43) (.c (.int .u8 120)))),
  Gt 29 (Po 45 40 44),
  Pa 46 29 45]
def f318x7 : List AOper := [
  Mc 4 (.int .i64 2)]
def f318x8 : List AOper := [
  Mc 3 (.int .i32 48)]
def f318x9 : List AOper := [
  Mv 47 0,
  Op 48 (.istr (.t 47) (.c (.int .i64 1))),
  Ct 49 317 [48],
  Op 50 (.bin .eql (.t 49) (.c (.int .u8 120))),
  Mv 5 50]
def f318x10 : List AOper := [
  Mv 51 4,
  Mv 52 0,
  Ln 53 1 52,
  Bi 54 .lss 51 53]
def f318x11 : List AOper := [
  Mv 57 0,
  Mv 58 4,
  Op 59 (.istr (.t 57) (.t 58)),
  Op 60 (.bin .leq (.c (.int .u8 48)) (.t 59)),
  Mv 61 60,
  Gt 61 (Mv 62 0),
  Gt 61 (Mv 63 4),
  Gt 61 (Op 64 (.istr (.t 62) (.t 63))),
  Gt 61 (Op 65 (.bin .leq (.t 64) (.c (.int .u8 57)))),
  Pa 66 61 65,
  Mv 67 66,
  Gf 67 (Mv 68 5),
  Gf 67 (Mv 69 68),
  Gt 69 (Mv 70 0),
  Gt 69 (Mv 71 4),
  Gt 69 (Op 72 (.istr (.t 70) (.t 71))),
  Gt 69 (Ct 73 317 [72]),
  Gt 69 (Op 74 (.bin .leq (.c (.int .u8 97)) (.t 73))),
  Gf 67 (Pa 75 69 74),
  Gf 67 (Mv 76 75),
  Gt 76 (Mv 77 0),
  Gt 76 (Mv 78 4),
  Gt 76 (Op 79 (.istr (.t 77) (.t 78))),
  Gt 76 (Ct 80 317 [79]),
  Gt 76 (Op 81 (.bin .leq (.t 80) (.c (.int .u8 102)))),
  Gf 67 (Pa 82 76 81),
  Po 83 67 82]
def f318x12 : List AOper := [
  Mc 3 (.int .i32 48)]
def f318x13 : List AOper := [
  Mv 84 0,
  Mv 85 4,
  Op 86 (.istr (.t 84) (.t 85)),
  Op 87 (.bin .eql (.t 86) (.c (.int .u8 95)))]
def f318x14 : List AOper := [
  Mv 88 3,
  Op 89 (.bin .neq (.t 88) (.c (.int .i32 48)))]
def f318x15 : List AOper := [
  Mc 2 (.bool false)]
def f318x16 : List AOper := [
  Mc 3 (.int .i32 95)]
def f318x17 : List AOper := [
  Mv 90 3,
  Op 91 (.bin .eql (.t 90) (.c (.int .i32 95)))]
def f318x18 : List AOper := [
  Mc 2 (.bool false)]
def f318x19 : List AOper := [
  Mc 3 (.int .i32 33)]
def f318x20 : List AOper := [
  Mv 55 4,
  Bc 56 .add 55 1,
  Mv 4 56]
def f318x21L : ACode := (.seq (.seq (.region f318x10 false) (.cond (.t 54) .skip (.exit 0))) (.seq (.block 1 (.seq (.seq (.region f318x11 false) (.cond (.t 83) (.seq (.region f318x12 false) (.exit 1)) .skip)) (.seq (.seq (.region f318x13 false) (.cond (.t 87) (.seq (.seq (.region f318x14 false) (.cond (.t 89) (.seq (.region f318x15 false) .ret) .skip)) (.seq (.region f318x16 false) (.exit 1))) .skip)) (.seq (.seq (.region f318x17 false) (.cond (.t 91) (.seq (.region f318x18 false) .ret) .skip)) (.region f318x19 false))))) (.region f318x20 false)))
def f318x22 : List AOper := [
  Mv 92 3,
  Op 93 (.bin .neq (.t 92) (.c (.int .i32 95))),
  Mv 2 93]
def f318 : AFunc := ⟨94, 1, false, [.t 2], (.seq (.region f318x0 false) (.seq (.region f318x1 false) (.seq (.region f318x2 false) (.seq (.seq (.region f318x3 false) (.cond (.t 18) (.region f318x4 false) .skip)) (.seq (.region f318x5 false) (.seq (.seq (.region f318x6 false) (.cond (.t 46) (.seq (.region f318x7 false) (.seq (.region f318x8 false) (.region f318x9 false))) .skip)) (.seq (.block 0 (.loop f318x21L)) (.seq (.region f318x22 false) .ret))))))))⟩
end Go.AM.IR
namespace Go.AM.IR
def G (f : Nat) : Fun := bif Nat.blt f 228 then (bif Nat.blt f 214 then (bif Nat.blt f 183 then (bif Nat.blt f 179 then (bif Nat.blt f 172 then (bif Nat.beq f 139 then .code f139 else .none) else (bif Nat.blt f 178 then (bif Nat.beq f 172 then .code f172 else .none) else (bif Nat.beq f 178 then .code f178 else .none))) else (bif Nat.blt f 181 then (bif Nat.blt f 180 then (bif Nat.beq f 179 then .code f179 else .none) else (bif Nat.beq f 180 then .code f180 else .none)) else (bif Nat.blt f 182 then (bif Nat.beq f 181 then .code f181 else .none) else (bif Nat.beq f 182 then .code f182 else .none)))) else (bif Nat.blt f 186 then (bif Nat.blt f 184 then (bif Nat.beq f 183 then .code f183 else .none) else (bif Nat.blt f 185 then (bif Nat.beq f 184 then .code f184 else .none) else (bif Nat.beq f 185 then .code f185 else .none))) else (bif Nat.blt f 212 then (bif Nat.blt f 211 then (bif Nat.beq f 186 then .code f186 else .none) else (bif Nat.beq f 211 then .code f211 else .none)) else (bif Nat.blt f 213 then (bif Nat.beq f 212 then .code f212 else .none) else (bif Nat.beq f 213 then .code f213 else .none))))) else (bif Nat.blt f 221 then (bif Nat.blt f 217 then (bif Nat.blt f 215 then (bif Nat.beq f 214 then .code f214 else .none) else (bif Nat.blt f 216 then (bif Nat.beq f 215 then .code f215 else .none) else (bif Nat.beq f 216 then .code f216 else .none))) else (bif Nat.blt f 219 then (bif Nat.blt f 218 then (bif Nat.beq f 217 then .code f217 else .none) else (bif Nat.beq f 218 then .code f218 else .none)) else (bif Nat.blt f 220 then (bif Nat.beq f 219 then .code f219 else .none) else (bif Nat.beq f 220 then .code f220 else .none)))) else (bif Nat.blt f 224 then (bif Nat.blt f 222 then (bif Nat.beq f 221 then .code f221 else .none) else (bif Nat.blt f 223 then (bif Nat.beq f 222 then .code f222 else .none) else (bif Nat.beq f 223 then .code f223 else .none))) else (bif Nat.blt f 226 then (bif Nat.blt f 225 then (bif Nat.beq f 224 then .code f224 else .none) else (bif Nat.beq f 225 then .code f225 else .none)) else (bif Nat.blt f 227 then (bif Nat.beq f 226 then .code f226 else .none) else (bif Nat.beq f 227 then .code f227 else .none)))))) else (bif Nat.blt f 242 then (bif Nat.blt f 235 then (bif Nat.blt f 231 then (bif Nat.blt f 229 then (bif Nat.beq f 228 then .code f228 else .none) else (bif Nat.blt f 230 then (bif Nat.beq f 229 then .code f229 else .none) else (bif Nat.beq f 230 then .code f230 else .none))) else (bif Nat.blt f 233 then (bif Nat.blt f 232 then (bif Nat.beq f 231 then .code f231 else .none) else (bif Nat.beq f 232 then .code f232 else .none)) else (bif Nat.blt f 234 then (bif Nat.beq f 233 then .code f233 else .none) else (bif Nat.beq f 234 then .code f234 else .none)))) else (bif Nat.blt f 238 then (bif Nat.blt f 236 then (bif Nat.beq f 235 then .code f235 else .none) else (bif Nat.blt f 237 then (bif Nat.beq f 236 then .code f236 else .none) else (bif Nat.beq f 237 then .code f237 else .none))) else (bif Nat.blt f 240 then (bif Nat.blt f 239 then (bif Nat.beq f 238 then .code f238 else .none) else (bif Nat.beq f 239 then .code f239 else .none)) else (bif Nat.blt f 241 then (bif Nat.beq f 240 then .code f240 else .none) else (bif Nat.beq f 241 then .code f241 else .none))))) else (bif Nat.blt f 249 then (bif Nat.blt f 245 then (bif Nat.blt f 243 then (bif Nat.beq f 242 then .code f242 else .none) else (bif Nat.blt f 244 then (bif Nat.beq f 243 then .code f243 else .none) else (bif Nat.beq f 244 then .code f244 else .none))) else (bif Nat.blt f 247 then (bif Nat.blt f 246 then (bif Nat.beq f 245 then .code f245 else .none) else (bif Nat.beq f 246 then .prim false pItoa else .none)) else (bif Nat.blt f 248 then (bif Nat.beq f 247 then .prim false pJoin else .none) else (bif Nat.beq f 248 then .code f248 else .none)))) else (bif Nat.blt f 252 then (bif Nat.blt f 250 then (bif Nat.beq f 249 then .prim false pSplit else .none) else (bif Nat.blt f 251 then (bif Nat.beq f 250 then .code f250 else .none) else (bif Nat.beq f 251 then .code f251 else .none))) else (bif Nat.blt f 257 then (bif Nat.blt f 253 then (bif Nat.beq f 252 then .prim false pCut else .none) else (bif Nat.beq f 253 then .code f253 else .none)) else (bif Nat.blt f 263 then (bif Nat.beq f 257 then .code f257 else .none) else (bif Nat.beq f 263 then .prim false (pAtoi 116) else .none))))))
end Go.AM.IR
namespace Go.AM.IR
def encI (x : Int) : List AV := [.int .i64 x]
def encU (x : Int) : List AV := [.int .u32 x]
structure Seg where
  kind : Int
  as : List Int
def Seg.enc (s : Seg) : List AV := [.int .i64 s.kind, .sl 1 (s.as.map encI)]
structure TLV where
  kind : Int
  value : List UInt8
def TLV.enc (s : TLV) : List AV := [.int .i64 s.kind, .sl 1 (byteCells s.value)]
structure Attrs where
  origin : Int
  path : List Seg
  nextHop : Int
  hasMED : Bool
  med : Int
  hasPref : Bool
  pref : Int
  atomic : Bool
  hasAggr : Bool
  aggrAS : Int
  aggrAddr : Int
  comms : List Int
  hasOrig : Bool
  orig : Int
  clusters : List Int
  unknown : List TLV
def Attrs.enc (a : Attrs) : List AV := [.int .i64 a.origin, .sl 2 (a.path.map Seg.enc), .int .u32 a.nextHop, .bool a.hasMED, .int .i64 a.med, .bool a.hasPref, .int .i64 a.pref, .bool a.atomic, .bool a.hasAggr, .int .i64 a.aggrAS, .int .u32 a.aggrAddr,
  .sl 1 (a.comms.map encU), .bool a.hasOrig, .int .u32 a.orig, .sl 1 (a.clusters.map encU), .sl 2 (a.unknown.map TLV.enc)]
structure PVRoute where
  paddr : Int
  plen : Int
  attrs : Attrs
  peer : Int
  kind : Int
  router : Int
  stale : Bool
def PVRoute.enc (r : PVRoute) : List AV := [.int .u32 r.paddr, .int .i64 r.plen,
  .int .i64 r.attrs.origin, .sl 2 (r.attrs.path.map Seg.enc), .int .u32 r.attrs.nextHop, .bool r.attrs.hasMED, .int .i64 r.attrs.med, .bool r.attrs.hasPref, .int .i64 r.attrs.pref, .bool r.attrs.atomic, .bool r.attrs.hasAggr, .int .i64 r.attrs.aggrAS, .int .u32 r.attrs.aggrAddr,
  .sl 1 (r.attrs.comms.map encU), .bool r.attrs.hasOrig, .int .u32 r.attrs.orig, .sl 1 (r.attrs.clusters.map encU), .sl 2 (r.attrs.unknown.map TLV.enc),
  .int .i64 r.peer, .int .i64 r.kind, .int .u32 r.router, .bool r.stale]
structure IGP where
  addr : Int
  cost : Int
def IGP.enc (c : IGP) : List AV := [.int .u32 c.addr, .int .i64 c.cost]
theorem pureLL_map {α : Type} {f : α → List AV} (h : ∀ x, pureL (f x) = true) : ∀ l : List α, pureLL (l.map f) = true
  | [] => rfl
  | x :: r => by simp only [List.map_cons, pureLL, h x, pureLL_map h r, Bool.and_self]
theorem pureLL_bytes : ∀ l : List UInt8, pureLL (byteCells l) = true := fun l => pureLL_map (f := fun b : UInt8 => [AV.int .u8 (b.toNat : Int)]) (fun _ => rfl) l
@[simp] theorem pure_encI (l : List Int) : pureLL (l.map encI) = true := pureLL_map (fun _ => rfl) l
@[simp] theorem pure_encU (l : List Int) : pureLL (l.map encU) = true := pureLL_map (fun _ => rfl) l
theorem Seg.pure (s : Seg) : pureL s.enc = true := by simp [Seg.enc, pureL, AV.pure]
@[simp] theorem pure_segs (l : List Seg) : pureLL (l.map Seg.enc) = true := pureLL_map Seg.pure l
theorem TLV.pure (s : TLV) : pureL s.enc = true := by simp [TLV.enc, pureL, AV.pure, pureLL_bytes]
@[simp] theorem pure_tlvs (l : List TLV) : pureLL (l.map TLV.enc) = true := pureLL_map TLV.pure l
@[simp] theorem Attrs.pure (s : Attrs) : pureL s.enc = true := by simp [Attrs.enc, pureL, AV.pure]
@[simp] theorem PVRoute.pure (s : PVRoute) : pureL s.enc = true := by simp [PVRoute.enc, pureL, AV.pure]
@[simp] theorem pure_routes (l : List PVRoute) : pureLL (l.map PVRoute.enc) = true := pureLL_map PVRoute.pure l
@[simp] theorem pure_igps (l : List IGP) : pureLL (l.map IGP.enc) = true := pureLL_map (fun _ => rfl) l
end Go.AM.IR
namespace Go.AM.IR
def okI (x : Int) : Prop := -9223372036854775808 ≤ x ∧ x ≤ 9223372036854775807
def okU (x : Int) : Prop := 0 ≤ x ∧ x ≤ 4294967295
theorem T_i64 {as : List AV} (h : Ty.T (.int .i64) as) : ∃ x, as = encI x ∧ okI x := by
  obtain ⟨n, rfl, h1, h2⟩ := h
  exact ⟨n, rfl, by simpa [IntKind.min, IntKind.max, IntKind.signed, IntKind.bits, okI] using And.intro h1 h2⟩
theorem T_u32 {as : List AV} (h : Ty.T (.int .u32) as) : ∃ x, as = encU x ∧ okU x := by
  obtain ⟨n, rfl, h1, h2⟩ := h
  exact ⟨n, rfl, by simpa [IntKind.min, IntKind.max, IntKind.signed, IntKind.bits, okU] using And.intro h1 h2⟩
structure Seg.ok (s : Seg) : Prop where
  kind : okI s.kind
  as : ∀ x ∈ s.as, okI x
structure TLV.ok (s : TLV) : Prop where
  kind : okI s.kind
structure IGP.ok (s : IGP) : Prop where
  addr : okU s.addr
  cost : okI s.cost
structure Attrs.ok (a : Attrs) : Prop where
  origin : okI a.origin
  path : ∀ s ∈ a.path, s.ok
  nextHop : okU a.nextHop
  med : okI a.med
  pref : okI a.pref
  aggrAS : okI a.aggrAS
  aggrAddr : okU a.aggrAddr
  comms : ∀ x ∈ a.comms, okU x
  orig : okU a.orig
  clusters : ∀ x ∈ a.clusters, okU x
  unknown : ∀ x ∈ a.unknown, x.ok
structure PVRoute.ok (r : PVRoute) : Prop where
  paddr : okU r.paddr
  plen : okI r.plen
  attrs : r.attrs.ok
  peer : okI r.peer
  kind : okI r.kind
  router : okU r.router
end Go.AM.IR
namespace Go.AM.IR
structure Pfx where
  addr : Int
  len : Int
  deriving DecidableEq
def Pfx.enc (p : Pfx) : List AV := [.int .u32 p.addr, .int .i64 p.len]
structure Cap where
  code : Int
  value : List UInt8
  deriving DecidableEq
def Cap.enc (p : Cap) : List AV := [.int .i64 p.code, .sl 1 (byteCells p.value)]
structure PMsg where
  kind : Int
  version : Int
  as : Int
  hold : Int
  router : Int
  caps : List Cap
  withdrawn : List Pfx
  attrs : Attrs
  reach : List Pfx
  code : Int
  sub : Int
  data : List UInt8
def PMsg.enc (m : PMsg) : List AV := [.int .i64 m.kind, .int .i64 m.version, .int .i64 m.as, .int .i64 m.hold, .int .u32 m.router, .sl 2 (m.caps.map Cap.enc), .sl 2 (m.withdrawn.map Pfx.enc),
  .int .i64 m.attrs.origin, .sl 2 (m.attrs.path.map Seg.enc), .int .u32 m.attrs.nextHop, .bool m.attrs.hasMED, .int .i64 m.attrs.med, .bool m.attrs.hasPref, .int .i64 m.attrs.pref, .bool m.attrs.atomic, .bool m.attrs.hasAggr, .int .i64 m.attrs.aggrAS, .int .u32 m.attrs.aggrAddr,
  .sl 1 (m.attrs.comms.map encU), .bool m.attrs.hasOrig, .int .u32 m.attrs.orig, .sl 1 (m.attrs.clusters.map encU), .sl 2 (m.attrs.unknown.map TLV.enc),
  .sl 2 (m.reach.map Pfx.enc), .int .i64 m.code, .int .i64 m.sub, .sl 1 (byteCells m.data)]
structure Peer where
  kind : Int
  as : Int
  addr : Int
  loc : Int
  client : Bool
  hold : Int
  restart : Int
  imp : List UInt8
  exp : List UInt8
  nextSelf : Bool
  damp : Bool
def Peer.enc (p : Peer) : List AV := [.int .i64 p.kind, .int .i64 p.as, .int .u32 p.addr, .int .u32 p.loc, .bool p.client, .int .i64 p.hold, .int .i64 p.restart, .str p.imp, .str p.exp, .bool p.nextSelf, .bool p.damp]
structure Conf where
  as : Int
  confed : Int
  router : Int
  cluster : Int
  peers : List Peer
  nets : AV
  p1 : AV
  p2 : AV
  p3 : AV
  p4 : AV
  d1 : Int
  d2 : Int
  d3 : Int
  d4 : Int
  multi : Int
def Conf.enc (c : Conf) : List AV := [.int .i64 c.as, .int .i64 c.confed, .int .u32 c.router, .int .u32 c.cluster, .sl 11 (c.peers.map Peer.enc), c.nets, c.p1, c.p2, c.p3, c.p4, .int .i64 c.d1, .int .i64 c.d2, .int .i64 c.d3, .int .i64 c.d4, .int .i64 c.multi]
structure Ses where
  state : Int
  retry : Int
  hold : Int
  keep : Int
  holdTime : Int
  router : Int
  restart : Int
  refresh : Bool
  untl : Int
def Ses.enc (s : Ses) : List AV := [.int .i64 s.state, .int .i64 s.retry, .int .i64 s.hold, .int .i64 s.keep, .int .i64 s.holdTime, .int .u32 s.router, .int .i64 s.restart, .bool s.refresh, .int .i64 s.untl]
structure Act where
  kind : Int
  msg : PMsg
def Act.enc (a : Act) : List AV := .int .i64 a.kind :: a.msg.enc
theorem Pfx.pure (s : Pfx) : pureL s.enc = true := rfl
@[simp] theorem pure_pfxs (l : List Pfx) : pureLL (l.map Pfx.enc) = true := pureLL_map Pfx.pure l
theorem Cap.pure (s : Cap) : pureL s.enc = true := by simp [Cap.enc, pureL, AV.pure, pureLL_bytes]
@[simp] theorem pure_caps (l : List Cap) : pureLL (l.map Cap.enc) = true := pureLL_map Cap.pure l
@[simp] theorem PMsg.pure (s : PMsg) : pureL s.enc = true := by simp [PMsg.enc, pureL, AV.pure, pureLL_bytes]
theorem Peer.pure (s : Peer) : pureL s.enc = true := rfl
@[simp] theorem pure_peers (l : List Peer) : pureLL (l.map Peer.enc) = true := pureLL_map Peer.pure l
@[simp] theorem Ses.pure (s : Ses) : pureL s.enc = true := rfl
@[simp] theorem Act.pure (s : Act) : pureL s.enc = true := by simp [Act.enc, pureL, AV.pure]
@[simp] theorem pure_acts (l : List Act) : pureLL (l.map Act.enc) = true := pureLL_map Act.pure l
structure Conf.ok (c : Conf) : Prop where
  nets : c.nets.pure = true
  p1 : c.p1.pure = true
  p2 : c.p2.pure = true
  p3 : c.p3.pure = true
  p4 : c.p4.pure = true
  as : okI c.as
  confed : okI c.confed
  router : okU c.router
  peers : ∀ p ∈ c.peers, okI p.as ∧ okI p.hold ∧ okI p.restart ∧ okI p.kind
  len : c.peers.length ≤ maxLen
theorem Conf.pure {c : Conf} (h : c.ok) : pureL c.enc = true := by simp [Conf.enc, pureL, AV.pure, h.nets, h.p1, h.p2, h.p3, h.p4]
def tPfx : Ty := .st [.int .u32, .int .i64]
structure Pfx.ok (p : Pfx) : Prop where
  addr : okU p.addr
  len : okI p.len
theorem T_pfx {as : List AV} (h : tPfx.T as) : ∃ s : Pfx, as = s.enc ∧ s.ok := by
  simp only [tPfx, Ty.T.eq_5, TT] at h
  obtain ⟨a1, b1, rfl, h1, a2, b2, rfl, h2, rfl⟩ := h
  obtain ⟨x1, rfl, k1⟩ := T_u32 h1
  obtain ⟨x2, rfl, k2⟩ := T_i64 h2
  exact ⟨⟨x1, x2⟩, rfl, k1, k2⟩
structure PMsg.ok (m : PMsg) : Prop where
  kind : okI m.kind
  version : okI m.version
  as : okI m.as
  hold : okI m.hold
  router : okU m.router
  caps : ∀ c ∈ m.caps, okI c.code
  withdrawn : ∀ p ∈ m.withdrawn, p.ok
  attrs : m.attrs.ok
  reach : ∀ p ∈ m.reach, p.ok
  code : okI m.code
  sub : okI m.sub
theorem T_str {as : List AV} (h : Ty.T .str as) : ∃ s, as = [.str s] := by
  obtain ⟨s, rfl, _⟩ := h; exact ⟨s, rfl⟩
structure Ses.ok (s : Ses) : Prop where
  state : okI s.state
  retry : okI s.retry
  hold : okI s.hold
  keep : okI s.keep
  holdTime : okI s.holdTime
  router : okU s.router
  restart : okI s.restart
  untl : okI s.untl
end Go.AM.IR
set_option maxHeartbeats 4000000
set_option maxRecDepth 20000
namespace Go.AM.IR
def keepN (x n : Nat) : Nat := x / 2 ^ (32 - n) * 2 ^ (32 - n)
def maskN (n : Nat) : Nat := 4294967296 - 2 ^ (32 - n)
theorem keepN_bit (x n j : Nat) (hn : n ≤ 32) : (keepN x n).testBit j = (decide (32 - n ≤ j) && x.testBit j) := by
  unfold keepN
  rw [Nat.testBit_mul_two_pow]
  by_cases h : 32 - n ≤ j
  · simp only [h, decide_true, Bool.true_and]
    rw [Nat.testBit_div_two_pow]; congr 1; omega
  · simp [h]
theorem maskN_eq (n : Nat) (hn : n ≤ 32) : maskN n = (2 ^ n - 1) * 2 ^ (32 - n) := by
  unfold maskN
  rw [Nat.sub_mul, ← Nat.pow_add, show n + (32 - n) = 32 by omega]; omega
theorem maskN_bit (n j : Nat) (hn : n ≤ 32) : (maskN n).testBit j = (decide (32 - n ≤ j) && decide (j < 32)) := by
  rw [maskN_eq n hn, Nat.testBit_mul_two_pow, Nat.testBit_two_pow_sub_one]
  by_cases h : 32 - n ≤ j
  · simp only [h, decide_true, Bool.true_and]
    congr 1; simp; omega
  · simp [h]
theorem and_mask (x n : Nat) (hx : x < 4294967296) (hn : n ≤ 32) : x &&& maskN n = keepN x n := by
  apply Nat.eq_of_testBit_eq
  intro j
  rw [Nat.testBit_and, keepN_bit x n j hn, maskN_bit n j hn]
  by_cases hj : j < 32
  · simp [hj, Bool.and_comm]
  · have : x.testBit j = false := Nat.testBit_lt_two_pow (Nat.lt_of_lt_of_le hx (by rw [show 4294967296 = 2 ^ 32 from rfl]; exact Nat.pow_le_pow_right (by omega) (by omega)))
    simp [this]
theorem keepN_le (x n : Nat) : keepN x n ≤ x := Nat.div_mul_le_self _ _
def clampN (n : Int) : Nat := if n ≤ 0 then 0 else if n ≤ 32 then n.toNat else 32
theorem clampN_le (n : Int) : clampN n ≤ 32 := by
  unfold clampN
  repeat' split
  all_goals omega
section
variable {k : AV → Prop}
theorem wrapU32 (r : Nat) (hr : r < 4294967296) : IntKind.wrap .u32 (r : Int) = (r : Int) := by
  simp [IntKind.wrap, IntKind.signed, IntKind.bits]; omega
theorem ofInt32 (a : Nat) (ha : a < 4294967296) : (BitVec.ofInt 32 (a : Int)).toNat = a := by
  rw [BitVec.toNat_ofInt]; omega
theorem and_u32 (a b : Nat) (ha : a < 4294967296) (hb : b < 4294967296) : intBits .and .u32 (a : Int) (b : Int) = ((a &&& b : Nat) : Int) := by
  have hl : a &&& b < 4294967296 := Nat.lt_of_le_of_lt Nat.and_le_left ha
  show IntKind.wrap .u32 (((BitVec.ofInt 32 (a : Int) &&& BitVec.ofInt 32 (b : Int)).toNat : Nat) : Int) = _
  rw [BitVec.toNat_and, ofInt32 a ha, ofInt32 b hb]; exact wrapU32 _ hl
theorem or_u32 (a b : Nat) (ha : a < 4294967296) (hb : b < 4294967296) : intBits .or .u32 (a : Int) (b : Int) = ((a ||| b : Nat) : Int) := by
  have hl : a ||| b < 4294967296 := Nat.or_lt_two_pow (n := 32) ha hb
  show IntKind.wrap .u32 (((BitVec.ofInt 32 (a : Int) ||| BitVec.ofInt 32 (b : Int)).toNat : Nat) : Int) = _
  rw [BitVec.toNat_or, ofInt32 a ha, ofInt32 b hb]; exact wrapU32 _ hl
theorem zAnd32 {a b : Nat} (h : k (.int .u32 ((a &&& b : Nat) : Int))) (ha : a < 4294967296 := by omega) (hb : b < 4294967296 := by omega) : ∃ v, binA .and (.int .u32 (a : Int)) (.int .u32 (b : Int)) = some v ∧ k v := ⟨_, by show some (AV.int .u32 (intBits .and .u32 _ _)) = _; rw [and_u32 a b ha hb], h⟩
theorem zMask {n : Nat} {j : Int} (h : k (.int .u32 ((maskN n : Nat) : Int))) (hj : j = 32 - (n : Int)) (hn : n ≤ 32) : ∃ v, binA .shl (.int .u32 4294967295) (.int .i64 j) = some v ∧ k v := by
  refine ⟨_, ?_, h⟩
  show (if j < 0 then none else some (AV.int .u32 (IntKind.wrap .u32 (4294967295 * 2 ^ (min j.toNat 32))))) = _
  rw [if_neg (by omega), show min j.toNat 32 = 32 - n by omega]
  have h1 : (2 : Nat) ^ (32 - n) ≤ 2 ^ 32 := Nat.pow_le_pow_right (by omega) (by omega)
  have h2 : 0 < (2 : Nat) ^ (32 - n) := Nat.pow_pos (by omega)
  have e : (4294967295 * 2 ^ (32 - n) : Int) = ((maskN n : Nat) : Int) + 4294967296 * ((2 ^ (32 - n) - 1 : Nat) : Int) := by
    unfold maskN
    have : ((2 ^ (32 - n) : Nat) : Int) = (2 : Int) ^ (32 - n) := by simp
    rw [← this]; omega
  congr 2
  rw [e]
  have h3 : maskN n < 4294967296 := by unfold maskN; omega
  simp [IntKind.wrap, IntKind.signed, IntKind.bits]; omega
end
end Go.AM.IR
set_option maxHeartbeats 4000000
set_option maxRecDepth 20000
namespace Go.AM.IR
theorem clamp_gives186 (n : Int) : Gives G 186 [.int .i64 n, .int .i64 32] [] ⟨.int .i64 (clampN n : Nat), []⟩ := by
  by_cases h0 : n ≤ 0
  · rw [show clampN n = 0 from by simp [clampN, h0]]
    by_cases h1 : n = 0
    · subst h1
      refine gives_code (F := f186) rfl rfl (W_ok 300 _ _ _ _ ?_)
      repeat' ((conv => whnf); first | refine bslP (by first | rfl | (simp [pureL, pureLL, AV.pure]; done) | fail) rfl ?_ | refine TakeC.full (by first | rfl | omega | (simp; done) | (simp; omega) | fail) ?_ | refine zBs ?_ | refine zBn ?_ | refine zBv rfl rfl ?_ | refine zN ?_ | refine zC ?_ | refine zC4 ?_ | refine zOr16 ?_ | refine zC1 ?_ | refine zByte ?_ | refine zMaxL ?_ | refine zMaxR ?_ | refine zMinL ?_ | refine zMinR ?_ | refine zShr ?_ | refine zC8 ?_ | refine zQ ?_ | refine zR ?_ | refine zS ?_ | refine zA ?_ | refine zM ?_ | refine xr rfl ?_ | refine ai rfl ?_ | refine condT ?_ | refine condF ?_ | refine condG1 ?_ | refine condG0 ?_ | refine cD ?_ | refine dD ?_ | refine cB ?_ | refine dB ?_ | refine cN ?_ | refine dN ?_ | refine cV ?_ | refine dV ?_ | refine cE ?_ | refine dE ?_ | refine condX0 ?_ | refine condX1 ?_ | refine condNot ?_ | refine condAnd ?_ | refine condOr ?_ | refine aO ?_ | refine aB ?_ | refine aR ?_ | refine aR ?_ (by simp; omega) | refine xr (by assumption) ?_ | refine ai (by assumption) ?_ | refine condD (fun h => ?_) (fun h => ?_) | refine condB (fun h => ?_) (fun h => ?_) | refine condN (fun h => ?_) (fun h => ?_) | refine condE (fun h => ?_) (fun h => ?_) | refine condV (fun h => ?_) (fun h => ?_))
      (first | refine ev_fin (And.intro (by first | rfl | (simp [AV.pure, pureL]; done) | fail) ?_) | refine ev_fin0 (And.intro (by first | rfl | (simp [AV.pure, pureL]; done) | fail) ?_)); rfl
    · have h2 : n < 0 := by omega
      refine gives_code (F := f186) rfl rfl (W_ok 300 _ _ _ _ ?_)
      repeat' ((conv => whnf); first | refine bslP (by first | rfl | (simp [pureL, pureLL, AV.pure]; done) | fail) rfl ?_ | refine TakeC.full (by first | rfl | omega | (simp; done) | (simp; omega) | fail) ?_ | refine zBs ?_ | refine zBn ?_ | refine zBv rfl rfl ?_ | refine zN ?_ | refine zC ?_ | refine zC4 ?_ | refine zOr16 ?_ | refine zC1 ?_ | refine zByte ?_ | refine zMaxL ?_ | refine zMaxR ?_ | refine zMinL ?_ | refine zMinR ?_ | refine zShr ?_ | refine zC8 ?_ | refine zQ ?_ | refine zR ?_ | refine zS ?_ | refine zA ?_ | refine zM ?_ | refine xr rfl ?_ | refine ai rfl ?_ | refine condT ?_ | refine condF ?_ | refine condG1 ?_ | refine condG0 ?_ | refine cD ?_ | refine dD ?_ | refine cB ?_ | refine dB ?_ | refine cN ?_ | refine dN ?_ | refine cV ?_ | refine dV ?_ | refine cE ?_ | refine dE ?_ | refine condX0 ?_ | refine condX1 ?_ | refine condNot ?_ | refine condAnd ?_ | refine condOr ?_ | refine aO ?_ | refine aB ?_ | refine aR ?_ | refine aR ?_ (by simp; omega) | refine xr (by assumption) ?_ | refine ai (by assumption) ?_ | refine condD (fun h => ?_) (fun h => ?_) | refine condB (fun h => ?_) (fun h => ?_) | refine condN (fun h => ?_) (fun h => ?_) | refine condE (fun h => ?_) (fun h => ?_) | refine condV (fun h => ?_) (fun h => ?_))
      (first | refine ev_fin (And.intro (by first | rfl | (simp [AV.pure, pureL]; done) | fail) ?_) | refine ev_fin0 (And.intro (by first | rfl | (simp [AV.pure, pureL]; done) | fail) ?_)); first | rfl | (simp [h2])
  · by_cases h1 : n ≤ 32
    · rw [show ((clampN n : Nat) : Int) = n from by simp [clampN, h0, h1]; omega]
      refine gives_code (F := f186) rfl rfl (W_ok 300 _ _ _ _ ?_)
      repeat' ((conv => whnf); first | refine bslP (by first | rfl | (simp [pureL, pureLL, AV.pure]; done) | fail) rfl ?_ | refine TakeC.full (by first | rfl | omega | (simp; done) | (simp; omega) | fail) ?_ | refine zBs ?_ | refine zBn ?_ | refine zBv rfl rfl ?_ | refine zN ?_ | refine zC ?_ | refine zC4 ?_ | refine zOr16 ?_ | refine zC1 ?_ | refine zByte ?_ | refine zMaxL ?_ | refine zMaxR ?_ | refine zMinL ?_ | refine zMinR ?_ | refine zShr ?_ | refine zC8 ?_ | refine zQ ?_ | refine zR ?_ | refine zS ?_ | refine zA ?_ | refine zM ?_ | refine xr rfl ?_ | refine ai rfl ?_ | refine condT ?_ | refine condF ?_ | refine condG1 ?_ | refine condG0 ?_ | refine cD ?_ | refine dD ?_ | refine cB ?_ | refine dB ?_ | refine cN ?_ | refine dN ?_ | refine cV ?_ | refine dV ?_ | refine cE ?_ | refine dE ?_ | refine condX0 ?_ | refine condX1 ?_ | refine condNot ?_ | refine condAnd ?_ | refine condOr ?_ | refine aO ?_ | refine aB ?_ | refine aR ?_ | refine aR ?_ (by simp; omega) | refine xr (by assumption) ?_ | refine ai (by assumption) ?_ | refine condD (fun h => ?_) (fun h => ?_) | refine condB (fun h => ?_) (fun h => ?_) | refine condN (fun h => ?_) (fun h => ?_) | refine condE (fun h => ?_) (fun h => ?_) | refine condV (fun h => ?_) (fun h => ?_))
      (first | refine ev_fin (And.intro (by first | rfl | (simp [AV.pure, pureL]; done) | fail) ?_) | refine ev_fin0 (And.intro (by first | rfl | (simp [AV.pure, pureL]; done) | fail) ?_)); rfl
    · rw [show clampN n = 32 from by simp [clampN, h0, h1]]
      refine gives_code (F := f186) rfl rfl (W_ok 300 _ _ _ _ ?_)
      repeat' ((conv => whnf); first | refine bslP (by first | rfl | (simp [pureL, pureLL, AV.pure]; done) | fail) rfl ?_ | refine TakeC.full (by first | rfl | omega | (simp; done) | (simp; omega) | fail) ?_ | refine zBs ?_ | refine zBn ?_ | refine zBv rfl rfl ?_ | refine zN ?_ | refine zC ?_ | refine zC4 ?_ | refine zOr16 ?_ | refine zC1 ?_ | refine zByte ?_ | refine zMaxL ?_ | refine zMaxR ?_ | refine zMinL ?_ | refine zMinR ?_ | refine zShr ?_ | refine zC8 ?_ | refine zQ ?_ | refine zR ?_ | refine zS ?_ | refine zA ?_ | refine zM ?_ | refine xr rfl ?_ | refine ai rfl ?_ | refine condT ?_ | refine condF ?_ | refine condG1 ?_ | refine condG0 ?_ | refine cD ?_ | refine dD ?_ | refine cB ?_ | refine dB ?_ | refine cN ?_ | refine dN ?_ | refine cV ?_ | refine dV ?_ | refine cE ?_ | refine dE ?_ | refine condX0 ?_ | refine condX1 ?_ | refine condNot ?_ | refine condAnd ?_ | refine condOr ?_ | refine aO ?_ | refine aB ?_ | refine aR ?_ | refine aR ?_ (by simp; omega) | refine xr (by assumption) ?_ | refine ai (by assumption) ?_ | refine condD (fun h => ?_) (fun h => ?_) | refine condB (fun h => ?_) (fun h => ?_) | refine condN (fun h => ?_) (fun h => ?_) | refine condE (fun h => ?_) (fun h => ?_) | refine condV (fun h => ?_) (fun h => ?_))
      (first | refine ev_fin (And.intro (by first | rfl | (simp [AV.pure, pureL]; done) | fail) ?_) | refine ev_fin0 (And.intro (by first | rfl | (simp [AV.pure, pureL]; done) | fail) ?_)); rfl
theorem mask_gives183 (n : Int) : Gives G 183 [.int .i64 n] [] ⟨.int .u32 (maskN (clampN n) : Nat), []⟩ := by
  have hc := clamp_gives186 n
  have hl := clampN_le n
  generalize clampN n = c at *
  refine gives_code (F := f183) rfl rfl (W_ok 300 _ _ _ _ ?_)
  repeat' ((conv => whnf); first | refine zMask (n := c) ?_ (by omega) (by omega) | refine bslP (by first | rfl | (simp [pureL, pureLL, AV.pure]; done) | fail) rfl ?_ | refine TakeC.full (by first | rfl | omega | (simp; done) | (simp; omega) | fail) ?_ | refine zBs ?_ | refine zBn ?_ | refine zBv rfl rfl ?_ | refine zN ?_ | refine zC ?_ | refine zC4 ?_ | refine zOr16 ?_ | refine zC1 ?_ | refine zByte ?_ | refine zMaxL ?_ | refine zMaxR ?_ | refine zMinL ?_ | refine zMinR ?_ | refine zShr ?_ | refine zC8 ?_ | refine zQ ?_ | refine zR ?_ | refine zS ?_ | refine zA ?_ | refine zM ?_ | refine xr rfl ?_ | refine ai rfl ?_ | refine condT ?_ | refine condF ?_ | refine condG1 ?_ | refine condG0 ?_ | refine cD ?_ | refine dD ?_ | refine cB ?_ | refine dB ?_ | refine cN ?_ | refine dN ?_ | refine cV ?_ | refine dV ?_ | refine cE ?_ | refine dE ?_ | refine condX0 ?_ | refine condX1 ?_ | refine condNot ?_ | refine condAnd ?_ | refine condOr ?_ | refine aO ?_ | refine aB ?_ | refine aR ?_ | refine aR ?_ (by simp; omega) | refine xr (by assumption) ?_ | refine ai (by assumption) ?_ | refine kV (hc) ?_ | refine condD (fun h => ?_) (fun h => ?_) | refine condB (fun h => ?_) (fun h => ?_) | refine condN (fun h => ?_) (fun h => ?_) | refine condE (fun h => ?_) (fun h => ?_) | refine condV (fun h => ?_) (fun h => ?_))
  (first | refine ev_fin (And.intro (by first | rfl | (simp [AV.pure, pureL]; done) | fail) ?_) | refine ev_fin0 (And.intro (by first | rfl | (simp [AV.pure, pureL]; done) | fail) ?_)); rfl
theorem keep_gives181 (x : Nat) (n : Int) (hx : x < 4294967296) : Gives G 181 [.int .u32 (x : Int), .int .i64 n] [] ⟨.int .u32 (keepN x (clampN n) : Nat), []⟩ := by
  have hm := mask_gives183 n
  have hl := clampN_le n
  rw [← and_mask x (clampN n) hx hl]
  have hb : maskN (clampN n) < 4294967296 := by unfold maskN; have := Nat.pow_pos (n := 32 - clampN n) (show 0 < 2 by omega); omega
  generalize maskN (clampN n) = mk at *
  refine gives_code (F := f181) rfl rfl (W_ok 300 _ _ _ _ ?_)
  repeat' ((conv => whnf); first | refine zAnd32 ?_ hx hb | refine bslP (by first | rfl | (simp [pureL, pureLL, AV.pure]; done) | fail) rfl ?_ | refine TakeC.full (by first | rfl | omega | (simp; done) | (simp; omega) | fail) ?_ | refine zBs ?_ | refine zBn ?_ | refine zBv rfl rfl ?_ | refine zN ?_ | refine zC ?_ | refine zC4 ?_ | refine zOr16 ?_ | refine zC1 ?_ | refine zByte ?_ | refine zMaxL ?_ | refine zMaxR ?_ | refine zMinL ?_ | refine zMinR ?_ | refine zShr ?_ | refine zC8 ?_ | refine zQ ?_ | refine zR ?_ | refine zS ?_ | refine zA ?_ | refine zM ?_ | refine xr rfl ?_ | refine ai rfl ?_ | refine condT ?_ | refine condF ?_ | refine condG1 ?_ | refine condG0 ?_ | refine cD ?_ | refine dD ?_ | refine cB ?_ | refine dB ?_ | refine cN ?_ | refine dN ?_ | refine cV ?_ | refine dV ?_ | refine cE ?_ | refine dE ?_ | refine condX0 ?_ | refine condX1 ?_ | refine condNot ?_ | refine condAnd ?_ | refine condOr ?_ | refine aO ?_ | refine aB ?_ | refine aR ?_ | refine aR ?_ (by simp; omega) | refine xr (by assumption) ?_ | refine ai (by assumption) ?_ | refine kV (hm) ?_ | refine condD (fun h => ?_) (fun h => ?_) | refine condB (fun h => ?_) (fun h => ?_) | refine condN (fun h => ?_) (fun h => ?_) | refine condE (fun h => ?_) (fun h => ?_) | refine condV (fun h => ?_) (fun h => ?_))
  (first | refine ev_fin (And.intro (by first | rfl | (simp [AV.pure, pureL]; done) | fail) ?_) | refine ev_fin0 (And.intro (by first | rfl | (simp [AV.pure, pureL]; done) | fail) ?_)); rfl
def validP (p : Pfx) : Bool := decide (0 ≤ p.len ∧ p.len ≤ 32 ∧ (keepN p.addr.toNat p.len.toNat : Int) = p.addr)
theorem valid_gives178 (p : Pfx) (h : p.ok) : Gives G 178 [.agg p.enc] [] ⟨.bool (validP p), []⟩ := by
  obtain ⟨a, n⟩ := p
  obtain ⟨x, rfl⟩ : ∃ x : Nat, a = x := ⟨a.toNat, by have := h.addr; unfold okU at this; simp only at this; omega⟩
  have hx : x < 4294967296 := by have := h.addr; unfold okU at this; simp only at this; omega
  have hk := keep_gives181 x n hx
  have hkl := keepN_le x (clampN n)
  by_cases hn : 0 ≤ n ∧ n ≤ 32
  · obtain ⟨n0, n1⟩ := hn
    have hc : clampN n = n.toNat := by unfold clampN; repeat' split <;> omega
    rw [hc] at hk hkl
    by_cases hq : keepN x n.toNat = x
    · rw [show validP ⟨x, n⟩ = true from by simp [validP, n0, n1, hq]]
      rw [hq] at hk
      refine gives_code (F := f178) rfl rfl (W_ok 300 _ _ _ _ ?_)
      repeat' ((conv => whnf); first | refine bslP (by first | rfl | (simp [pureL, pureLL, AV.pure]; done) | fail) rfl ?_ | refine TakeC.full (by first | rfl | omega | (simp; done) | (simp; omega) | fail) ?_ | refine zBs ?_ | refine zBn ?_ | refine zBv rfl rfl ?_ | refine zN ?_ | refine zC ?_ | refine zC4 ?_ | refine zOr16 ?_ | refine zC1 ?_ | refine zByte ?_ | refine zMaxL ?_ | refine zMaxR ?_ | refine zMinL ?_ | refine zMinR ?_ | refine zShr ?_ | refine zC8 ?_ | refine zQ ?_ | refine zR ?_ | refine zS ?_ | refine zA ?_ | refine zM ?_ | refine xr rfl ?_ | refine ai rfl ?_ | refine condT ?_ | refine condF ?_ | refine condG1 ?_ | refine condG0 ?_ | refine cD ?_ | refine dD ?_ | refine cB ?_ | refine dB ?_ | refine cN ?_ | refine dN ?_ | refine cV ?_ | refine dV ?_ | refine cE ?_ | refine dE ?_ | refine condX0 ?_ | refine condX1 ?_ | refine condNot ?_ | refine condAnd ?_ | refine condOr ?_ | refine aO ?_ | refine aB ?_ | refine aR ?_ | refine aR ?_ (by simp; omega) | refine xr (by assumption) ?_ | refine ai (by assumption) ?_ | refine kV (hk) ?_ | refine condD (fun h => ?_) (fun h => ?_) | refine condB (fun h => ?_) (fun h => ?_) | refine condN (fun h => ?_) (fun h => ?_) | refine condE (fun h => ?_) (fun h => ?_) | refine condV (fun h => ?_) (fun h => ?_))
      (first | refine ev_fin (And.intro (by first | rfl | (simp [AV.pure, pureL]; done) | fail) ?_) | refine ev_fin0 (And.intro (by first | rfl | (simp [AV.pure, pureL]; done) | fail) ?_)); simp
    · rw [show validP ⟨x, n⟩ = false from by simp only [validP, decide_eq_false_iff_not]; intro hh; exact hq (by have := hh.2.2; simp only [Int.toNat_natCast] at this; omega)]
      have hq2 : ¬ ((keepN x n.toNat : Nat) : Int) = (x : Int) := by omega
      generalize keepN x n.toNat = kq at *
      refine gives_code (F := f178) rfl rfl (W_ok 300 _ _ _ _ ?_)
      repeat' ((conv => whnf); first | refine bslP (by first | rfl | (simp [pureL, pureLL, AV.pure]; done) | fail) rfl ?_ | refine TakeC.full (by first | rfl | omega | (simp; done) | (simp; omega) | fail) ?_ | refine zBs ?_ | refine zBn ?_ | refine zBv rfl rfl ?_ | refine zN ?_ | refine zC ?_ | refine zC4 ?_ | refine zOr16 ?_ | refine zC1 ?_ | refine zByte ?_ | refine zMaxL ?_ | refine zMaxR ?_ | refine zMinL ?_ | refine zMinR ?_ | refine zShr ?_ | refine zC8 ?_ | refine zQ ?_ | refine zR ?_ | refine zS ?_ | refine zA ?_ | refine zM ?_ | refine xr rfl ?_ | refine ai rfl ?_ | refine condT ?_ | refine condF ?_ | refine condG1 ?_ | refine condG0 ?_ | refine cD ?_ | refine dD ?_ | refine cB ?_ | refine dB ?_ | refine cN ?_ | refine dN ?_ | refine cV ?_ | refine dV ?_ | refine cE ?_ | refine dE ?_ | refine condX0 ?_ | refine condX1 ?_ | refine condNot ?_ | refine condAnd ?_ | refine condOr ?_ | refine aO ?_ | refine aB ?_ | refine aR ?_ | refine aR ?_ (by simp; omega) | refine xr (by assumption) ?_ | refine ai (by assumption) ?_ | refine kV (hk) ?_ | refine condD (fun h => ?_) (fun h => ?_) | refine condB (fun h => ?_) (fun h => ?_) | refine condN (fun h => ?_) (fun h => ?_) | refine condE (fun h => ?_) (fun h => ?_) | refine condV (fun h => ?_) (fun h => ?_))
      (first | refine ev_fin (And.intro (by first | rfl | (simp [AV.pure, pureL]; done) | fail) ?_) | refine ev_fin0 (And.intro (by first | rfl | (simp [AV.pure, pureL]; done) | fail) ?_)); simp [hq2]
  · rw [show validP ⟨x, n⟩ = false from by simp [validP]; omega]
    by_cases n0 : 0 ≤ n
    · have n1 : ¬ n ≤ 32 := by omega
      refine gives_code (F := f178) rfl rfl (W_ok 300 _ _ _ _ ?_)
      repeat' ((conv => whnf); first | refine bslP (by first | rfl | (simp [pureL, pureLL, AV.pure]; done) | fail) rfl ?_ | refine TakeC.full (by first | rfl | omega | (simp; done) | (simp; omega) | fail) ?_ | refine zBs ?_ | refine zBn ?_ | refine zBv rfl rfl ?_ | refine zN ?_ | refine zC ?_ | refine zC4 ?_ | refine zOr16 ?_ | refine zC1 ?_ | refine zByte ?_ | refine zMaxL ?_ | refine zMaxR ?_ | refine zMinL ?_ | refine zMinR ?_ | refine zShr ?_ | refine zC8 ?_ | refine zQ ?_ | refine zR ?_ | refine zS ?_ | refine zA ?_ | refine zM ?_ | refine xr rfl ?_ | refine ai rfl ?_ | refine condT ?_ | refine condF ?_ | refine condG1 ?_ | refine condG0 ?_ | refine cD ?_ | refine dD ?_ | refine cB ?_ | refine dB ?_ | refine cN ?_ | refine dN ?_ | refine cV ?_ | refine dV ?_ | refine cE ?_ | refine dE ?_ | refine condX0 ?_ | refine condX1 ?_ | refine condNot ?_ | refine condAnd ?_ | refine condOr ?_ | refine aO ?_ | refine aB ?_ | refine aR ?_ | refine aR ?_ (by simp; omega) | refine xr (by assumption) ?_ | refine ai (by assumption) ?_ | refine condD (fun h => ?_) (fun h => ?_) | refine condB (fun h => ?_) (fun h => ?_) | refine condN (fun h => ?_) (fun h => ?_) | refine condE (fun h => ?_) (fun h => ?_) | refine condV (fun h => ?_) (fun h => ?_))
      (first | refine ev_fin (And.intro (by first | rfl | (simp [AV.pure, pureL]; done) | fail) ?_) | refine ev_fin0 (And.intro (by first | rfl | (simp [AV.pure, pureL]; done) | fail) ?_)); rfl
    · refine gives_code (F := f178) rfl rfl (W_ok 300 _ _ _ _ ?_)
      repeat' ((conv => whnf); first | refine bslP (by first | rfl | (simp [pureL, pureLL, AV.pure]; done) | fail) rfl ?_ | refine TakeC.full (by first | rfl | omega | (simp; done) | (simp; omega) | fail) ?_ | refine zBs ?_ | refine zBn ?_ | refine zBv rfl rfl ?_ | refine zN ?_ | refine zC ?_ | refine zC4 ?_ | refine zOr16 ?_ | refine zC1 ?_ | refine zByte ?_ | refine zMaxL ?_ | refine zMaxR ?_ | refine zMinL ?_ | refine zMinR ?_ | refine zShr ?_ | refine zC8 ?_ | refine zQ ?_ | refine zR ?_ | refine zS ?_ | refine zA ?_ | refine zM ?_ | refine xr rfl ?_ | refine ai rfl ?_ | refine condT ?_ | refine condF ?_ | refine condG1 ?_ | refine condG0 ?_ | refine cD ?_ | refine dD ?_ | refine cB ?_ | refine dB ?_ | refine cN ?_ | refine dN ?_ | refine cV ?_ | refine dV ?_ | refine cE ?_ | refine dE ?_ | refine condX0 ?_ | refine condX1 ?_ | refine condNot ?_ | refine condAnd ?_ | refine condOr ?_ | refine aO ?_ | refine aB ?_ | refine aR ?_ | refine aR ?_ (by simp; omega) | refine xr (by assumption) ?_ | refine ai (by assumption) ?_ | refine condD (fun h => ?_) (fun h => ?_) | refine condB (fun h => ?_) (fun h => ?_) | refine condN (fun h => ?_) (fun h => ?_) | refine condE (fun h => ?_) (fun h => ?_) | refine condV (fun h => ?_) (fun h => ?_))
      (first | refine ev_fin (And.intro (by first | rfl | (simp [AV.pure, pureL]; done) | fail) ?_) | refine ev_fin0 (And.intro (by first | rfl | (simp [AV.pure, pureL]; done) | fail) ?_)); rfl
end Go.AM.IR
set_option maxHeartbeats 4000000
set_option maxRecDepth 20000
namespace Go.AM.IR
end Go.AM.IR
namespace Go.AM.IR
end Go.AM.IR
set_option maxHeartbeats 4000000
set_option maxRecDepth 20000
namespace Go.AM.IR
theorem lives226_gives : Gives G 226 [] [] ⟨.bool true, []⟩ := gives_run 100000 rfl rfl (by kernel_rfl)
end Go.AM.IR
set_option maxHeartbeats 4000000
set_option maxRecDepth 20000
namespace Go.AM.IR
theorem nat_of {a : Int} (h : okU a) : a = (a.toNat : Nat) ∧ a.toNat < 4294967296 := by unfold okU at h; omega
end Go.AM.IR
set_option maxHeartbeats 4000000
set_option maxRecDepth 20000
namespace Go.AM.IR
theorem validP_len {p : Pfx} (h : validP p = true) : 0 ≤ p.len ∧ p.len ≤ 32 := by
  unfold validP at h; rw [decide_eq_true_eq] at h; exact ⟨h.1, h.2.1⟩
end Go.AM.IR
set_option maxHeartbeats 4000000
set_option maxRecDepth 20000
namespace Go.AM.IR
end Go.AM.IR
set_option maxHeartbeats 4000000
set_option maxRecDepth 20000
namespace Go.AM.IR
end Go.AM.IR
set_option maxHeartbeats 4000000
set_option maxRecDepth 20000
namespace Go.AM.IR
end Go.AM.IR
set_option maxHeartbeats 4000000
set_option maxRecDepth 20000
namespace Go.AM.IR
section
variable {k : Eff → Prop} {x y : Opd} {g key : Nat} {hg : Nat → Option (Nat × Blk)}
end
end Go.AM.IR
namespace Go.AM.IR
open Go Go.AM
def dig (b : UInt8) : Bool := decide (48 ≤ b.toNat) && decide (b.toNat ≤ 57)
def dval (b : UInt8) : Nat := b.toNat - 48
def chk (n : Nat) : Bool := (itoaK n).all dig && (decide (1 ≤ (itoaK n).length) && (decide ((itoaK n).length ≤ 3) && ((itoaK n).length == 1 || (itoaK n).head? != some 48))) && (Lib.atoiAll (itoaK n) == .ok n) && ((itoaK n).foldl (fun a b => a * 10 + dval b) 0 == n)
theorem chk_all : (List.range 256).all chk = true := by decide +kernel
theorem chk_at {n : Nat} (h : n < 256) : chk n = true := List.all_eq_true.1 chk_all n (List.mem_range.2 h)
theorem itoa_dig {n : Nat} (h : n < 256) : ∀ b ∈ itoaK n, dig b = true := by
  have := chk_at h; simp only [chk, Bool.and_eq_true] at this; exact fun b hb => List.all_eq_true.1 this.1.1.1 b hb
theorem itoa_len {n : Nat} (h : n < 256) : 1 ≤ (itoaK n).length ∧ (itoaK n).length ≤ 3 := by
  have := chk_at h; simp only [chk, Bool.and_eq_true, decide_eq_true_eq] at this; exact ⟨this.1.1.2.1, this.1.1.2.2.1⟩
theorem atoi_itoa {n : Nat} (h : n < 256) : Lib.atoiAll (itoaK n) = .ok (n : Int) := by
  have := chk_at h; simp only [chk, Bool.and_eq_true, beq_iff_eq] at this; exact this.1.2
theorem index_hit (c : UInt8) : ∀ (a r : List UInt8), c ∉ a → Lib.index (a ++ c :: r) [c] = a.length
  | [], r, _ => by simp [Lib.index]
  | x :: a, r, h => by
    have hx : x ≠ c := fun e => h (by simp [e])
    have ih := index_hit c a r (fun q => h (by simp [q]))
    rw [List.cons_append, Lib.index, ih]
    have h1 : ([c].isPrefixOf (x :: (a ++ c :: r))) = false := by simp [List.isPrefixOf]; exact fun e => hx e.symm
    rw [h1]
    have h2 : (((a.length : Nat) : Int) == -1) = false := by rw [beq_eq_false_iff_ne]; omega
    simp [h2]
theorem index_none (c : UInt8) : ∀ (a : List UInt8), c ∉ a → Lib.index a [c] = -1
  | [], _ => by simp [Lib.index]
  | x :: a, h => by
    have hx : x ≠ c := fun e => h (by simp [e])
    have ih := index_none c a (fun q => h (by simp [q]))
    rw [Lib.index, ih]
    have h1 : ([c].isPrefixOf (x :: a)) = false := by simp [List.isPrefixOf]; exact fun e => hx e.symm
    rw [h1]; rfl
theorem sep_cases (c : UInt8) : ∀ s : List UInt8, c ∉ s ∨ ∃ a r, c ∉ a ∧ s = a ++ c :: r
  | [] => .inl (by simp)
  | x :: s => by
    by_cases hx : x = c
    · exact .inr ⟨[], s, by simp, by simp [hx]⟩
    · rcases sep_cases c s with h | ⟨a, r, h1, rfl⟩
      · exact .inl (by simp; exact ⟨fun e => hx e.symm, h⟩)
      · exact .inr ⟨x :: a, r, by simp; exact ⟨fun e => hx e.symm, h1⟩, rfl⟩
theorem cut_hit (c : UInt8) (a r : List UInt8) (h : c ∉ a) : Lib.cut (a ++ c :: r) [c] = (a, r, true) := by
  unfold Lib.cut
  rw [index_hit c a r h, if_pos (by omega)]
  simp
theorem cut_none (c : UInt8) (s : List UInt8) (h : c ∉ s) : Lib.cut s [c] = (s, [], false) := by
  unfold Lib.cut
  rw [index_none c s h, if_neg (by omega)]
theorem split_none (c : UInt8) (s : List UInt8) (h : c ∉ s) : Lib.split s [c] = [s] := by
  unfold Lib.split
  rw [Lib.count_miss (index_none c s h)]; rfl
theorem split_hit (c : UInt8) (a r : List UInt8) (h : c ∉ a) : Lib.split (a ++ c :: r) [c] = a :: Lib.split r [c] := by
  unfold Lib.split
  have hi := index_hit c a r h
  rw [Lib.count_hit (by simp) hi, Nat.add_comm 1, Lib.splitK, hi]
  have h2 : (((a.length : Nat) : Int) == -1) = false := by rw [beq_eq_false_iff_ne]; omega
  simp [h2]
def joinC (c : UInt8) : List (List UInt8) → List UInt8
  | [] => []
  | [x] => x
  | x :: y :: r => x ++ c :: joinC c (y :: r)
theorem split_ne (c : UInt8) (s : List UInt8) : Lib.split s [c] ≠ [] := by
  rcases sep_cases c s with h | ⟨a, r, h, rfl⟩
  · rw [split_none c s h]; simp
  · rw [split_hit c a r h]; simp
theorem join_split (c : UInt8) : ∀ (n : Nat) (s : List UInt8), s.length ≤ n → joinC c (Lib.split s [c]) = s
  | n, s, hn => by
    rcases sep_cases c s with h | ⟨a, r, h, rfl⟩
    · rw [split_none c s h]; rfl
    · rw [split_hit c a r h]
      cases n with
      | zero => simp at hn
      | succ n =>
        have ih := join_split c n r (by simp at hn; omega)
        cases hs : Lib.split r [c] with
        | nil => exact absurd hs (split_ne c r)
        | cons y t => rw [hs] at ih; simp only [joinC, ih]
theorem join_dots (x y z w : List UInt8) : Lib.join [x, y, z, w] [46] = x ++ 46 :: (y ++ 46 :: (z ++ 46 :: w)) := by
  simp [Lib.join, List.intercalate]
end Go.AM.IR
set_option maxHeartbeats 4000000
set_option maxRecDepth 20000
namespace Go.AM.IR
theorem itoa_gives246 {n : Int} (h0 : -9223372036854775808 ≤ n) (h1 : n ≤ 9223372036854775807) : Gives G 246 [.int .i64 n] [] ⟨.str (itoaK n), []⟩ := by
  show pItoa _ _ = _
  exact if_pos ⟨h0, h1⟩
def dots (x : Nat) : List UInt8 := itoaK (x / 16777216 : Nat) ++ 46 :: (itoaK (x / 65536 % 256 : Nat) ++ 46 :: (itoaK (x / 256 % 256 : Nat) ++ 46 :: itoaK (x % 256 : Nat)))
section
variable {k : AV → Prop} {q : IntKind}
theorem zShrC (m : Nat) {x : Nat} {j : Int} (h : k (.int .u32 ((x / m : Nat) : Int))) (hm : m = 2 ^ j.toNat) (h0 : 0 ≤ j) (h1 : j ≤ 32) : ∃ v, binA .shr (.int .u32 (x : Int)) (.int q j) = some v ∧ k v := by
  subst hm
  refine ⟨_, ?_, h⟩
  show (if j < 0 then none else some (AV.int .u32 ((x : Int).fdiv (2 ^ (min j.toNat 32))))) = _
  rw [if_neg (by omega), show min j.toNat 32 = j.toNat by omega]
  congr 2
  rw [Int.fdiv_eq_ediv_of_nonneg _ (by exact Int.le_of_lt (Int.pow_pos (by omega)))]
  simp
theorem zAnd255 {x : Nat} (h : k (.int .u32 ((x % 256 : Nat) : Int))) (hx : x < 4294967296) : ∃ v, binA .and (.int .u32 (x : Int)) (.int .u32 255) = some v ∧ k v :=
  ⟨_, by
    show some (AV.int .u32 (intBits .and .u32 (x : Int) ((255 : Nat) : Int))) = _
    rw [and_u32 x 255 hx (by omega), show (255 : Nat) = 2 ^ 8 - 1 from rfl, Nat.and_two_pow_sub_one_eq_mod], h⟩
theorem zCat {a b : List UInt8} (h : k (.str (a ++ b))) (hl : a.length + b.length < 2 ^ 62 := by first | omega | (simp; omega)) : ∃ v, binA .add (.str a) (.str b) = some v ∧ k v := ⟨_, if_pos hl, h⟩
end
theorem join_gives247 (a b c d : List UInt8) (h : a.length ≤ 3 ∧ b.length ≤ 3 ∧ c.length ≤ 3 ∧ d.length ≤ 3) : Gives G 247 [.sl 1 [[.str a], [.str b], [.str c], [.str d]], .str [46]] [] ⟨.str (a ++ 46 :: (b ++ 46 :: (c ++ 46 :: d))), []⟩ := by
  have hj := join_dots a b c d
  show pJoin [.sl 1 [[.str a], [.str b], [.str c], [.str d]], .str [46]] [] = _
  show (if [a, b, c, d].length ≤ 140737488355328 ∧ (Lib.join [a, b, c, d] [46]).length ≤ 140737488355328 then some (⟨.str (Lib.join [a, b, c, d] [46]), []⟩ : Ret) else none) = _
  rw [hj, if_pos]
  simp; omega
end Go.AM.IR
set_option maxHeartbeats 4000000
set_option maxRecDepth 20000
namespace Go.AM.IR
section
variable {k : Eff → Prop} {x y : Opd} {g key : Nat} {hg : Nat → Option (Nat × Blk)}
end
end Go.AM.IR
set_option maxHeartbeats 4000000
set_option maxRecDepth 20000
namespace Go.AM.IR
end Go.AM.IR
set_option maxHeartbeats 4000000
set_option maxRecDepth 20000
namespace Go.AM.IR
def val (n : Nat) (ds : List UInt8) : Nat := ds.foldl (fun a b => a * 10 + dval b) n
end Go.AM.IR
set_option maxHeartbeats 4000000
set_option maxRecDepth 20000
namespace Go.AM.IR
theorem zSlarr {k : Eff → Prop} {x : Opd} {g key kk gk n : Nat} {cs : List AV} {hg : Nat → Option (Nat × Blk)} (h : k { res := .vs key g n, wr := [(key, some (g, .vec 1 (cs.map fun c => [c]))), (kk, some (g, .vec 1 []))], rd := [kk] })
    (hk : hg kk = some (gk, .cells cs) := by rfl) (hn : cs.length = n := by rfl) (hne : kk ≠ key := by decide) : ∃ e, aopV (.slarr n 1 x none none none) g key [.ref kk gk 0] hg = some e ∧ k e := by
  refine ⟨_, ?_, h⟩
  simp [aopV, slarrV, hk, hn, hne]
theorem addr_loop4 (x : Nat) (t3 t2 t1 t0 R : List UInt8) (hx : x < 4294967296) (n3 : Gives G 246 [.int .i64 (x / 16777216 % 256 : Nat)] [] ⟨.str t3, []⟩) (n2 : Gives G 246 [.int .i64 (x / 65536 % 256 : Nat)] [] ⟨.str t2, []⟩) (n1 : Gives G 246 [.int .i64 (x / 256 % 256 : Nat)] [] ⟨.str t1, []⟩) (n0 : Gives G 246 [.int .i64 (x / 1 % 256 : Nat)] [] ⟨.str t0, []⟩) (ej : Gives G 247 [.sl 1 [[.str t3], [.str t2], [.str t1], [.str t0]], .str [46]] [] ⟨.str R, []⟩) (T : List (Nat × AV)) (H : Heap) (c g : Nat) :
   Ev G ⟨f227x7LH, ⟨(5, .int .i64 4) :: (3, .ref 67 g 0) :: (0, .int .u32 (x : Int)) :: T, (67, some (g, .cells [.str t3, .str t2, .str t1, .str t0])) :: H, c⟩, [.t 2], 0⟩ ⟨.str R, []⟩ := by
  refine ev_loop' (W_ok 300 _ _ _ _ ?_)
  repeat' ((conv => whnf); first | refine zSlarr ?_ | refine bslP (by first | rfl | (simp [pureL, pureLL, AV.pure]; done) | fail) rfl ?_ | refine TakeC.full (by first | rfl | omega | (simp; done) | (simp; omega) | fail) ?_ | refine zBs ?_ | refine zBn ?_ | refine zBv rfl rfl ?_ | refine zN ?_ | refine zC ?_ | refine zC4 ?_ | refine zOr16 ?_ | refine zC1 ?_ | refine zByte ?_ | refine zMaxL ?_ | refine zMaxR ?_ | refine zMinL ?_ | refine zMinR ?_ | refine zShr ?_ | refine zC8 ?_ | refine zQ ?_ | refine zR ?_ | refine zS ?_ | refine zA ?_ | refine zM ?_ | refine xr rfl ?_ | refine ai rfl ?_ | refine condT ?_ | refine condF ?_ | refine condG1 ?_ | refine condG0 ?_ | refine cD ?_ | refine dD ?_ | refine cB ?_ | refine dB ?_ | refine cN ?_ | refine dN ?_ | refine cV ?_ | refine dV ?_ | refine cE ?_ | refine dE ?_ | refine condX0 ?_ | refine condX1 ?_ | refine condNot ?_ | refine condAnd ?_ | refine condOr ?_ | refine aO ?_ | refine aB ?_ | refine aR ?_ | refine aR ?_ (by simp; omega) | refine xr (by assumption) ?_ | refine ai (by assumption) ?_ | refine kZ [(83, _, _)] ⟨rfl, pz trivial⟩ (ej) ?_ | refine condD (fun h => ?_) (fun h => ?_) | refine condB (fun h => ?_) (fun h => ?_) | refine condN (fun h => ?_) (fun h => ?_) | refine condE (fun h => ?_) (fun h => ?_) | refine condV (fun h => ?_) (fun h => ?_))
  (first | refine ev_fin (And.intro (by first | rfl | (simp [AV.pure, pureL]; done) | fail) ?_) | refine ev_fin0 (And.intro (by first | rfl | (simp [AV.pure, pureL]; done) | fail) ?_)); rfl
theorem addr_loop3 (x : Nat) (t3 t2 t1 t0 R : List UInt8) (hx : x < 4294967296) (n3 : Gives G 246 [.int .i64 (x / 16777216 % 256 : Nat)] [] ⟨.str t3, []⟩) (n2 : Gives G 246 [.int .i64 (x / 65536 % 256 : Nat)] [] ⟨.str t2, []⟩) (n1 : Gives G 246 [.int .i64 (x / 256 % 256 : Nat)] [] ⟨.str t1, []⟩) (n0 : Gives G 246 [.int .i64 (x / 1 % 256 : Nat)] [] ⟨.str t0, []⟩) (ej : Gives G 247 [.sl 1 [[.str t3], [.str t2], [.str t1], [.str t0]], .str [46]] [] ⟨.str R, []⟩) (T : List (Nat × AV)) (H : Heap) (c g : Nat) :
   Ev G ⟨f227x7LH, ⟨(5, .int .i64 3) :: (3, .ref 67 g 0) :: (0, .int .u32 (x : Int)) :: T, (67, some (g, .cells [.str t3, .str t2, .str t1, .str []])) :: H, c⟩, [.t 2], 0⟩ ⟨.str R, []⟩ := by
  refine ev_loop' (W_ok 300 _ _ _ _ ?_)
  repeat' ((conv => whnf); first | refine zShrC 1 ?_ (by rfl) (by omega) (by omega) | refine zAnd255 ?_ (by omega) | refine bslP (by first | rfl | (simp [pureL, pureLL, AV.pure]; done) | fail) rfl ?_ | refine TakeC.full (by first | rfl | omega | (simp; done) | (simp; omega) | fail) ?_ | refine zBs ?_ | refine zBn ?_ | refine zBv rfl rfl ?_ | refine zN ?_ | refine zC ?_ | refine zC4 ?_ | refine zOr16 ?_ | refine zC1 ?_ | refine zByte ?_ | refine zMaxL ?_ | refine zMaxR ?_ | refine zMinL ?_ | refine zMinR ?_ | refine zShr ?_ | refine zC8 ?_ | refine zQ ?_ | refine zR ?_ | refine zS ?_ | refine zA ?_ | refine zM ?_ | refine xr rfl ?_ | refine ai rfl ?_ | refine condT ?_ | refine condF ?_ | refine condG1 ?_ | refine condG0 ?_ | refine cD ?_ | refine dD ?_ | refine cB ?_ | refine dB ?_ | refine cN ?_ | refine dN ?_ | refine cV ?_ | refine dV ?_ | refine cE ?_ | refine dE ?_ | refine condX0 ?_ | refine condX1 ?_ | refine condNot ?_ | refine condAnd ?_ | refine condOr ?_ | refine aO ?_ | refine aB ?_ | refine aR ?_ | refine aR ?_ (by simp; omega) | refine xr (by assumption) ?_ | refine ai (by assumption) ?_ | refine kV (n0) ?_ | refine condD (fun h => ?_) (fun h => ?_) | refine condB (fun h => ?_) (fun h => ?_) | refine condN (fun h => ?_) (fun h => ?_) | refine condE (fun h => ?_) (fun h => ?_) | refine condV (fun h => ?_) (fun h => ?_))
  refine ev_keep [5, 3, 0] [67] ?_
  exact addr_loop4 x t3 t2 t1 t0 R hx n3 n2 n1 n0 ej _ _ _ _
theorem addr_loop2 (x : Nat) (t3 t2 t1 t0 R : List UInt8) (hx : x < 4294967296) (n3 : Gives G 246 [.int .i64 (x / 16777216 % 256 : Nat)] [] ⟨.str t3, []⟩) (n2 : Gives G 246 [.int .i64 (x / 65536 % 256 : Nat)] [] ⟨.str t2, []⟩) (n1 : Gives G 246 [.int .i64 (x / 256 % 256 : Nat)] [] ⟨.str t1, []⟩) (n0 : Gives G 246 [.int .i64 (x / 1 % 256 : Nat)] [] ⟨.str t0, []⟩) (ej : Gives G 247 [.sl 1 [[.str t3], [.str t2], [.str t1], [.str t0]], .str [46]] [] ⟨.str R, []⟩) (T : List (Nat × AV)) (H : Heap) (c g : Nat) :
   Ev G ⟨f227x7LH, ⟨(5, .int .i64 2) :: (3, .ref 67 g 0) :: (0, .int .u32 (x : Int)) :: T, (67, some (g, .cells [.str t3, .str t2, .str [], .str []])) :: H, c⟩, [.t 2], 0⟩ ⟨.str R, []⟩ := by
  refine ev_loop' (W_ok 300 _ _ _ _ ?_)
  repeat' ((conv => whnf); first | refine zShrC 256 ?_ (by rfl) (by omega) (by omega) | refine zAnd255 ?_ (by omega) | refine bslP (by first | rfl | (simp [pureL, pureLL, AV.pure]; done) | fail) rfl ?_ | refine TakeC.full (by first | rfl | omega | (simp; done) | (simp; omega) | fail) ?_ | refine zBs ?_ | refine zBn ?_ | refine zBv rfl rfl ?_ | refine zN ?_ | refine zC ?_ | refine zC4 ?_ | refine zOr16 ?_ | refine zC1 ?_ | refine zByte ?_ | refine zMaxL ?_ | refine zMaxR ?_ | refine zMinL ?_ | refine zMinR ?_ | refine zShr ?_ | refine zC8 ?_ | refine zQ ?_ | refine zR ?_ | refine zS ?_ | refine zA ?_ | refine zM ?_ | refine xr rfl ?_ | refine ai rfl ?_ | refine condT ?_ | refine condF ?_ | refine condG1 ?_ | refine condG0 ?_ | refine cD ?_ | refine dD ?_ | refine cB ?_ | refine dB ?_ | refine cN ?_ | refine dN ?_ | refine cV ?_ | refine dV ?_ | refine cE ?_ | refine dE ?_ | refine condX0 ?_ | refine condX1 ?_ | refine condNot ?_ | refine condAnd ?_ | refine condOr ?_ | refine aO ?_ | refine aB ?_ | refine aR ?_ | refine aR ?_ (by simp; omega) | refine xr (by assumption) ?_ | refine ai (by assumption) ?_ | refine kV (n1) ?_ | refine condD (fun h => ?_) (fun h => ?_) | refine condB (fun h => ?_) (fun h => ?_) | refine condN (fun h => ?_) (fun h => ?_) | refine condE (fun h => ?_) (fun h => ?_) | refine condV (fun h => ?_) (fun h => ?_))
  refine ev_keep [5, 3, 0] [67] ?_
  exact addr_loop3 x t3 t2 t1 t0 R hx n3 n2 n1 n0 ej _ _ _ _
theorem addr_loop1 (x : Nat) (t3 t2 t1 t0 R : List UInt8) (hx : x < 4294967296) (n3 : Gives G 246 [.int .i64 (x / 16777216 % 256 : Nat)] [] ⟨.str t3, []⟩) (n2 : Gives G 246 [.int .i64 (x / 65536 % 256 : Nat)] [] ⟨.str t2, []⟩) (n1 : Gives G 246 [.int .i64 (x / 256 % 256 : Nat)] [] ⟨.str t1, []⟩) (n0 : Gives G 246 [.int .i64 (x / 1 % 256 : Nat)] [] ⟨.str t0, []⟩) (ej : Gives G 247 [.sl 1 [[.str t3], [.str t2], [.str t1], [.str t0]], .str [46]] [] ⟨.str R, []⟩) (T : List (Nat × AV)) (H : Heap) (c g : Nat) :
   Ev G ⟨f227x7LH, ⟨(5, .int .i64 1) :: (3, .ref 67 g 0) :: (0, .int .u32 (x : Int)) :: T, (67, some (g, .cells [.str t3, .str [], .str [], .str []])) :: H, c⟩, [.t 2], 0⟩ ⟨.str R, []⟩ := by
  refine ev_loop' (W_ok 300 _ _ _ _ ?_)
  repeat' ((conv => whnf); first | refine zShrC 65536 ?_ (by rfl) (by omega) (by omega) | refine zAnd255 ?_ (by omega) | refine bslP (by first | rfl | (simp [pureL, pureLL, AV.pure]; done) | fail) rfl ?_ | refine TakeC.full (by first | rfl | omega | (simp; done) | (simp; omega) | fail) ?_ | refine zBs ?_ | refine zBn ?_ | refine zBv rfl rfl ?_ | refine zN ?_ | refine zC ?_ | refine zC4 ?_ | refine zOr16 ?_ | refine zC1 ?_ | refine zByte ?_ | refine zMaxL ?_ | refine zMaxR ?_ | refine zMinL ?_ | refine zMinR ?_ | refine zShr ?_ | refine zC8 ?_ | refine zQ ?_ | refine zR ?_ | refine zS ?_ | refine zA ?_ | refine zM ?_ | refine xr rfl ?_ | refine ai rfl ?_ | refine condT ?_ | refine condF ?_ | refine condG1 ?_ | refine condG0 ?_ | refine cD ?_ | refine dD ?_ | refine cB ?_ | refine dB ?_ | refine cN ?_ | refine dN ?_ | refine cV ?_ | refine dV ?_ | refine cE ?_ | refine dE ?_ | refine condX0 ?_ | refine condX1 ?_ | refine condNot ?_ | refine condAnd ?_ | refine condOr ?_ | refine aO ?_ | refine aB ?_ | refine aR ?_ | refine aR ?_ (by simp; omega) | refine xr (by assumption) ?_ | refine ai (by assumption) ?_ | refine kV (n2) ?_ | refine condD (fun h => ?_) (fun h => ?_) | refine condB (fun h => ?_) (fun h => ?_) | refine condN (fun h => ?_) (fun h => ?_) | refine condE (fun h => ?_) (fun h => ?_) | refine condV (fun h => ?_) (fun h => ?_))
  refine ev_keep [5, 3, 0] [67] ?_
  exact addr_loop2 x t3 t2 t1 t0 R hx n3 n2 n1 n0 ej _ _ _ _
theorem addr_loop0 (x : Nat) (t3 t2 t1 t0 R : List UInt8) (hx : x < 4294967296) (n3 : Gives G 246 [.int .i64 (x / 16777216 % 256 : Nat)] [] ⟨.str t3, []⟩) (n2 : Gives G 246 [.int .i64 (x / 65536 % 256 : Nat)] [] ⟨.str t2, []⟩) (n1 : Gives G 246 [.int .i64 (x / 256 % 256 : Nat)] [] ⟨.str t1, []⟩) (n0 : Gives G 246 [.int .i64 (x / 1 % 256 : Nat)] [] ⟨.str t0, []⟩) (ej : Gives G 247 [.sl 1 [[.str t3], [.str t2], [.str t1], [.str t0]], .str [46]] [] ⟨.str R, []⟩) (T : List (Nat × AV)) (H : Heap) (c g : Nat) :
   Ev G ⟨f227x7LH, ⟨(5, .int .i64 0) :: (3, .ref 67 g 0) :: (0, .int .u32 (x : Int)) :: T, (67, some (g, .cells [.str [], .str [], .str [], .str []])) :: H, c⟩, [.t 2], 0⟩ ⟨.str R, []⟩ := by
  refine ev_loop' (W_ok 300 _ _ _ _ ?_)
  repeat' ((conv => whnf); first | refine zShrC 16777216 ?_ (by rfl) (by omega) (by omega) | refine zAnd255 ?_ (by omega) | refine bslP (by first | rfl | (simp [pureL, pureLL, AV.pure]; done) | fail) rfl ?_ | refine TakeC.full (by first | rfl | omega | (simp; done) | (simp; omega) | fail) ?_ | refine zBs ?_ | refine zBn ?_ | refine zBv rfl rfl ?_ | refine zN ?_ | refine zC ?_ | refine zC4 ?_ | refine zOr16 ?_ | refine zC1 ?_ | refine zByte ?_ | refine zMaxL ?_ | refine zMaxR ?_ | refine zMinL ?_ | refine zMinR ?_ | refine zShr ?_ | refine zC8 ?_ | refine zQ ?_ | refine zR ?_ | refine zS ?_ | refine zA ?_ | refine zM ?_ | refine xr rfl ?_ | refine ai rfl ?_ | refine condT ?_ | refine condF ?_ | refine condG1 ?_ | refine condG0 ?_ | refine cD ?_ | refine dD ?_ | refine cB ?_ | refine dB ?_ | refine cN ?_ | refine dN ?_ | refine cV ?_ | refine dV ?_ | refine cE ?_ | refine dE ?_ | refine condX0 ?_ | refine condX1 ?_ | refine condNot ?_ | refine condAnd ?_ | refine condOr ?_ | refine aO ?_ | refine aB ?_ | refine aR ?_ | refine aR ?_ (by simp; omega) | refine xr (by assumption) ?_ | refine ai (by assumption) ?_ | refine kV (n3) ?_ | refine condD (fun h => ?_) (fun h => ?_) | refine condB (fun h => ?_) (fun h => ?_) | refine condN (fun h => ?_) (fun h => ?_) | refine condE (fun h => ?_) (fun h => ?_) | refine condV (fun h => ?_) (fun h => ?_))
  refine ev_keep [5, 3, 0] [67] ?_
  exact addr_loop1 x t3 t2 t1 t0 R hx n3 n2 n1 n0 ej _ _ _ _
theorem addr_gives227 (x : Nat) (hx : x < 4294967296) : Gives G 227 [.int .u32 (x : Int)] [] ⟨.str (dots x), []⟩ := by
  have n3 := itoa_gives246 (n := (x / 16777216 : Nat)) (by omega) (by omega)
  have n2 := itoa_gives246 (n := (x / 65536 % 256 : Nat)) (by omega) (by omega)
  have n1 := itoa_gives246 (n := (x / 256 % 256 : Nat)) (by omega) (by omega)
  have n0 := itoa_gives246 (n := (x % 256 : Nat)) (by omega) (by omega)
  have l3 := itoa_len (n := x / 16777216) (by omega)
  have l2 := itoa_len (n := x / 65536 % 256) (by omega)
  have l1 := itoa_len (n := x / 256 % 256) (by omega)
  have l0 := itoa_len (n := x % 256) (by omega)
  have ej := join_gives247 _ _ _ _ ⟨l3.2, l2.2, l1.2, l0.2⟩
  have n3 : Gives G 246 [.int .i64 (x / 16777216 % 256 : Nat)] [] ⟨.str (itoaK (x / 16777216 : Nat)), []⟩ := by rw [show x / 16777216 % 256 = x / 16777216 by omega]; exact n3
  have n0 : Gives G 246 [.int .i64 (x / 1 % 256 : Nat)] [] ⟨.str (itoaK (x % 256 : Nat)), []⟩ := by rw [Nat.div_one]; exact n0
  refine gives_code (F := f227) rfl rfl (W_ok 300 _ _ _ _ ?_)
  repeat' ((conv => whnf); first | refine bslP (by first | rfl | (simp [pureL, pureLL, AV.pure]; done) | fail) rfl ?_ | refine TakeC.full (by first | rfl | omega | (simp; done) | (simp; omega) | fail) ?_ | refine zBs ?_ | refine zBn ?_ | refine zBv rfl rfl ?_ | refine zN ?_ | refine zC ?_ | refine zC4 ?_ | refine zOr16 ?_ | refine zC1 ?_ | refine zByte ?_ | refine zMaxL ?_ | refine zMaxR ?_ | refine zMinL ?_ | refine zMinR ?_ | refine zShr ?_ | refine zC8 ?_ | refine zQ ?_ | refine zR ?_ | refine zS ?_ | refine zA ?_ | refine zM ?_ | refine xr rfl ?_ | refine ai rfl ?_ | refine condT ?_ | refine condF ?_ | refine condG1 ?_ | refine condG0 ?_ | refine cD ?_ | refine dD ?_ | refine cB ?_ | refine dB ?_ | refine cN ?_ | refine dN ?_ | refine cV ?_ | refine dV ?_ | refine cE ?_ | refine dE ?_ | refine condX0 ?_ | refine condX1 ?_ | refine condNot ?_ | refine condAnd ?_ | refine condOr ?_ | refine aO ?_ | refine aB ?_ | refine aR ?_ | refine aR ?_ (by simp; omega) | refine xr (by assumption) ?_ | refine ai (by assumption) ?_ | refine condD (fun h => ?_) (fun h => ?_) | refine condB (fun h => ?_) (fun h => ?_) | refine condN (fun h => ?_) (fun h => ?_) | refine condE (fun h => ?_) (fun h => ?_) | refine condV (fun h => ?_) (fun h => ?_))
  refine ev_keep [5, 3, 0] [67] ?_
  exact addr_loop0 x _ _ _ _ _ hx n3 n2 n1 n0 ej _ _ _ _
end Go.AM.IR
set_option maxHeartbeats 4000000
set_option maxRecDepth 20000
namespace Go.AM.IR
section
variable {kv : AV → Prop} {a b : Int}
end
end Go.AM.IR
set_option maxHeartbeats 4000000
set_option maxRecDepth 20000
namespace Go.AM.IR
def okA (p : Int × Int) : Ret := ⟨.tup [.int .u32 p.1, .int .i64 p.2], []⟩
def numV (s : List UInt8) : Int := match Lib.atoiAll s with
  | .ok v => v
  | .range => Lib.atoiSat s
  | _ => 0
def numB (most : Int) (s : List UInt8) : Bool := match Lib.atoiAll s with
  | .ok v => decide (0 ≤ v) && (decide (v ≤ most) && (itoaK v == s))
  | _ => false
theorem num_hit {k : Nat} {most : Int} (hk : k < 256) (hm : (k : Int) ≤ most) : numB most (itoaK k) = true ∧ numV (itoaK k) = k := by
  unfold numB numV
  rw [atoi_itoa hk]
  simp; omega
theorem num_back {most : Int} {s : List UInt8} (h : numB most s = true) : ∃ k : Nat, (k : Int) ≤ most ∧ s = itoaK k ∧ numV s = k := by
  unfold numB at h
  unfold numV
  cases hr : Lib.atoiAll s
  · rename_i v
    rw [hr] at h
    simp at h
    exact ⟨v.toNat, by omega, by rw [Int.toNat_of_nonneg h.1]; exact h.2.2.symm, by simp; omega⟩
  · rw [hr] at h; cases h
  · rw [hr] at h; cases h
def paL : List (List UInt8) → Nat → Int × Int
  | [], a => ((a : Int), 0)
  | w :: r, a => if numB 255 w = true then paL r (a * 256 + (numV w).toNat) else (0, 2)
def paP (s : List UInt8) : Int × Int := if (Lib.split s [46]).length = 4 then paL (Lib.split s [46]) 0 else (0, 2)
theorem not_dot {k : Nat} (hk : k < 256) (c : UInt8) (hc : dig c = false) : c ∉ itoaK k := fun h => by
  have := itoa_dig hk c h
  rw [hc] at this; cases this
theorem paP_hit {x : Nat} (hx : x < 4294967296) : paP (dots x) = ((x : Int), 0) := by
  have e : Lib.split (dots x) [46] = [itoaK (x / 16777216 : Nat), itoaK (x / 65536 % 256 : Nat), itoaK (x / 256 % 256 : Nat), itoaK (x % 256 : Nat)] := by
    unfold dots
    rw [split_hit 46 _ _ (not_dot (by omega) _ rfl), split_hit 46 _ _ (not_dot (by omega) _ rfl), split_hit 46 _ _ (not_dot (by omega) _ rfl), split_none 46 _ (not_dot (by omega) _ rfl)]
  unfold paP
  rw [e, if_pos (show [itoaK (x / 16777216 : Nat), itoaK (x / 65536 % 256 : Nat), itoaK (x / 256 % 256 : Nat), itoaK (x % 256 : Nat)].length = 4 from rfl)]
  have q3 := num_hit (k := x / 16777216) (most := 255) (by omega) (by omega)
  have q2 := num_hit (k := x / 65536 % 256) (most := 255) (by omega) (by omega)
  have q1 := num_hit (k := x / 256 % 256) (most := 255) (by omega) (by omega)
  have q0 := num_hit (k := x % 256) (most := 255) (by omega) (by omega)
  rw [paL, if_pos q3.1, paL, if_pos q2.1, paL, if_pos q1.1, paL, if_pos q0.1, paL, q3.2, q2.2, q1.2, q0.2]
  simp only [Int.toNat_natCast]
  refine Prod.ext ?_ rfl
  simp only; omega
theorem paL_all : ∀ (l : List (List UInt8)) (a : Nat), paL l a = (0, 2) ∨ ∃ ks : List Nat, (∀ k ∈ ks, k < 256) ∧ l = ks.map (fun k : Nat => itoaK (k : Int)) ∧ paL l a = (((ks.foldl (fun a k => a * 256 + k) a : Nat) : Int), 0)
  | [], a => .inr ⟨[], by simp, rfl, rfl⟩
  | w :: r, a => by
    by_cases h : numB 255 w = true
    · obtain ⟨k, hk, e, hv⟩ := num_back (most := 255) h
      rw [paL, if_pos h, hv, Int.toNat_natCast]
      rcases paL_all r (a * 256 + k) with q | ⟨ks, h1, h2, h3⟩
      · exact .inl q
      · exact .inr ⟨k :: ks, by intro j hj; rcases List.mem_cons.1 hj with rfl | hj; omega; exact h1 j hj, by rw [h2, e]; rfl, by rw [h3]; rfl⟩
    · left; rw [paL, if_neg h]
theorem paP_all (s : List UInt8) : paP s = (0, 2) ∨ ∃ x : Nat, x < 4294967296 ∧ s = dots x ∧ paP s = ((x : Int), 0) := by
  by_cases hl : (Lib.split s [46]).length = 4
  · unfold paP
    rw [if_pos hl]
    rcases paL_all (Lib.split s [46]) 0 with q | ⟨ks, h1, h2, h3⟩
    · exact .inl q
    · right
      rw [h3]
      have hj := join_split 46 s.length s (Nat.le_refl _)
      rw [h2] at hl hj
      match ks, h1, hl, hj with
      | [k0, k1, k2, k3], h1, _, hj =>
        have b0 := h1 k0 (by simp)
        have b1 := h1 k1 (by simp)
        have b2 := h1 k2 (by simp)
        have b3 := h1 k3 (by simp)
        have hx : (((0 * 256 + k0) * 256 + k1) * 256 + k2) * 256 + k3 < 4294967296 := by omega
        refine ⟨_, hx, ?_, rfl⟩
        rw [← hj]
        unfold dots
        rw [show ((((0 * 256 + k0) * 256 + k1) * 256 + k2) * 256 + k3) / 16777216 = k0 by omega, show ((((0 * 256 + k0) * 256 + k1) * 256 + k2) * 256 + k3) / 65536 % 256 = k1 by omega,
          show ((((0 * 256 + k0) * 256 + k1) * 256 + k2) * 256 + k3) / 256 % 256 = k2 by omega, show ((((0 * 256 + k0) * 256 + k1) * 256 + k2) * 256 + k3) % 256 = k3 by omega]
        rfl
      | [], _, hl, _ => simp at hl
      | [_], _, hl, _ => simp at hl
      | [_, _], _, hl, _ => simp at hl
      | [_, _, _], _, hl, _ => simp at hl
      | _ :: _ :: _ :: _ :: _ :: _, _, hl, _ => simp at hl
  · left; unfold paP; rw [if_neg hl]
def psV (x : Nat) (n : Int) : Pfx × Int := if validP ⟨(x : Int), n⟩ = true then (⟨(x : Int), n⟩, 0) else (⟨0, 0⟩, 1)
def psP (s : List UInt8) : Pfx × Int :=
  if (Lib.cut s [47]).2.2 = false ∨ ¬ (paP (Lib.cut s [47]).1).2 = 0 ∨ numB 32 (Lib.cut s [47]).2.1 = false then (⟨0, 0⟩, 2)
  else psV (paP (Lib.cut s [47]).1).1.toNat (numV (Lib.cut s [47]).2.1)
theorem not_slash {x : Nat} (hx : x < 4294967296) : (47 : UInt8) ∉ dots x := by
  unfold dots
  have h3 := not_dot (k := x / 16777216) (by omega) 47 rfl
  have h2 := not_dot (k := x / 65536 % 256) (by omega) 47 rfl
  have h1 := not_dot (k := x / 256 % 256) (by omega) 47 rfl
  have h0 := not_dot (k := x % 256) (by omega) 47 rfl
  simp only [List.mem_append, List.mem_cons, not_or]
  exact ⟨h3, by decide, h2, by decide, h1, by decide, h0⟩
def ptext (x n : Nat) : List UInt8 := dots x ++ 47 :: itoaK n
theorem psP_hit {x n : Nat} (hx : x < 4294967296) (hn : n ≤ 32) : psP (ptext x n) = psV x n := by
  unfold psP ptext
  have q := num_hit (k := n) (most := 32) (by omega) (by omega)
  rw [cut_hit 47 _ _ (not_slash hx), if_neg]
  · simp only
    rw [paP_hit hx, q.2]; simp
  · simp only
    rw [paP_hit hx]
    rintro (e | e | e)
    · cases e
    · exact e rfl
    · rw [q.1] at e; cases e
theorem psP_all (s : List UInt8) : psP s = (⟨0, 0⟩, 2) ∨ ∃ x n : Nat, x < 4294967296 ∧ n ≤ 32 ∧ s = ptext x n ∧ psP s = psV x n := by
  rcases sep_cases 47 s with h | ⟨a, r, h, e⟩
  · left; unfold psP; rw [cut_none 47 s h, if_pos (.inl rfl)]
  · rcases paP_all a with q | ⟨x, hx, ea, q⟩
    · left; unfold psP; rw [e, cut_hit 47 a r h, if_pos (.inr (.inl (by simp only; rw [q]; decide)))]
    · cases hb : numB 32 r
      · left; unfold psP; rw [e, cut_hit 47 a r h, if_pos (.inr (.inr hb))]
      · obtain ⟨n, hn, er, hv⟩ := num_back (most := 32) hb
        right
        refine ⟨x, n, hx, by omega, by rw [e, ea, er]; rfl, ?_⟩
        rw [e, ea, er]; exact psP_hit hx (by omega)
end Go.AM.IR
set_option maxHeartbeats 4000000
set_option maxRecDepth 20000
namespace Go.AM.IR
section
variable {k : Eff → Prop} {x y : Opd} {g key : Nat} {hg : Nat → Option (Nat × Blk)} {ka kb : IntKind} {a b : Int} {kv : AV → Prop}
theorem zSameP (h : k { res := .bool true }) : ∃ e, aopV (.eqs [.int, .int] false x y) g key [.agg [.int ka a, .int kb b], .agg [.int ka a, .int kb b]] hg = some e ∧ k e := ⟨_, by simp [aopV, eqL, scal], h⟩
theorem zSameI (h : kv (.bool true)) : ∃ v, binA .eql (.int ka a) (.int ka a) = some v ∧ kv v := ⟨_, by simp [binA], h⟩
end
end Go.AM.IR
set_option maxHeartbeats 4000000
set_option maxRecDepth 20000
namespace Go.AM.IR
section
variable {kv : AV → Prop}
theorem zEqT {a : List UInt8} (h : kv (.bool true)) : ∃ v, binA .eql (.str a) (.str a) = some v ∧ kv v := ⟨.bool true, by show some (AV.bool (a == a)) = _; simp, h⟩
theorem zEqS {a b : List UInt8} (h : kv (.bool (a == b))) : ∃ v, binA .eql (.str a) (.str b) = some v ∧ kv v := ⟨_, rfl, h⟩
end
theorem dots_len {x : Nat} (hx : x < 4294967296) : (dots x).length ≤ 15 := by
  have l3 := itoa_len (n := x / 16777216) (by omega)
  have l2 := itoa_len (n := x / 65536 % 256) (by omega)
  have l1 := itoa_len (n := x / 256 % 256) (by omega)
  have l0 := itoa_len (n := x % 256) (by omega)
  unfold dots
  simp only [List.length_append, List.length_cons]
  omega
theorem atoi_gives263 (s : List UInt8) (hs : s.length < 2 ^ 40) : Gives G 263 [.str s] [] (atoiR 116 s) := by
  show pAtoi 116 [.str s] [] = _
  exact if_pos (by omega)
theorem number_gives250 (s : List UInt8) (most : Int) (hs : s.length < 2 ^ 40) : Gives G 250 [.str s, .int .i64 most] [] ⟨.tup [.int .i64 (numV s), .bool (numB most s)], []⟩ := by
  have ha := atoi_gives263 s hs
  unfold atoiR at ha
  unfold numV numB
  cases hr : Lib.atoiAll s
  · rename_i v
    rw [hr] at ha
    simp only at ha ⊢
    obtain ⟨b0, b1⟩ := Lib.atoiAll_bounds hr
    have hi := itoa_gives246 b0 b1
    generalize itoaK v = t at *
    by_cases h0 : 0 ≤ v
    · by_cases h1 : v ≤ most
      · refine gives_code (F := f250) rfl rfl (W_ok 300 _ _ _ _ ?_)
        repeat' ((conv => whnf); first | refine zEqS ?_ | refine bslP (by first | rfl | (simp [pureL, pureLL, AV.pure]; done) | fail) rfl ?_ | refine TakeC.full (by first | rfl | omega | (simp; done) | (simp; omega) | fail) ?_ | refine zBs ?_ | refine zBn ?_ | refine zBv rfl rfl ?_ | refine zN ?_ | refine zC ?_ | refine zC4 ?_ | refine zOr16 ?_ | refine zC1 ?_ | refine zByte ?_ | refine zMaxL ?_ | refine zMaxR ?_ | refine zMinL ?_ | refine zMinR ?_ | refine zShr ?_ | refine zC8 ?_ | refine zQ ?_ | refine zR ?_ | refine zS ?_ | refine zA ?_ | refine zM ?_ | refine xr rfl ?_ | refine ai rfl ?_ | refine condT ?_ | refine condF ?_ | refine condG1 ?_ | refine condG0 ?_ | refine cD ?_ | refine dD ?_ | refine cB ?_ | refine dB ?_ | refine cN ?_ | refine dN ?_ | refine cV ?_ | refine dV ?_ | refine cE ?_ | refine dE ?_ | refine condX0 ?_ | refine condX1 ?_ | refine condNot ?_ | refine condAnd ?_ | refine condOr ?_ | refine aO ?_ | refine aB ?_ | refine aR ?_ | refine aR ?_ (by simp; omega) | refine xr (by assumption) ?_ | refine ai (by assumption) ?_ | refine callW (ha) ?_ | refine kV (hi) ?_ | refine condD (fun h => ?_) (fun h => ?_) | refine condB (fun h => ?_) (fun h => ?_) | refine condN (fun h => ?_) (fun h => ?_) | refine condE (fun h => ?_) (fun h => ?_) | refine condV (fun h => ?_) (fun h => ?_))
        (first | refine ev_fin (And.intro (by first | rfl | (simp [AV.pure, pureL]; done) | fail) ?_) | refine ev_fin0 (And.intro (by first | rfl | (simp [AV.pure, pureL]; done) | fail) ?_)); simp [h0, h1]
      · refine gives_code (F := f250) rfl rfl (W_ok 300 _ _ _ _ ?_)
        repeat' ((conv => whnf); first | refine zEqS ?_ | refine bslP (by first | rfl | (simp [pureL, pureLL, AV.pure]; done) | fail) rfl ?_ | refine TakeC.full (by first | rfl | omega | (simp; done) | (simp; omega) | fail) ?_ | refine zBs ?_ | refine zBn ?_ | refine zBv rfl rfl ?_ | refine zN ?_ | refine zC ?_ | refine zC4 ?_ | refine zOr16 ?_ | refine zC1 ?_ | refine zByte ?_ | refine zMaxL ?_ | refine zMaxR ?_ | refine zMinL ?_ | refine zMinR ?_ | refine zShr ?_ | refine zC8 ?_ | refine zQ ?_ | refine zR ?_ | refine zS ?_ | refine zA ?_ | refine zM ?_ | refine xr rfl ?_ | refine ai rfl ?_ | refine condT ?_ | refine condF ?_ | refine condG1 ?_ | refine condG0 ?_ | refine cD ?_ | refine dD ?_ | refine cB ?_ | refine dB ?_ | refine cN ?_ | refine dN ?_ | refine cV ?_ | refine dV ?_ | refine cE ?_ | refine dE ?_ | refine condX0 ?_ | refine condX1 ?_ | refine condNot ?_ | refine condAnd ?_ | refine condOr ?_ | refine aO ?_ | refine aB ?_ | refine aR ?_ | refine aR ?_ (by simp; omega) | refine xr (by assumption) ?_ | refine ai (by assumption) ?_ | refine callW (ha) ?_ | refine kV (hi) ?_ | refine condD (fun h => ?_) (fun h => ?_) | refine condB (fun h => ?_) (fun h => ?_) | refine condN (fun h => ?_) (fun h => ?_) | refine condE (fun h => ?_) (fun h => ?_) | refine condV (fun h => ?_) (fun h => ?_))
        (first | refine ev_fin (And.intro (by first | rfl | (simp [AV.pure, pureL]; done) | fail) ?_) | refine ev_fin0 (And.intro (by first | rfl | (simp [AV.pure, pureL]; done) | fail) ?_)); simp [h0, h1]
    · refine gives_code (F := f250) rfl rfl (W_ok 300 _ _ _ _ ?_)
      repeat' ((conv => whnf); first | refine zEqS ?_ | refine bslP (by first | rfl | (simp [pureL, pureLL, AV.pure]; done) | fail) rfl ?_ | refine TakeC.full (by first | rfl | omega | (simp; done) | (simp; omega) | fail) ?_ | refine zBs ?_ | refine zBn ?_ | refine zBv rfl rfl ?_ | refine zN ?_ | refine zC ?_ | refine zC4 ?_ | refine zOr16 ?_ | refine zC1 ?_ | refine zByte ?_ | refine zMaxL ?_ | refine zMaxR ?_ | refine zMinL ?_ | refine zMinR ?_ | refine zShr ?_ | refine zC8 ?_ | refine zQ ?_ | refine zR ?_ | refine zS ?_ | refine zA ?_ | refine zM ?_ | refine xr rfl ?_ | refine ai rfl ?_ | refine condT ?_ | refine condF ?_ | refine condG1 ?_ | refine condG0 ?_ | refine cD ?_ | refine dD ?_ | refine cB ?_ | refine dB ?_ | refine cN ?_ | refine dN ?_ | refine cV ?_ | refine dV ?_ | refine cE ?_ | refine dE ?_ | refine condX0 ?_ | refine condX1 ?_ | refine condNot ?_ | refine condAnd ?_ | refine condOr ?_ | refine aO ?_ | refine aB ?_ | refine aR ?_ | refine aR ?_ (by simp; omega) | refine xr (by assumption) ?_ | refine ai (by assumption) ?_ | refine callW (ha) ?_ | refine kV (hi) ?_ | refine condD (fun h => ?_) (fun h => ?_) | refine condB (fun h => ?_) (fun h => ?_) | refine condN (fun h => ?_) (fun h => ?_) | refine condE (fun h => ?_) (fun h => ?_) | refine condV (fun h => ?_) (fun h => ?_))
      (first | refine ev_fin (And.intro (by first | rfl | (simp [AV.pure, pureL]; done) | fail) ?_) | refine ev_fin0 (And.intro (by first | rfl | (simp [AV.pure, pureL]; done) | fail) ?_)); simp [h0]
  · rw [hr] at ha
    simp only at ha ⊢
    refine gives_code (F := f250) rfl rfl (W_ok 300 _ _ _ _ ?_)
    repeat' ((conv => whnf); first | refine bslP (by first | rfl | (simp [pureL, pureLL, AV.pure]; done) | fail) rfl ?_ | refine TakeC.full (by first | rfl | omega | (simp; done) | (simp; omega) | fail) ?_ | refine zBs ?_ | refine zBn ?_ | refine zBv rfl rfl ?_ | refine zN ?_ | refine zC ?_ | refine zC4 ?_ | refine zOr16 ?_ | refine zC1 ?_ | refine zByte ?_ | refine zMaxL ?_ | refine zMaxR ?_ | refine zMinL ?_ | refine zMinR ?_ | refine zShr ?_ | refine zC8 ?_ | refine zQ ?_ | refine zR ?_ | refine zS ?_ | refine zA ?_ | refine zM ?_ | refine xr rfl ?_ | refine ai rfl ?_ | refine condT ?_ | refine condF ?_ | refine condG1 ?_ | refine condG0 ?_ | refine cD ?_ | refine dD ?_ | refine cB ?_ | refine dB ?_ | refine cN ?_ | refine dN ?_ | refine cV ?_ | refine dV ?_ | refine cE ?_ | refine dE ?_ | refine condX0 ?_ | refine condX1 ?_ | refine condNot ?_ | refine condAnd ?_ | refine condOr ?_ | refine aO ?_ | refine aB ?_ | refine aR ?_ | refine aR ?_ (by simp; omega) | refine xr (by assumption) ?_ | refine ai (by assumption) ?_ | refine callW (ha) ?_ | refine condD (fun h => ?_) (fun h => ?_) | refine condB (fun h => ?_) (fun h => ?_) | refine condN (fun h => ?_) (fun h => ?_) | refine condE (fun h => ?_) (fun h => ?_) | refine condV (fun h => ?_) (fun h => ?_))
    (first | refine ev_fin (And.intro (by first | rfl | (simp [AV.pure, pureL]; done) | fail) ?_) | refine ev_fin0 (And.intro (by first | rfl | (simp [AV.pure, pureL]; done) | fail) ?_)); rfl
  · rw [hr] at ha
    simp only at ha ⊢
    refine gives_code (F := f250) rfl rfl (W_ok 300 _ _ _ _ ?_)
    repeat' ((conv => whnf); first | refine bslP (by first | rfl | (simp [pureL, pureLL, AV.pure]; done) | fail) rfl ?_ | refine TakeC.full (by first | rfl | omega | (simp; done) | (simp; omega) | fail) ?_ | refine zBs ?_ | refine zBn ?_ | refine zBv rfl rfl ?_ | refine zN ?_ | refine zC ?_ | refine zC4 ?_ | refine zOr16 ?_ | refine zC1 ?_ | refine zByte ?_ | refine zMaxL ?_ | refine zMaxR ?_ | refine zMinL ?_ | refine zMinR ?_ | refine zShr ?_ | refine zC8 ?_ | refine zQ ?_ | refine zR ?_ | refine zS ?_ | refine zA ?_ | refine zM ?_ | refine xr rfl ?_ | refine ai rfl ?_ | refine condT ?_ | refine condF ?_ | refine condG1 ?_ | refine condG0 ?_ | refine cD ?_ | refine dD ?_ | refine cB ?_ | refine dB ?_ | refine cN ?_ | refine dN ?_ | refine cV ?_ | refine dV ?_ | refine cE ?_ | refine dE ?_ | refine condX0 ?_ | refine condX1 ?_ | refine condNot ?_ | refine condAnd ?_ | refine condOr ?_ | refine aO ?_ | refine aB ?_ | refine aR ?_ | refine aR ?_ (by simp; omega) | refine xr (by assumption) ?_ | refine ai (by assumption) ?_ | refine callW (ha) ?_ | refine condD (fun h => ?_) (fun h => ?_) | refine condB (fun h => ?_) (fun h => ?_) | refine condN (fun h => ?_) (fun h => ?_) | refine condE (fun h => ?_) (fun h => ?_) | refine condV (fun h => ?_) (fun h => ?_))
    (first | refine ev_fin (And.intro (by first | rfl | (simp [AV.pure, pureL]; done) | fail) ?_) | refine ev_fin0 (And.intro (by first | rfl | (simp [AV.pure, pureL]; done) | fail) ?_)); rfl
theorem text_gives229 (p : Pfx) (h : p.ok) : Gives G 229 [.agg p.enc] [] ⟨.str (if validP p = true then ptext p.addr.toNat p.len.toNat else []), []⟩ := by
  obtain ⟨e, hx⟩ := nat_of h.addr
  have hv := valid_gives178 p h
  have ha := addr_gives227 p.addr.toNat hx
  have hd := dots_len hx
  rw [← e] at ha
  cases hvp : validP p
  · rw [hvp] at hv
    rw [if_neg (by simp)]
    refine gives_code (F := f229) rfl rfl (W_ok 300 _ _ _ _ ?_)
    repeat' ((conv => whnf); first | refine bslP (by first | rfl | (simp [pureL, pureLL, AV.pure]; done) | fail) rfl ?_ | refine TakeC.full (by first | rfl | omega | (simp; done) | (simp; omega) | fail) ?_ | refine zBs ?_ | refine zBn ?_ | refine zBv rfl rfl ?_ | refine zN ?_ | refine zC ?_ | refine zC4 ?_ | refine zOr16 ?_ | refine zC1 ?_ | refine zByte ?_ | refine zMaxL ?_ | refine zMaxR ?_ | refine zMinL ?_ | refine zMinR ?_ | refine zShr ?_ | refine zC8 ?_ | refine zQ ?_ | refine zR ?_ | refine zS ?_ | refine zA ?_ | refine zM ?_ | refine xr rfl ?_ | refine ai rfl ?_ | refine condT ?_ | refine condF ?_ | refine condG1 ?_ | refine condG0 ?_ | refine cD ?_ | refine dD ?_ | refine cB ?_ | refine dB ?_ | refine cN ?_ | refine dN ?_ | refine cV ?_ | refine dV ?_ | refine cE ?_ | refine dE ?_ | refine condX0 ?_ | refine condX1 ?_ | refine condNot ?_ | refine condAnd ?_ | refine condOr ?_ | refine aO ?_ | refine aB ?_ | refine aR ?_ | refine aR ?_ (by simp; omega) | refine xr (by assumption) ?_ | refine ai (by assumption) ?_ | refine kV (hv) ?_ | refine condD (fun h => ?_) (fun h => ?_) | refine condB (fun h => ?_) (fun h => ?_) | refine condN (fun h => ?_) (fun h => ?_) | refine condE (fun h => ?_) (fun h => ?_) | refine condV (fun h => ?_) (fun h => ?_))
    (first | refine ev_fin (And.intro (by first | rfl | (simp [AV.pure, pureL]; done) | fail) ?_) | refine ev_fin0 (And.intro (by first | rfl | (simp [AV.pure, pureL]; done) | fail) ?_)); rfl
  · rw [hvp] at hv
    obtain ⟨n0, n1⟩ := validP_len hvp
    have hi := itoa_gives246 (n := p.len) (by omega) (by omega)
    have hil := itoa_len (n := p.len.toNat) (by omega)
    rw [Int.toNat_of_nonneg n0] at hil
    rw [if_pos rfl, ptext, Int.toNat_of_nonneg n0]
    generalize itoaK p.len = t at *
    generalize dots p.addr.toNat = d at *
    refine gives_code (F := f229) rfl rfl (W_ok 300 _ _ _ _ ?_)
    repeat' ((conv => whnf); first | refine zCat ?_ | refine bslP (by first | rfl | (simp [pureL, pureLL, AV.pure]; done) | fail) rfl ?_ | refine TakeC.full (by first | rfl | omega | (simp; done) | (simp; omega) | fail) ?_ | refine zBs ?_ | refine zBn ?_ | refine zBv rfl rfl ?_ | refine zN ?_ | refine zC ?_ | refine zC4 ?_ | refine zOr16 ?_ | refine zC1 ?_ | refine zByte ?_ | refine zMaxL ?_ | refine zMaxR ?_ | refine zMinL ?_ | refine zMinR ?_ | refine zShr ?_ | refine zC8 ?_ | refine zQ ?_ | refine zR ?_ | refine zS ?_ | refine zA ?_ | refine zM ?_ | refine xr rfl ?_ | refine ai rfl ?_ | refine condT ?_ | refine condF ?_ | refine condG1 ?_ | refine condG0 ?_ | refine cD ?_ | refine dD ?_ | refine cB ?_ | refine dB ?_ | refine cN ?_ | refine dN ?_ | refine cV ?_ | refine dV ?_ | refine cE ?_ | refine dE ?_ | refine condX0 ?_ | refine condX1 ?_ | refine condNot ?_ | refine condAnd ?_ | refine condOr ?_ | refine aO ?_ | refine aB ?_ | refine aR ?_ | refine aR ?_ (by simp; omega) | refine xr (by assumption) ?_ | refine ai (by assumption) ?_ | refine kV (hv) ?_ | refine kV (ha) ?_ | refine kV (hi) ?_ | refine condD (fun h => ?_) (fun h => ?_) | refine condB (fun h => ?_) (fun h => ?_) | refine condN (fun h => ?_) (fun h => ?_) | refine condE (fun h => ?_) (fun h => ?_) | refine condV (fun h => ?_) (fun h => ?_))
    (first | refine ev_fin (And.intro (by first | rfl | (simp [AV.pure, pureL]; done) | fail) ?_) | refine ev_fin0 (And.intro (by first | rfl | (simp [AV.pure, pureL]; done) | fail) ?_)); simp
end Go.AM.IR
set_option maxHeartbeats 4000000
set_option maxRecDepth 20000
namespace Go.AM.IR
theorem shl8 {x : Nat} (hx : x < 16777216) {kv : AV → Prop} (h : kv (.int .u32 ((x * 256 : Nat) : Int))) : ∃ v, binA .shl (.int .u32 (x : Int)) (.int .u64 8) = some v ∧ kv v := by
  refine ⟨_, ?_, h⟩
  show some (AV.int .u32 (IntKind.wrap .u32 ((x : Int) * 2 ^ (min (8 : Int).toNat 32)))) = _
  rw [show (x : Int) * 2 ^ (min (8 : Int).toNat 32) = ((x * 256 : Nat) : Int) from by simp [show min (8 : Int).toNat 32 = 8 from rfl], wrapU32 _ (by omega)]
theorem or8 {x n : Nat} (hx : x < 16777216) (hn : n < 256) {kv : AV → Prop} (h : kv (.int .u32 ((x * 256 + n : Nat) : Int))) : ∃ v, binA .or (.int .u32 ((x * 256 : Nat) : Int)) (.int .u32 (n : Int)) = some v ∧ kv v := by
  refine ⟨_, ?_, h⟩
  show some (AV.int .u32 (intBits .or .u32 _ _)) = _
  rw [or_u32 _ _ (by omega) (by omega), or_add hn]
abbrev Bs := List UInt8
def encS (w : List UInt8) : List AV := [.str w]
theorem pa_loop231 (l : List Bs) (h4 : l.length = 4) (hw : ∀ w ∈ l, w.length < 2 ^ 40) (hl : l.length < 2 ^ 40) (ln : Int) (hln : ln = l.length) : ∀ (rest done : List Bs) (a : Nat) (T : List (Nat × AV)) (H : Heap) (c : Nat) (n : Int) (e : l = done ++ rest) (hn : n = done.length) (ha : a < 256 ^ done.length), Ev G ⟨f231x13LH, ⟨(15, .sl 1 (l.map encS)) :: (16, .int .i64 ln) :: (17, .int .i64 n) :: (5, .int .u32 (a : Int)) :: T, H, c⟩, [.t 2, .t 3], 0⟩ (okA (paL rest a))
  | [], done, a, T, H, c, n, e, hn, ha => by
    have hd : l.length = done.length := by simp [e]
    have hll : (l.map encS).length = l.length := by simp
    refine ev_loop' (W_ok 300 _ _ _ _ ?_)
    repeat' ((conv => whnf); first | refine bslP (by first | rfl | (simp [pureL, pureLL, AV.pure]; done) | fail) rfl ?_ | refine TakeC.full (by first | rfl | omega | (simp; done) | (simp; omega) | fail) ?_ | refine zBs ?_ | refine zBn ?_ | refine zBv rfl rfl ?_ | refine zN ?_ | refine zC ?_ | refine zC4 ?_ | refine zOr16 ?_ | refine zC1 ?_ | refine zByte ?_ | refine zMaxL ?_ | refine zMaxR ?_ | refine zMinL ?_ | refine zMinR ?_ | refine zShr ?_ | refine zC8 ?_ | refine zQ ?_ | refine zR ?_ | refine zS ?_ | refine zA ?_ | refine zM ?_ | refine xr rfl ?_ | refine ai rfl ?_ | refine condT ?_ | refine condF ?_ | refine condG1 ?_ | refine condG0 ?_ | refine cD ?_ | refine dD ?_ | refine cB ?_ | refine dB ?_ | refine cN ?_ | refine dN ?_ | refine cV ?_ | refine dV ?_ | refine cE ?_ | refine dE ?_ | refine condX0 ?_ | refine condX1 ?_ | refine condNot ?_ | refine condAnd ?_ | refine condOr ?_ | refine aO ?_ | refine aB ?_ | refine aR ?_ | refine aR ?_ (by simp; omega) | refine xr (by assumption) ?_ | refine ai (by assumption) ?_ | refine condD (fun h => ?_) (fun h => ?_) | refine condB (fun h => ?_) (fun h => ?_) | refine condN (fun h => ?_) (fun h => ?_) | refine condE (fun h => ?_) (fun h => ?_) | refine condV (fun h => ?_) (fun h => ?_))
    (first | refine ev_fin (And.intro (by first | rfl | (simp [AV.pure, pureL]; done) | fail) ?_) | refine ev_fin0 (And.intro (by first | rfl | (simp [AV.pure, pureL]; done) | fail) ?_)); rfl
  | x :: r, done, a, T, H, c, n, e, hn, ha => by
    have hd : l.length = done.length + (r.length + 1) := by simp [e]
    have hll : (l.map encS).length = l.length := by simp
    have hx : (l.map encS)[n.toNat]? = some (encS x) := by simp [e, hn]
    have ha4 : a < 16777216 := Nat.lt_of_lt_of_le ha (Nat.le_trans (Nat.pow_le_pow_right (by omega) (show done.length ≤ 3 by omega)) (by omega))
    have hn := number_gives250 x 255 (hw x (by simp [e]))
    by_cases hb : numB 255 x = true
    · obtain ⟨k, hk, ek, hv⟩ := num_back hb
      rw [hb, hv] at hn
      rw [paL, if_pos hb, hv, Int.toNat_natCast]
      refine ev_loop' (W_ok 300 _ _ _ _ ?_)
      repeat' ((conv => whnf); first | refine shl8 ha4 ?_ | refine or8 ha4 (by omega) ?_ | refine bslP (by first | rfl | (simp [pureL, pureLL, AV.pure]; done) | fail) rfl ?_ | refine TakeC.full (by first | rfl | omega | (simp; done) | (simp; omega) | fail) ?_ | refine zBs ?_ | refine zBn ?_ | refine zBv rfl rfl ?_ | refine zN ?_ | refine zC ?_ | refine zC4 ?_ | refine zOr16 ?_ | refine zC1 ?_ | refine zByte ?_ | refine zMaxL ?_ | refine zMaxR ?_ | refine zMinL ?_ | refine zMinR ?_ | refine zShr ?_ | refine zC8 ?_ | refine zQ ?_ | refine zR ?_ | refine zS ?_ | refine zA ?_ | refine zM ?_ | refine xr rfl ?_ | refine ai rfl ?_ | refine condT ?_ | refine condF ?_ | refine condG1 ?_ | refine condG0 ?_ | refine cD ?_ | refine dD ?_ | refine cB ?_ | refine dB ?_ | refine cN ?_ | refine dN ?_ | refine cV ?_ | refine dV ?_ | refine cE ?_ | refine dE ?_ | refine condX0 ?_ | refine condX1 ?_ | refine condNot ?_ | refine condAnd ?_ | refine condOr ?_ | refine aO ?_ | refine aB ?_ | refine aR ?_ | refine aR ?_ (by simp; omega) | refine xr (by assumption) ?_ | refine ai (by assumption) ?_ | refine kV (hn) ?_ | refine condD (fun h => ?_) (fun h => ?_) | refine condB (fun h => ?_) (fun h => ?_) | refine condN (fun h => ?_) (fun h => ?_) | refine condE (fun h => ?_) (fun h => ?_) | refine condV (fun h => ?_) (fun h => ?_))
      refine ev_keep [15, 16, 17, 5] [] ?_; exact pa_loop231 l h4 hw hl ln hln r (done ++ [x]) (a * 256 + k) _ _ _ (n + 1) (by simp [e]) (by simp [hn] <;> omega) (by rw [List.length_append, List.length_singleton, Nat.pow_succ]; omega)
    · have hb2 : numB 255 x = false := by simpa using hb
      rw [hb2] at hn
      rw [paL, if_neg hb]
      refine ev_loop' (W_ok 300 _ _ _ _ ?_)
      repeat' ((conv => whnf); first | refine bslP (by first | rfl | (simp [pureL, pureLL, AV.pure]; done) | fail) rfl ?_ | refine TakeC.full (by first | rfl | omega | (simp; done) | (simp; omega) | fail) ?_ | refine zBs ?_ | refine zBn ?_ | refine zBv rfl rfl ?_ | refine zN ?_ | refine zC ?_ | refine zC4 ?_ | refine zOr16 ?_ | refine zC1 ?_ | refine zByte ?_ | refine zMaxL ?_ | refine zMaxR ?_ | refine zMinL ?_ | refine zMinR ?_ | refine zShr ?_ | refine zC8 ?_ | refine zQ ?_ | refine zR ?_ | refine zS ?_ | refine zA ?_ | refine zM ?_ | refine xr rfl ?_ | refine ai rfl ?_ | refine condT ?_ | refine condF ?_ | refine condG1 ?_ | refine condG0 ?_ | refine cD ?_ | refine dD ?_ | refine cB ?_ | refine dB ?_ | refine cN ?_ | refine dN ?_ | refine cV ?_ | refine dV ?_ | refine cE ?_ | refine dE ?_ | refine condX0 ?_ | refine condX1 ?_ | refine condNot ?_ | refine condAnd ?_ | refine condOr ?_ | refine aO ?_ | refine aB ?_ | refine aR ?_ | refine aR ?_ (by simp; omega) | refine xr (by assumption) ?_ | refine ai (by assumption) ?_ | refine kV (hn) ?_ | refine condD (fun h => ?_) (fun h => ?_) | refine condB (fun h => ?_) (fun h => ?_) | refine condN (fun h => ?_) (fun h => ?_) | refine condE (fun h => ?_) (fun h => ?_) | refine condV (fun h => ?_) (fun h => ?_))
      (first | refine ev_fin (And.intro (by first | rfl | (simp [AV.pure, pureL]; done) | fail) ?_) | refine ev_fin0 (And.intro (by first | rfl | (simp [AV.pure, pureL]; done) | fail) ?_)); rfl
theorem split_gives249 (s : List UInt8) (hs : s.length < 4294967281) : Gives G 249 [.str s, .str [46]] [] ⟨.sl 1 ((Lib.split s [46]).map encS), []⟩ := by
  show pSplit [.str s, .str [46]] [] = _
  exact if_pos ⟨hs, by simp⟩
end Go.AM.IR
set_option maxHeartbeats 4000000
set_option maxRecDepth 20000
namespace Go.AM.IR
theorem joinC_mem (c : UInt8) : ∀ (l : List (List UInt8)) (w : List UInt8), w ∈ l → w.length ≤ (joinC c l).length
  | [], _, h => by simp at h
  | [x], w, h => by obtain rfl : w = x := by simpa using h
                    exact Nat.le_refl _
  | x :: y :: r, w, h => by
    simp only [joinC, List.length_append, List.length_cons]
    rcases List.mem_cons.1 h with rfl | h
    · omega
    · have := joinC_mem c (y :: r) w h; omega
theorem split_len (s : List UInt8) (w : List UInt8) (h : w ∈ Lib.split s [46]) : w.length ≤ s.length := by
  have := joinC_mem 46 _ w h
  rwa [join_split 46 s.length s (Nat.le_refl _)] at this
theorem pad_gives231 (s : List UInt8) (hs : s.length < 4294967281) : Gives G 231 [.str s] [] (okA (paP s)) := by
  have hp := split_gives249 s hs
  have hw : ∀ w ∈ Lib.split s [46], w.length < 2 ^ 40 := fun w h => by have := split_len s w h; omega
  unfold paP
  generalize Lib.split s [46] = l at *
  have hll : (l.map encS).length = l.length := by simp
  have hpu : (AV.sl 1 (l.map encS)).pure = true := pureLL_mapB (fun _ => rfl) l
  by_cases h4 : l.length = 4
  · rw [if_pos h4]
    refine gives_code (F := f231) rfl rfl (W_ok 300 _ _ _ _ ?_)
    repeat' ((conv => whnf); first | refine callW hp ?_ (by rfl) hpu | refine bslP (by first | rfl | (simp [pureL, pureLL, AV.pure]; done) | fail) rfl ?_ | refine TakeC.full (by first | rfl | omega | (simp; done) | (simp; omega) | fail) ?_ | refine zBs ?_ | refine zBn ?_ | refine zBv rfl rfl ?_ | refine zN ?_ | refine zC ?_ | refine zC4 ?_ | refine zOr16 ?_ | refine zC1 ?_ | refine zByte ?_ | refine zMaxL ?_ | refine zMaxR ?_ | refine zMinL ?_ | refine zMinR ?_ | refine zShr ?_ | refine zC8 ?_ | refine zQ ?_ | refine zR ?_ | refine zS ?_ | refine zA ?_ | refine zM ?_ | refine xr rfl ?_ | refine ai rfl ?_ | refine condT ?_ | refine condF ?_ | refine condG1 ?_ | refine condG0 ?_ | refine cD ?_ | refine dD ?_ | refine cB ?_ | refine dB ?_ | refine cN ?_ | refine dN ?_ | refine cV ?_ | refine dV ?_ | refine cE ?_ | refine dE ?_ | refine condX0 ?_ | refine condX1 ?_ | refine condNot ?_ | refine condAnd ?_ | refine condOr ?_ | refine aO ?_ | refine aB ?_ | refine aR ?_ | refine aR ?_ (by simp; omega) | refine xr (by assumption) ?_ | refine ai (by assumption) ?_ | refine condD (fun h => ?_) (fun h => ?_) | refine condB (fun h => ?_) (fun h => ?_) | refine condN (fun h => ?_) (fun h => ?_) | refine condE (fun h => ?_) (fun h => ?_) | refine condV (fun h => ?_) (fun h => ?_))
    refine ev_keep [15, 16, 17, 5] [] ?_
    exact pa_loop231 l h4 hw (by omega) _ (by simp) l [] 0 _ _ _ 0 rfl rfl (by simp)
  · rw [if_neg h4]
    refine gives_code (F := f231) rfl rfl (W_ok 300 _ _ _ _ ?_)
    repeat' ((conv => whnf); first | refine callW hp ?_ (by rfl) hpu | refine bslP (by first | rfl | (simp [pureL, pureLL, AV.pure]; done) | fail) rfl ?_ | refine TakeC.full (by first | rfl | omega | (simp; done) | (simp; omega) | fail) ?_ | refine zBs ?_ | refine zBn ?_ | refine zBv rfl rfl ?_ | refine zN ?_ | refine zC ?_ | refine zC4 ?_ | refine zOr16 ?_ | refine zC1 ?_ | refine zByte ?_ | refine zMaxL ?_ | refine zMaxR ?_ | refine zMinL ?_ | refine zMinR ?_ | refine zShr ?_ | refine zC8 ?_ | refine zQ ?_ | refine zR ?_ | refine zS ?_ | refine zA ?_ | refine zM ?_ | refine xr rfl ?_ | refine ai rfl ?_ | refine condT ?_ | refine condF ?_ | refine condG1 ?_ | refine condG0 ?_ | refine cD ?_ | refine dD ?_ | refine cB ?_ | refine dB ?_ | refine cN ?_ | refine dN ?_ | refine cV ?_ | refine dV ?_ | refine cE ?_ | refine dE ?_ | refine condX0 ?_ | refine condX1 ?_ | refine condNot ?_ | refine condAnd ?_ | refine condOr ?_ | refine aO ?_ | refine aB ?_ | refine aR ?_ | refine aR ?_ (by simp; omega) | refine xr (by assumption) ?_ | refine ai (by assumption) ?_ | refine condD (fun h => ?_) (fun h => ?_) | refine condB (fun h => ?_) (fun h => ?_) | refine condN (fun h => ?_) (fun h => ?_) | refine condE (fun h => ?_) (fun h => ?_) | refine condV (fun h => ?_) (fun h => ?_))
    (first | refine ev_fin (And.intro (by first | rfl | (simp [AV.pure, pureL]; done) | fail) ?_) | refine ev_fin0 (And.intro (by first | rfl | (simp [AV.pure, pureL]; done) | fail) ?_)); rfl
def pfR (x : Pfx × Int) : Ret := ⟨.tup [.agg x.1.enc, .int .i64 x.2], []⟩
theorem cut_gives252 (s : List UInt8) (hs : s.length < 4294967281) : Gives G 252 [.str s, .str [47]] [] ⟨.tup [.str (Lib.cut s [47]).1, .str (Lib.cut s [47]).2.1, .bool (Lib.cut s [47]).2.2], []⟩ := by
  show pCut [.str s, .str [47]] [] = _
  exact if_pos hs
theorem cut_len (s : List UInt8) : (Lib.cut s [47]).1.length ≤ s.length ∧ (Lib.cut s [47]).2.1.length ≤ s.length := by
  unfold Lib.cut
  split
  · simp; omega
  · simp
theorem pfx_ok {x : Nat} {n : Int} (hx : x < 4294967296) (h0 : 0 ≤ n) (h1 : n ≤ 32) : Pfx.ok ⟨(x : Int), n⟩ := ⟨by unfold okU; simp only; omega, by unfold okI; simp only; omega⟩
theorem parse_gives233 (s : List UInt8) (hs : s.length < 4294967281) : Gives G 233 [.str s] [] (pfR (psP s)) := by
  have hc := cut_gives252 s hs
  obtain ⟨hl1, hl2⟩ := cut_len s
  unfold psP
  generalize Lib.cut s [47] = q at *
  obtain ⟨l, r, f⟩ := q
  simp only at hc hl1 hl2 ⊢
  have hp := pad_gives231 l (by omega)
  have hn := number_gives250 r 32 (by omega)
  rcases paP_all l with ea | ⟨x, hx, _, ea⟩
  · rw [ea] at hp ⊢
    rw [if_pos (.inr (.inl (by simp only; decide)))]
    cases f
    · refine gives_code (F := f233) rfl rfl (W_ok 300 _ _ _ _ ?_)
      repeat' ((conv => whnf); first | refine bslP (by first | rfl | (simp [pureL, pureLL, AV.pure]; done) | fail) rfl ?_ | refine TakeC.full (by first | rfl | omega | (simp; done) | (simp; omega) | fail) ?_ | refine zBs ?_ | refine zBn ?_ | refine zBv rfl rfl ?_ | refine zN ?_ | refine zC ?_ | refine zC4 ?_ | refine zOr16 ?_ | refine zC1 ?_ | refine zByte ?_ | refine zMaxL ?_ | refine zMaxR ?_ | refine zMinL ?_ | refine zMinR ?_ | refine zShr ?_ | refine zC8 ?_ | refine zQ ?_ | refine zR ?_ | refine zS ?_ | refine zA ?_ | refine zM ?_ | refine xr rfl ?_ | refine ai rfl ?_ | refine condT ?_ | refine condF ?_ | refine condG1 ?_ | refine condG0 ?_ | refine cD ?_ | refine dD ?_ | refine cB ?_ | refine dB ?_ | refine cN ?_ | refine dN ?_ | refine cV ?_ | refine dV ?_ | refine cE ?_ | refine dE ?_ | refine condX0 ?_ | refine condX1 ?_ | refine condNot ?_ | refine condAnd ?_ | refine condOr ?_ | refine aO ?_ | refine aB ?_ | refine aR ?_ | refine aR ?_ (by simp; omega) | refine xr (by assumption) ?_ | refine ai (by assumption) ?_ | refine kV (hc) ?_ | refine kV (hp) ?_ | refine kV (hn) ?_ | refine condD (fun h => ?_) (fun h => ?_) | refine condB (fun h => ?_) (fun h => ?_) | refine condN (fun h => ?_) (fun h => ?_) | refine condE (fun h => ?_) (fun h => ?_) | refine condV (fun h => ?_) (fun h => ?_))
      (first | refine ev_fin (And.intro (by first | rfl | (simp [AV.pure, pureL]; done) | fail) ?_) | refine ev_fin0 (And.intro (by first | rfl | (simp [AV.pure, pureL]; done) | fail) ?_)); (conv => whnf); refine And.intro (by first | rfl | (simp [AV.pure, pureL, pureLL, *]; done) | fail) ?_; rfl
    · refine gives_code (F := f233) rfl rfl (W_ok 300 _ _ _ _ ?_)
      repeat' ((conv => whnf); first | refine bslP (by first | rfl | (simp [pureL, pureLL, AV.pure]; done) | fail) rfl ?_ | refine TakeC.full (by first | rfl | omega | (simp; done) | (simp; omega) | fail) ?_ | refine zBs ?_ | refine zBn ?_ | refine zBv rfl rfl ?_ | refine zN ?_ | refine zC ?_ | refine zC4 ?_ | refine zOr16 ?_ | refine zC1 ?_ | refine zByte ?_ | refine zMaxL ?_ | refine zMaxR ?_ | refine zMinL ?_ | refine zMinR ?_ | refine zShr ?_ | refine zC8 ?_ | refine zQ ?_ | refine zR ?_ | refine zS ?_ | refine zA ?_ | refine zM ?_ | refine xr rfl ?_ | refine ai rfl ?_ | refine condT ?_ | refine condF ?_ | refine condG1 ?_ | refine condG0 ?_ | refine cD ?_ | refine dD ?_ | refine cB ?_ | refine dB ?_ | refine cN ?_ | refine dN ?_ | refine cV ?_ | refine dV ?_ | refine cE ?_ | refine dE ?_ | refine condX0 ?_ | refine condX1 ?_ | refine condNot ?_ | refine condAnd ?_ | refine condOr ?_ | refine aO ?_ | refine aB ?_ | refine aR ?_ | refine aR ?_ (by simp; omega) | refine xr (by assumption) ?_ | refine ai (by assumption) ?_ | refine kV (hc) ?_ | refine kV (hp) ?_ | refine kV (hn) ?_ | refine condD (fun h => ?_) (fun h => ?_) | refine condB (fun h => ?_) (fun h => ?_) | refine condN (fun h => ?_) (fun h => ?_) | refine condE (fun h => ?_) (fun h => ?_) | refine condV (fun h => ?_) (fun h => ?_))
      (first | refine ev_fin (And.intro (by first | rfl | (simp [AV.pure, pureL]; done) | fail) ?_) | refine ev_fin0 (And.intro (by first | rfl | (simp [AV.pure, pureL]; done) | fail) ?_)); (conv => whnf); refine And.intro (by first | rfl | (simp [AV.pure, pureL, pureLL, *]; done) | fail) ?_; rfl
  · rw [ea] at hp ⊢
    cases f
    · rw [if_pos (.inl rfl)]
      refine gives_code (F := f233) rfl rfl (W_ok 300 _ _ _ _ ?_)
      repeat' ((conv => whnf); first | refine bslP (by first | rfl | (simp [pureL, pureLL, AV.pure]; done) | fail) rfl ?_ | refine TakeC.full (by first | rfl | omega | (simp; done) | (simp; omega) | fail) ?_ | refine zBs ?_ | refine zBn ?_ | refine zBv rfl rfl ?_ | refine zN ?_ | refine zC ?_ | refine zC4 ?_ | refine zOr16 ?_ | refine zC1 ?_ | refine zByte ?_ | refine zMaxL ?_ | refine zMaxR ?_ | refine zMinL ?_ | refine zMinR ?_ | refine zShr ?_ | refine zC8 ?_ | refine zQ ?_ | refine zR ?_ | refine zS ?_ | refine zA ?_ | refine zM ?_ | refine xr rfl ?_ | refine ai rfl ?_ | refine condT ?_ | refine condF ?_ | refine condG1 ?_ | refine condG0 ?_ | refine cD ?_ | refine dD ?_ | refine cB ?_ | refine dB ?_ | refine cN ?_ | refine dN ?_ | refine cV ?_ | refine dV ?_ | refine cE ?_ | refine dE ?_ | refine condX0 ?_ | refine condX1 ?_ | refine condNot ?_ | refine condAnd ?_ | refine condOr ?_ | refine aO ?_ | refine aB ?_ | refine aR ?_ | refine aR ?_ (by simp; omega) | refine xr (by assumption) ?_ | refine ai (by assumption) ?_ | refine kV (hc) ?_ | refine kV (hp) ?_ | refine kV (hn) ?_ | refine condD (fun h => ?_) (fun h => ?_) | refine condB (fun h => ?_) (fun h => ?_) | refine condN (fun h => ?_) (fun h => ?_) | refine condE (fun h => ?_) (fun h => ?_) | refine condV (fun h => ?_) (fun h => ?_))
      (first | refine ev_fin (And.intro (by first | rfl | (simp [AV.pure, pureL]; done) | fail) ?_) | refine ev_fin0 (And.intro (by first | rfl | (simp [AV.pure, pureL]; done) | fail) ?_)); (conv => whnf); refine And.intro (by first | rfl | (simp [AV.pure, pureL, pureLL, *]; done) | fail) ?_; rfl
    · cases hb : numB 32 r
      · rw [hb] at hn
        rw [if_pos (.inr (.inr rfl))]
        refine gives_code (F := f233) rfl rfl (W_ok 300 _ _ _ _ ?_)
        repeat' ((conv => whnf); first | refine bslP (by first | rfl | (simp [pureL, pureLL, AV.pure]; done) | fail) rfl ?_ | refine TakeC.full (by first | rfl | omega | (simp; done) | (simp; omega) | fail) ?_ | refine zBs ?_ | refine zBn ?_ | refine zBv rfl rfl ?_ | refine zN ?_ | refine zC ?_ | refine zC4 ?_ | refine zOr16 ?_ | refine zC1 ?_ | refine zByte ?_ | refine zMaxL ?_ | refine zMaxR ?_ | refine zMinL ?_ | refine zMinR ?_ | refine zShr ?_ | refine zC8 ?_ | refine zQ ?_ | refine zR ?_ | refine zS ?_ | refine zA ?_ | refine zM ?_ | refine xr rfl ?_ | refine ai rfl ?_ | refine condT ?_ | refine condF ?_ | refine condG1 ?_ | refine condG0 ?_ | refine cD ?_ | refine dD ?_ | refine cB ?_ | refine dB ?_ | refine cN ?_ | refine dN ?_ | refine cV ?_ | refine dV ?_ | refine cE ?_ | refine dE ?_ | refine condX0 ?_ | refine condX1 ?_ | refine condNot ?_ | refine condAnd ?_ | refine condOr ?_ | refine aO ?_ | refine aB ?_ | refine aR ?_ | refine aR ?_ (by simp; omega) | refine xr (by assumption) ?_ | refine ai (by assumption) ?_ | refine kV (hc) ?_ | refine kV (hp) ?_ | refine kV (hn) ?_ | refine condD (fun h => ?_) (fun h => ?_) | refine condB (fun h => ?_) (fun h => ?_) | refine condN (fun h => ?_) (fun h => ?_) | refine condE (fun h => ?_) (fun h => ?_) | refine condV (fun h => ?_) (fun h => ?_))
        (first | refine ev_fin (And.intro (by first | rfl | (simp [AV.pure, pureL]; done) | fail) ?_) | refine ev_fin0 (And.intro (by first | rfl | (simp [AV.pure, pureL]; done) | fail) ?_)); (conv => whnf); refine And.intro (by first | rfl | (simp [AV.pure, pureL, pureLL, *]; done) | fail) ?_; rfl
      · rw [hb] at hn
        obtain ⟨k, hk, _, hv⟩ := num_back hb
        rw [hv] at hn ⊢
        rw [if_neg (by simp), psV, Int.toNat_natCast]
        have vv := valid_gives178 ⟨(x : Int), (k : Int)⟩ (pfx_ok hx (by omega) hk)
        cases hvp : validP ⟨(x : Int), (k : Int)⟩
        · rw [hvp] at vv
          rw [if_neg (by simp)]
          refine gives_code (F := f233) rfl rfl (W_ok 300 _ _ _ _ ?_)
          repeat' ((conv => whnf); first | refine bslP (by first | rfl | (simp [pureL, pureLL, AV.pure]; done) | fail) rfl ?_ | refine TakeC.full (by first | rfl | omega | (simp; done) | (simp; omega) | fail) ?_ | refine zBs ?_ | refine zBn ?_ | refine zBv rfl rfl ?_ | refine zN ?_ | refine zC ?_ | refine zC4 ?_ | refine zOr16 ?_ | refine zC1 ?_ | refine zByte ?_ | refine zMaxL ?_ | refine zMaxR ?_ | refine zMinL ?_ | refine zMinR ?_ | refine zShr ?_ | refine zC8 ?_ | refine zQ ?_ | refine zR ?_ | refine zS ?_ | refine zA ?_ | refine zM ?_ | refine xr rfl ?_ | refine ai rfl ?_ | refine condT ?_ | refine condF ?_ | refine condG1 ?_ | refine condG0 ?_ | refine cD ?_ | refine dD ?_ | refine cB ?_ | refine dB ?_ | refine cN ?_ | refine dN ?_ | refine cV ?_ | refine dV ?_ | refine cE ?_ | refine dE ?_ | refine condX0 ?_ | refine condX1 ?_ | refine condNot ?_ | refine condAnd ?_ | refine condOr ?_ | refine aO ?_ | refine aB ?_ | refine aR ?_ | refine aR ?_ (by simp; omega) | refine xr (by assumption) ?_ | refine ai (by assumption) ?_ | refine kV (hc) ?_ | refine kV (hp) ?_ | refine kV (hn) ?_ | refine kV (vv) ?_ | refine condD (fun h => ?_) (fun h => ?_) | refine condB (fun h => ?_) (fun h => ?_) | refine condN (fun h => ?_) (fun h => ?_) | refine condE (fun h => ?_) (fun h => ?_) | refine condV (fun h => ?_) (fun h => ?_))
          (first | refine ev_fin (And.intro (by first | rfl | (simp [AV.pure, pureL]; done) | fail) ?_) | refine ev_fin0 (And.intro (by first | rfl | (simp [AV.pure, pureL]; done) | fail) ?_)); (conv => whnf); refine And.intro (by first | rfl | (simp [AV.pure, pureL, pureLL, *]; done) | fail) ?_; rfl
        · rw [hvp] at vv
          rw [if_pos rfl]
          refine gives_code (F := f233) rfl rfl (W_ok 300 _ _ _ _ ?_)
          repeat' ((conv => whnf); first | refine bslP (by first | rfl | (simp [pureL, pureLL, AV.pure]; done) | fail) rfl ?_ | refine TakeC.full (by first | rfl | omega | (simp; done) | (simp; omega) | fail) ?_ | refine zBs ?_ | refine zBn ?_ | refine zBv rfl rfl ?_ | refine zN ?_ | refine zC ?_ | refine zC4 ?_ | refine zOr16 ?_ | refine zC1 ?_ | refine zByte ?_ | refine zMaxL ?_ | refine zMaxR ?_ | refine zMinL ?_ | refine zMinR ?_ | refine zShr ?_ | refine zC8 ?_ | refine zQ ?_ | refine zR ?_ | refine zS ?_ | refine zA ?_ | refine zM ?_ | refine xr rfl ?_ | refine ai rfl ?_ | refine condT ?_ | refine condF ?_ | refine condG1 ?_ | refine condG0 ?_ | refine cD ?_ | refine dD ?_ | refine cB ?_ | refine dB ?_ | refine cN ?_ | refine dN ?_ | refine cV ?_ | refine dV ?_ | refine cE ?_ | refine dE ?_ | refine condX0 ?_ | refine condX1 ?_ | refine condNot ?_ | refine condAnd ?_ | refine condOr ?_ | refine aO ?_ | refine aB ?_ | refine aR ?_ | refine aR ?_ (by simp; omega) | refine xr (by assumption) ?_ | refine ai (by assumption) ?_ | refine kV (hc) ?_ | refine kV (hp) ?_ | refine kV (hn) ?_ | refine kV (vv) ?_ | refine condD (fun h => ?_) (fun h => ?_) | refine condB (fun h => ?_) (fun h => ?_) | refine condN (fun h => ?_) (fun h => ?_) | refine condE (fun h => ?_) (fun h => ?_) | refine condV (fun h => ?_) (fun h => ?_))
          (first | refine ev_fin (And.intro (by first | rfl | (simp [AV.pure, pureL]; done) | fail) ?_) | refine ev_fin0 (And.intro (by first | rfl | (simp [AV.pure, pureL]; done) | fail) ?_)); (conv => whnf); refine And.intro (by first | rfl | (simp [AV.pure, pureL, pureLL, *]; done) | fail) ?_; rfl
end Go.AM.IR
set_option maxHeartbeats 4000000
set_option maxRecDepth 20000
namespace Go.AM.IR
theorem pvalid (p : Pfx) (h : p.ok) (v : validP p = true) : psP (ptext p.addr.toNat p.len.toNat) = (p, 0) := by
  obtain ⟨e, hx⟩ := nat_of h.addr
  obtain ⟨n0, n1⟩ := validP_len v
  rw [psP_hit hx (by omega), psV, ← e, Int.toNat_of_nonneg n0, if_pos v]
theorem psP_nil : psP [] = (⟨0, 0⟩, 2) := by
  unfold psP
  rw [cut_none 47 [] (by simp), if_pos (.inl rfl)]
theorem ptext_len {x n : Nat} (hx : x < 4294967296) (hn : n ≤ 32) : (ptext x n).length ≤ 19 := by
  have := dots_len hx
  have := itoa_len (n := n) (by omega)
  unfold ptext
  simp only [List.length_append, List.length_cons]; omega
theorem law214_gives (p : Pfx) (h : p.ok) (x : Nat) (hx : x < 4294967296) (s : List UInt8) (hs : s.length < 4294967281) : Gives G 214 [.agg p.enc, .int .u32 (x : Int), .str s] [] ⟨.bool true, []⟩ := by
  obtain ⟨ep, hpx⟩ := nat_of h.addr
  have vv := valid_gives178 p h
  have t1 := text_gives229 p h
  have a1 := addr_gives227 x hx
  have b1 := pad_gives231 (dots x) (by have := dots_len hx; omega)
  rw [paP_hit hx] at b1
  have p2 := parse_gives233 s hs
  have c2 := pad_gives231 s hs
  have a2 : ∀ y : Nat, y < 4294967296 → s = dots y → Gives G 227 [.int .u32 (y : Int)] [] ⟨.str s, []⟩ := fun y hy e => by rw [e]; exact addr_gives227 y hy
  have t2 : ∀ r : Pfx, r.ok → validP r = true → s = ptext r.addr.toNat r.len.toNat → Gives G 229 [.agg r.enc] [] ⟨.str s, []⟩ := fun r hr hv e => by
    have := text_gives229 r hr
    rw [if_pos hv, ← e] at this; exact this
  have v2 : ∀ r : Pfx, r.ok → validP r = true → Gives G 178 [.agg r.enc] [] ⟨.bool true, []⟩ := fun r hr hv => by
    have := valid_gives178 r hr
    rw [hv] at this; exact this
  cases hvp : validP p
  · rw [hvp] at vv
    rw [hvp, if_neg (by simp)] at t1
    have p1 := parse_gives233 [] (by simp)
    rw [psP_nil] at p1
    rcases psP_all s with eq | ⟨z, n, hz, hn, es, eq⟩
    · rw [eq] at p2
      rcases paP_all s with ec | ⟨y, hy, es2, ec⟩
      · rw [ec] at c2
        clear a2 t2 v2
        generalize dots x = d at *
        refine gives_code (F := f214) rfl rfl (W_ok 300 _ _ _ _ ?_)
        repeat' ((conv => whnf); first | refine zEqT ?_ | refine zSameP ?_ | refine zSameI ?_ | refine bslP (by first | rfl | (simp [pureL, pureLL, AV.pure]; done) | fail) rfl ?_ | refine TakeC.full (by first | rfl | omega | (simp; done) | (simp; omega) | fail) ?_ | refine zBs ?_ | refine zBn ?_ | refine zBv rfl rfl ?_ | refine zN ?_ | refine zC ?_ | refine zC4 ?_ | refine zOr16 ?_ | refine zC1 ?_ | refine zByte ?_ | refine zMaxL ?_ | refine zMaxR ?_ | refine zMinL ?_ | refine zMinR ?_ | refine zShr ?_ | refine zC8 ?_ | refine zQ ?_ | refine zR ?_ | refine zS ?_ | refine zA ?_ | refine zM ?_ | refine xr rfl ?_ | refine ai rfl ?_ | refine condT ?_ | refine condF ?_ | refine condG1 ?_ | refine condG0 ?_ | refine cD ?_ | refine dD ?_ | refine cB ?_ | refine dB ?_ | refine cN ?_ | refine dN ?_ | refine cV ?_ | refine dV ?_ | refine cE ?_ | refine dE ?_ | refine condX0 ?_ | refine condX1 ?_ | refine condNot ?_ | refine condAnd ?_ | refine condOr ?_ | refine aO ?_ | refine aB ?_ | refine aR ?_ | refine aR ?_ (by simp; omega) | refine xr (by assumption) ?_ | refine ai (by assumption) ?_ | refine kV (vv) ?_ | refine kV (t1) ?_ | refine kV (p1) ?_ | refine kV (a1) ?_ | refine kV (b1) ?_ | refine kV (p2) ?_ | refine kV (c2) ?_ | refine kV (lives226_gives) ?_ | refine condD (fun h => ?_) (fun h => ?_) | refine condB (fun h => ?_) (fun h => ?_) | refine condN (fun h => ?_) (fun h => ?_) | refine condE (fun h => ?_) (fun h => ?_) | refine condV (fun h => ?_) (fun h => ?_))
        (first | refine ev_fin (And.intro (by first | rfl | (simp [AV.pure, pureL]; done) | fail) ?_) | refine ev_fin0 (And.intro (by first | rfl | (simp [AV.pure, pureL]; done) | fail) ?_)); rfl
      · rw [ec] at c2
        have a3 := a2 y hy es2
        clear a2 t2 v2
        generalize dots x = d at *
        refine gives_code (F := f214) rfl rfl (W_ok 300 _ _ _ _ ?_)
        repeat' ((conv => whnf); first | refine zEqT ?_ | refine zSameP ?_ | refine zSameI ?_ | refine bslP (by first | rfl | (simp [pureL, pureLL, AV.pure]; done) | fail) rfl ?_ | refine TakeC.full (by first | rfl | omega | (simp; done) | (simp; omega) | fail) ?_ | refine zBs ?_ | refine zBn ?_ | refine zBv rfl rfl ?_ | refine zN ?_ | refine zC ?_ | refine zC4 ?_ | refine zOr16 ?_ | refine zC1 ?_ | refine zByte ?_ | refine zMaxL ?_ | refine zMaxR ?_ | refine zMinL ?_ | refine zMinR ?_ | refine zShr ?_ | refine zC8 ?_ | refine zQ ?_ | refine zR ?_ | refine zS ?_ | refine zA ?_ | refine zM ?_ | refine xr rfl ?_ | refine ai rfl ?_ | refine condT ?_ | refine condF ?_ | refine condG1 ?_ | refine condG0 ?_ | refine cD ?_ | refine dD ?_ | refine cB ?_ | refine dB ?_ | refine cN ?_ | refine dN ?_ | refine cV ?_ | refine dV ?_ | refine cE ?_ | refine dE ?_ | refine condX0 ?_ | refine condX1 ?_ | refine condNot ?_ | refine condAnd ?_ | refine condOr ?_ | refine aO ?_ | refine aB ?_ | refine aR ?_ | refine aR ?_ (by simp; omega) | refine xr (by assumption) ?_ | refine ai (by assumption) ?_ | refine kV (vv) ?_ | refine kV (t1) ?_ | refine kV (p1) ?_ | refine kV (a1) ?_ | refine kV (b1) ?_ | refine kV (p2) ?_ | refine kV (c2) ?_ | refine kV (a3) ?_ | refine kV (lives226_gives) ?_ | refine condD (fun h => ?_) (fun h => ?_) | refine condB (fun h => ?_) (fun h => ?_) | refine condN (fun h => ?_) (fun h => ?_) | refine condE (fun h => ?_) (fun h => ?_) | refine condV (fun h => ?_) (fun h => ?_))
        (first | refine ev_fin (And.intro (by first | rfl | (simp [AV.pure, pureL]; done) | fail) ?_) | refine ev_fin0 (And.intro (by first | rfl | (simp [AV.pure, pureL]; done) | fail) ?_)); rfl
    · rw [eq, psV] at p2
      cases hv3 : validP ⟨(z : Int), (n : Int)⟩
      · rw [hv3, if_neg (by simp)] at p2
        rcases paP_all s with ec | ⟨y, hy, es2, ec⟩
        · rw [ec] at c2
          clear a2 t2 v2
          generalize dots x = d at *
          refine gives_code (F := f214) rfl rfl (W_ok 300 _ _ _ _ ?_)
          repeat' ((conv => whnf); first | refine zEqT ?_ | refine zSameP ?_ | refine zSameI ?_ | refine bslP (by first | rfl | (simp [pureL, pureLL, AV.pure]; done) | fail) rfl ?_ | refine TakeC.full (by first | rfl | omega | (simp; done) | (simp; omega) | fail) ?_ | refine zBs ?_ | refine zBn ?_ | refine zBv rfl rfl ?_ | refine zN ?_ | refine zC ?_ | refine zC4 ?_ | refine zOr16 ?_ | refine zC1 ?_ | refine zByte ?_ | refine zMaxL ?_ | refine zMaxR ?_ | refine zMinL ?_ | refine zMinR ?_ | refine zShr ?_ | refine zC8 ?_ | refine zQ ?_ | refine zR ?_ | refine zS ?_ | refine zA ?_ | refine zM ?_ | refine xr rfl ?_ | refine ai rfl ?_ | refine condT ?_ | refine condF ?_ | refine condG1 ?_ | refine condG0 ?_ | refine cD ?_ | refine dD ?_ | refine cB ?_ | refine dB ?_ | refine cN ?_ | refine dN ?_ | refine cV ?_ | refine dV ?_ | refine cE ?_ | refine dE ?_ | refine condX0 ?_ | refine condX1 ?_ | refine condNot ?_ | refine condAnd ?_ | refine condOr ?_ | refine aO ?_ | refine aB ?_ | refine aR ?_ | refine aR ?_ (by simp; omega) | refine xr (by assumption) ?_ | refine ai (by assumption) ?_ | refine kV (vv) ?_ | refine kV (t1) ?_ | refine kV (p1) ?_ | refine kV (a1) ?_ | refine kV (b1) ?_ | refine kV (p2) ?_ | refine kV (c2) ?_ | refine kV (lives226_gives) ?_ | refine condD (fun h => ?_) (fun h => ?_) | refine condB (fun h => ?_) (fun h => ?_) | refine condN (fun h => ?_) (fun h => ?_) | refine condE (fun h => ?_) (fun h => ?_) | refine condV (fun h => ?_) (fun h => ?_))
          (first | refine ev_fin (And.intro (by first | rfl | (simp [AV.pure, pureL]; done) | fail) ?_) | refine ev_fin0 (And.intro (by first | rfl | (simp [AV.pure, pureL]; done) | fail) ?_)); rfl
        · rw [ec] at c2
          have a3 := a2 y hy es2
          clear a2 t2 v2
          generalize dots x = d at *
          refine gives_code (F := f214) rfl rfl (W_ok 300 _ _ _ _ ?_)
          repeat' ((conv => whnf); first | refine zEqT ?_ | refine zSameP ?_ | refine zSameI ?_ | refine bslP (by first | rfl | (simp [pureL, pureLL, AV.pure]; done) | fail) rfl ?_ | refine TakeC.full (by first | rfl | omega | (simp; done) | (simp; omega) | fail) ?_ | refine zBs ?_ | refine zBn ?_ | refine zBv rfl rfl ?_ | refine zN ?_ | refine zC ?_ | refine zC4 ?_ | refine zOr16 ?_ | refine zC1 ?_ | refine zByte ?_ | refine zMaxL ?_ | refine zMaxR ?_ | refine zMinL ?_ | refine zMinR ?_ | refine zShr ?_ | refine zC8 ?_ | refine zQ ?_ | refine zR ?_ | refine zS ?_ | refine zA ?_ | refine zM ?_ | refine xr rfl ?_ | refine ai rfl ?_ | refine condT ?_ | refine condF ?_ | refine condG1 ?_ | refine condG0 ?_ | refine cD ?_ | refine dD ?_ | refine cB ?_ | refine dB ?_ | refine cN ?_ | refine dN ?_ | refine cV ?_ | refine dV ?_ | refine cE ?_ | refine dE ?_ | refine condX0 ?_ | refine condX1 ?_ | refine condNot ?_ | refine condAnd ?_ | refine condOr ?_ | refine aO ?_ | refine aB ?_ | refine aR ?_ | refine aR ?_ (by simp; omega) | refine xr (by assumption) ?_ | refine ai (by assumption) ?_ | refine kV (vv) ?_ | refine kV (t1) ?_ | refine kV (p1) ?_ | refine kV (a1) ?_ | refine kV (b1) ?_ | refine kV (p2) ?_ | refine kV (c2) ?_ | refine kV (a3) ?_ | refine kV (lives226_gives) ?_ | refine condD (fun h => ?_) (fun h => ?_) | refine condB (fun h => ?_) (fun h => ?_) | refine condN (fun h => ?_) (fun h => ?_) | refine condE (fun h => ?_) (fun h => ?_) | refine condV (fun h => ?_) (fun h => ?_))
          (first | refine ev_fin (And.intro (by first | rfl | (simp [AV.pure, pureL]; done) | fail) ?_) | refine ev_fin0 (And.intro (by first | rfl | (simp [AV.pure, pureL]; done) | fail) ?_)); rfl
      · rw [hv3, if_pos rfl] at p2
        have ok3 := pfx_ok (n := (n : Int)) hz (by omega) (by omega)
        have t3 := t2 ⟨(z : Int), (n : Int)⟩ ok3 hv3 es
        have v3 := v2 ⟨(z : Int), (n : Int)⟩ ok3 hv3
        rcases paP_all s with ec | ⟨y, hy, es2, ec⟩
        · rw [ec] at c2
          clear a2 t2 v2
          generalize dots x = d at *
          refine gives_code (F := f214) rfl rfl (W_ok 300 _ _ _ _ ?_)
          repeat' ((conv => whnf); first | refine zEqT ?_ | refine zSameP ?_ | refine zSameI ?_ | refine bslP (by first | rfl | (simp [pureL, pureLL, AV.pure]; done) | fail) rfl ?_ | refine TakeC.full (by first | rfl | omega | (simp; done) | (simp; omega) | fail) ?_ | refine zBs ?_ | refine zBn ?_ | refine zBv rfl rfl ?_ | refine zN ?_ | refine zC ?_ | refine zC4 ?_ | refine zOr16 ?_ | refine zC1 ?_ | refine zByte ?_ | refine zMaxL ?_ | refine zMaxR ?_ | refine zMinL ?_ | refine zMinR ?_ | refine zShr ?_ | refine zC8 ?_ | refine zQ ?_ | refine zR ?_ | refine zS ?_ | refine zA ?_ | refine zM ?_ | refine xr rfl ?_ | refine ai rfl ?_ | refine condT ?_ | refine condF ?_ | refine condG1 ?_ | refine condG0 ?_ | refine cD ?_ | refine dD ?_ | refine cB ?_ | refine dB ?_ | refine cN ?_ | refine dN ?_ | refine cV ?_ | refine dV ?_ | refine cE ?_ | refine dE ?_ | refine condX0 ?_ | refine condX1 ?_ | refine condNot ?_ | refine condAnd ?_ | refine condOr ?_ | refine aO ?_ | refine aB ?_ | refine aR ?_ | refine aR ?_ (by simp; omega) | refine xr (by assumption) ?_ | refine ai (by assumption) ?_ | refine kV (vv) ?_ | refine kV (t1) ?_ | refine kV (p1) ?_ | refine kV (a1) ?_ | refine kV (b1) ?_ | refine kV (p2) ?_ | refine kV (t3) ?_ | refine kV (v3) ?_ | refine kV (c2) ?_ | refine kV (lives226_gives) ?_ | refine condD (fun h => ?_) (fun h => ?_) | refine condB (fun h => ?_) (fun h => ?_) | refine condN (fun h => ?_) (fun h => ?_) | refine condE (fun h => ?_) (fun h => ?_) | refine condV (fun h => ?_) (fun h => ?_))
          (first | refine ev_fin (And.intro (by first | rfl | (simp [AV.pure, pureL]; done) | fail) ?_) | refine ev_fin0 (And.intro (by first | rfl | (simp [AV.pure, pureL]; done) | fail) ?_)); rfl
        · rw [ec] at c2
          have a3 := a2 y hy es2
          clear a2 t2 v2
          generalize dots x = d at *
          refine gives_code (F := f214) rfl rfl (W_ok 300 _ _ _ _ ?_)
          repeat' ((conv => whnf); first | refine zEqT ?_ | refine zSameP ?_ | refine zSameI ?_ | refine bslP (by first | rfl | (simp [pureL, pureLL, AV.pure]; done) | fail) rfl ?_ | refine TakeC.full (by first | rfl | omega | (simp; done) | (simp; omega) | fail) ?_ | refine zBs ?_ | refine zBn ?_ | refine zBv rfl rfl ?_ | refine zN ?_ | refine zC ?_ | refine zC4 ?_ | refine zOr16 ?_ | refine zC1 ?_ | refine zByte ?_ | refine zMaxL ?_ | refine zMaxR ?_ | refine zMinL ?_ | refine zMinR ?_ | refine zShr ?_ | refine zC8 ?_ | refine zQ ?_ | refine zR ?_ | refine zS ?_ | refine zA ?_ | refine zM ?_ | refine xr rfl ?_ | refine ai rfl ?_ | refine condT ?_ | refine condF ?_ | refine condG1 ?_ | refine condG0 ?_ | refine cD ?_ | refine dD ?_ | refine cB ?_ | refine dB ?_ | refine cN ?_ | refine dN ?_ | refine cV ?_ | refine dV ?_ | refine cE ?_ | refine dE ?_ | refine condX0 ?_ | refine condX1 ?_ | refine condNot ?_ | refine condAnd ?_ | refine condOr ?_ | refine aO ?_ | refine aB ?_ | refine aR ?_ | refine aR ?_ (by simp; omega) | refine xr (by assumption) ?_ | refine ai (by assumption) ?_ | refine kV (vv) ?_ | refine kV (t1) ?_ | refine kV (p1) ?_ | refine kV (a1) ?_ | refine kV (b1) ?_ | refine kV (p2) ?_ | refine kV (t3) ?_ | refine kV (v3) ?_ | refine kV (c2) ?_ | refine kV (a3) ?_ | refine kV (lives226_gives) ?_ | refine condD (fun h => ?_) (fun h => ?_) | refine condB (fun h => ?_) (fun h => ?_) | refine condN (fun h => ?_) (fun h => ?_) | refine condE (fun h => ?_) (fun h => ?_) | refine condV (fun h => ?_) (fun h => ?_))
          (first | refine ev_fin (And.intro (by first | rfl | (simp [AV.pure, pureL]; done) | fail) ?_) | refine ev_fin0 (And.intro (by first | rfl | (simp [AV.pure, pureL]; done) | fail) ?_)); rfl
  · rw [hvp] at vv
    rw [hvp, if_pos rfl] at t1
    have hl := ptext_len hpx (show p.len.toNat ≤ 32 by have := validP_len hvp; omega)
    have p1 := parse_gives233 (ptext p.addr.toNat p.len.toNat) (by omega)
    rw [pvalid p h hvp] at p1
    generalize ptext p.addr.toNat p.len.toNat = tp at *
    rcases psP_all s with eq | ⟨z, n, hz, hn, es, eq⟩
    · rw [eq] at p2
      rcases paP_all s with ec | ⟨y, hy, es2, ec⟩
      · rw [ec] at c2
        clear a2 t2 v2
        generalize dots x = d at *
        refine gives_code (F := f214) rfl rfl (W_ok 300 _ _ _ _ ?_)
        repeat' ((conv => whnf); first | refine zEqT ?_ | refine zSameP ?_ | refine zSameI ?_ | refine bslP (by first | rfl | (simp [pureL, pureLL, AV.pure]; done) | fail) rfl ?_ | refine TakeC.full (by first | rfl | omega | (simp; done) | (simp; omega) | fail) ?_ | refine zBs ?_ | refine zBn ?_ | refine zBv rfl rfl ?_ | refine zN ?_ | refine zC ?_ | refine zC4 ?_ | refine zOr16 ?_ | refine zC1 ?_ | refine zByte ?_ | refine zMaxL ?_ | refine zMaxR ?_ | refine zMinL ?_ | refine zMinR ?_ | refine zShr ?_ | refine zC8 ?_ | refine zQ ?_ | refine zR ?_ | refine zS ?_ | refine zA ?_ | refine zM ?_ | refine xr rfl ?_ | refine ai rfl ?_ | refine condT ?_ | refine condF ?_ | refine condG1 ?_ | refine condG0 ?_ | refine cD ?_ | refine dD ?_ | refine cB ?_ | refine dB ?_ | refine cN ?_ | refine dN ?_ | refine cV ?_ | refine dV ?_ | refine cE ?_ | refine dE ?_ | refine condX0 ?_ | refine condX1 ?_ | refine condNot ?_ | refine condAnd ?_ | refine condOr ?_ | refine aO ?_ | refine aB ?_ | refine aR ?_ | refine aR ?_ (by simp; omega) | refine xr (by assumption) ?_ | refine ai (by assumption) ?_ | refine kV (vv) ?_ | refine kV (t1) ?_ | refine kV (p1) ?_ | refine kV (a1) ?_ | refine kV (b1) ?_ | refine kV (p2) ?_ | refine kV (c2) ?_ | refine kV (lives226_gives) ?_ | refine condD (fun h => ?_) (fun h => ?_) | refine condB (fun h => ?_) (fun h => ?_) | refine condN (fun h => ?_) (fun h => ?_) | refine condE (fun h => ?_) (fun h => ?_) | refine condV (fun h => ?_) (fun h => ?_))
        (first | refine ev_fin (And.intro (by first | rfl | (simp [AV.pure, pureL]; done) | fail) ?_) | refine ev_fin0 (And.intro (by first | rfl | (simp [AV.pure, pureL]; done) | fail) ?_)); rfl
      · rw [ec] at c2
        have a3 := a2 y hy es2
        clear a2 t2 v2
        generalize dots x = d at *
        refine gives_code (F := f214) rfl rfl (W_ok 300 _ _ _ _ ?_)
        repeat' ((conv => whnf); first | refine zEqT ?_ | refine zSameP ?_ | refine zSameI ?_ | refine bslP (by first | rfl | (simp [pureL, pureLL, AV.pure]; done) | fail) rfl ?_ | refine TakeC.full (by first | rfl | omega | (simp; done) | (simp; omega) | fail) ?_ | refine zBs ?_ | refine zBn ?_ | refine zBv rfl rfl ?_ | refine zN ?_ | refine zC ?_ | refine zC4 ?_ | refine zOr16 ?_ | refine zC1 ?_ | refine zByte ?_ | refine zMaxL ?_ | refine zMaxR ?_ | refine zMinL ?_ | refine zMinR ?_ | refine zShr ?_ | refine zC8 ?_ | refine zQ ?_ | refine zR ?_ | refine zS ?_ | refine zA ?_ | refine zM ?_ | refine xr rfl ?_ | refine ai rfl ?_ | refine condT ?_ | refine condF ?_ | refine condG1 ?_ | refine condG0 ?_ | refine cD ?_ | refine dD ?_ | refine cB ?_ | refine dB ?_ | refine cN ?_ | refine dN ?_ | refine cV ?_ | refine dV ?_ | refine cE ?_ | refine dE ?_ | refine condX0 ?_ | refine condX1 ?_ | refine condNot ?_ | refine condAnd ?_ | refine condOr ?_ | refine aO ?_ | refine aB ?_ | refine aR ?_ | refine aR ?_ (by simp; omega) | refine xr (by assumption) ?_ | refine ai (by assumption) ?_ | refine kV (vv) ?_ | refine kV (t1) ?_ | refine kV (p1) ?_ | refine kV (a1) ?_ | refine kV (b1) ?_ | refine kV (p2) ?_ | refine kV (c2) ?_ | refine kV (a3) ?_ | refine kV (lives226_gives) ?_ | refine condD (fun h => ?_) (fun h => ?_) | refine condB (fun h => ?_) (fun h => ?_) | refine condN (fun h => ?_) (fun h => ?_) | refine condE (fun h => ?_) (fun h => ?_) | refine condV (fun h => ?_) (fun h => ?_))
        (first | refine ev_fin (And.intro (by first | rfl | (simp [AV.pure, pureL]; done) | fail) ?_) | refine ev_fin0 (And.intro (by first | rfl | (simp [AV.pure, pureL]; done) | fail) ?_)); rfl
    · rw [eq, psV] at p2
      cases hv3 : validP ⟨(z : Int), (n : Int)⟩
      · rw [hv3, if_neg (by simp)] at p2
        rcases paP_all s with ec | ⟨y, hy, es2, ec⟩
        · rw [ec] at c2
          clear a2 t2 v2
          generalize dots x = d at *
          refine gives_code (F := f214) rfl rfl (W_ok 300 _ _ _ _ ?_)
          repeat' ((conv => whnf); first | refine zEqT ?_ | refine zSameP ?_ | refine zSameI ?_ | refine bslP (by first | rfl | (simp [pureL, pureLL, AV.pure]; done) | fail) rfl ?_ | refine TakeC.full (by first | rfl | omega | (simp; done) | (simp; omega) | fail) ?_ | refine zBs ?_ | refine zBn ?_ | refine zBv rfl rfl ?_ | refine zN ?_ | refine zC ?_ | refine zC4 ?_ | refine zOr16 ?_ | refine zC1 ?_ | refine zByte ?_ | refine zMaxL ?_ | refine zMaxR ?_ | refine zMinL ?_ | refine zMinR ?_ | refine zShr ?_ | refine zC8 ?_ | refine zQ ?_ | refine zR ?_ | refine zS ?_ | refine zA ?_ | refine zM ?_ | refine xr rfl ?_ | refine ai rfl ?_ | refine condT ?_ | refine condF ?_ | refine condG1 ?_ | refine condG0 ?_ | refine cD ?_ | refine dD ?_ | refine cB ?_ | refine dB ?_ | refine cN ?_ | refine dN ?_ | refine cV ?_ | refine dV ?_ | refine cE ?_ | refine dE ?_ | refine condX0 ?_ | refine condX1 ?_ | refine condNot ?_ | refine condAnd ?_ | refine condOr ?_ | refine aO ?_ | refine aB ?_ | refine aR ?_ | refine aR ?_ (by simp; omega) | refine xr (by assumption) ?_ | refine ai (by assumption) ?_ | refine kV (vv) ?_ | refine kV (t1) ?_ | refine kV (p1) ?_ | refine kV (a1) ?_ | refine kV (b1) ?_ | refine kV (p2) ?_ | refine kV (c2) ?_ | refine kV (lives226_gives) ?_ | refine condD (fun h => ?_) (fun h => ?_) | refine condB (fun h => ?_) (fun h => ?_) | refine condN (fun h => ?_) (fun h => ?_) | refine condE (fun h => ?_) (fun h => ?_) | refine condV (fun h => ?_) (fun h => ?_))
          (first | refine ev_fin (And.intro (by first | rfl | (simp [AV.pure, pureL]; done) | fail) ?_) | refine ev_fin0 (And.intro (by first | rfl | (simp [AV.pure, pureL]; done) | fail) ?_)); rfl
        · rw [ec] at c2
          have a3 := a2 y hy es2
          clear a2 t2 v2
          generalize dots x = d at *
          refine gives_code (F := f214) rfl rfl (W_ok 300 _ _ _ _ ?_)
          repeat' ((conv => whnf); first | refine zEqT ?_ | refine zSameP ?_ | refine zSameI ?_ | refine bslP (by first | rfl | (simp [pureL, pureLL, AV.pure]; done) | fail) rfl ?_ | refine TakeC.full (by first | rfl | omega | (simp; done) | (simp; omega) | fail) ?_ | refine zBs ?_ | refine zBn ?_ | refine zBv rfl rfl ?_ | refine zN ?_ | refine zC ?_ | refine zC4 ?_ | refine zOr16 ?_ | refine zC1 ?_ | refine zByte ?_ | refine zMaxL ?_ | refine zMaxR ?_ | refine zMinL ?_ | refine zMinR ?_ | refine zShr ?_ | refine zC8 ?_ | refine zQ ?_ | refine zR ?_ | refine zS ?_ | refine zA ?_ | refine zM ?_ | refine xr rfl ?_ | refine ai rfl ?_ | refine condT ?_ | refine condF ?_ | refine condG1 ?_ | refine condG0 ?_ | refine cD ?_ | refine dD ?_ | refine cB ?_ | refine dB ?_ | refine cN ?_ | refine dN ?_ | refine cV ?_ | refine dV ?_ | refine cE ?_ | refine dE ?_ | refine condX0 ?_ | refine condX1 ?_ | refine condNot ?_ | refine condAnd ?_ | refine condOr ?_ | refine aO ?_ | refine aB ?_ | refine aR ?_ | refine aR ?_ (by simp; omega) | refine xr (by assumption) ?_ | refine ai (by assumption) ?_ | refine kV (vv) ?_ | refine kV (t1) ?_ | refine kV (p1) ?_ | refine kV (a1) ?_ | refine kV (b1) ?_ | refine kV (p2) ?_ | refine kV (c2) ?_ | refine kV (a3) ?_ | refine kV (lives226_gives) ?_ | refine condD (fun h => ?_) (fun h => ?_) | refine condB (fun h => ?_) (fun h => ?_) | refine condN (fun h => ?_) (fun h => ?_) | refine condE (fun h => ?_) (fun h => ?_) | refine condV (fun h => ?_) (fun h => ?_))
          (first | refine ev_fin (And.intro (by first | rfl | (simp [AV.pure, pureL]; done) | fail) ?_) | refine ev_fin0 (And.intro (by first | rfl | (simp [AV.pure, pureL]; done) | fail) ?_)); rfl
      · rw [hv3, if_pos rfl] at p2
        have ok3 := pfx_ok (n := (n : Int)) hz (by omega) (by omega)
        have t3 := t2 ⟨(z : Int), (n : Int)⟩ ok3 hv3 es
        have v3 := v2 ⟨(z : Int), (n : Int)⟩ ok3 hv3
        rcases paP_all s with ec | ⟨y, hy, es2, ec⟩
        · rw [ec] at c2
          clear a2 t2 v2
          generalize dots x = d at *
          refine gives_code (F := f214) rfl rfl (W_ok 300 _ _ _ _ ?_)
          repeat' ((conv => whnf); first | refine zEqT ?_ | refine zSameP ?_ | refine zSameI ?_ | refine bslP (by first | rfl | (simp [pureL, pureLL, AV.pure]; done) | fail) rfl ?_ | refine TakeC.full (by first | rfl | omega | (simp; done) | (simp; omega) | fail) ?_ | refine zBs ?_ | refine zBn ?_ | refine zBv rfl rfl ?_ | refine zN ?_ | refine zC ?_ | refine zC4 ?_ | refine zOr16 ?_ | refine zC1 ?_ | refine zByte ?_ | refine zMaxL ?_ | refine zMaxR ?_ | refine zMinL ?_ | refine zMinR ?_ | refine zShr ?_ | refine zC8 ?_ | refine zQ ?_ | refine zR ?_ | refine zS ?_ | refine zA ?_ | refine zM ?_ | refine xr rfl ?_ | refine ai rfl ?_ | refine condT ?_ | refine condF ?_ | refine condG1 ?_ | refine condG0 ?_ | refine cD ?_ | refine dD ?_ | refine cB ?_ | refine dB ?_ | refine cN ?_ | refine dN ?_ | refine cV ?_ | refine dV ?_ | refine cE ?_ | refine dE ?_ | refine condX0 ?_ | refine condX1 ?_ | refine condNot ?_ | refine condAnd ?_ | refine condOr ?_ | refine aO ?_ | refine aB ?_ | refine aR ?_ | refine aR ?_ (by simp; omega) | refine xr (by assumption) ?_ | refine ai (by assumption) ?_ | refine kV (vv) ?_ | refine kV (t1) ?_ | refine kV (p1) ?_ | refine kV (a1) ?_ | refine kV (b1) ?_ | refine kV (p2) ?_ | refine kV (t3) ?_ | refine kV (v3) ?_ | refine kV (c2) ?_ | refine kV (lives226_gives) ?_ | refine condD (fun h => ?_) (fun h => ?_) | refine condB (fun h => ?_) (fun h => ?_) | refine condN (fun h => ?_) (fun h => ?_) | refine condE (fun h => ?_) (fun h => ?_) | refine condV (fun h => ?_) (fun h => ?_))
          (first | refine ev_fin (And.intro (by first | rfl | (simp [AV.pure, pureL]; done) | fail) ?_) | refine ev_fin0 (And.intro (by first | rfl | (simp [AV.pure, pureL]; done) | fail) ?_)); rfl
        · rw [ec] at c2
          have a3 := a2 y hy es2
          clear a2 t2 v2
          generalize dots x = d at *
          refine gives_code (F := f214) rfl rfl (W_ok 300 _ _ _ _ ?_)
          repeat' ((conv => whnf); first | refine zEqT ?_ | refine zSameP ?_ | refine zSameI ?_ | refine bslP (by first | rfl | (simp [pureL, pureLL, AV.pure]; done) | fail) rfl ?_ | refine TakeC.full (by first | rfl | omega | (simp; done) | (simp; omega) | fail) ?_ | refine zBs ?_ | refine zBn ?_ | refine zBv rfl rfl ?_ | refine zN ?_ | refine zC ?_ | refine zC4 ?_ | refine zOr16 ?_ | refine zC1 ?_ | refine zByte ?_ | refine zMaxL ?_ | refine zMaxR ?_ | refine zMinL ?_ | refine zMinR ?_ | refine zShr ?_ | refine zC8 ?_ | refine zQ ?_ | refine zR ?_ | refine zS ?_ | refine zA ?_ | refine zM ?_ | refine xr rfl ?_ | refine ai rfl ?_ | refine condT ?_ | refine condF ?_ | refine condG1 ?_ | refine condG0 ?_ | refine cD ?_ | refine dD ?_ | refine cB ?_ | refine dB ?_ | refine cN ?_ | refine dN ?_ | refine cV ?_ | refine dV ?_ | refine cE ?_ | refine dE ?_ | refine condX0 ?_ | refine condX1 ?_ | refine condNot ?_ | refine condAnd ?_ | refine condOr ?_ | refine aO ?_ | refine aB ?_ | refine aR ?_ | refine aR ?_ (by simp; omega) | refine xr (by assumption) ?_ | refine ai (by assumption) ?_ | refine kV (vv) ?_ | refine kV (t1) ?_ | refine kV (p1) ?_ | refine kV (a1) ?_ | refine kV (b1) ?_ | refine kV (p2) ?_ | refine kV (t3) ?_ | refine kV (v3) ?_ | refine kV (c2) ?_ | refine kV (a3) ?_ | refine kV (lives226_gives) ?_ | refine condD (fun h => ?_) (fun h => ?_) | refine condB (fun h => ?_) (fun h => ?_) | refine condN (fun h => ?_) (fun h => ?_) | refine condE (fun h => ?_) (fun h => ?_) | refine condV (fun h => ?_) (fun h => ?_))
          (first | refine ev_fin (And.intro (by first | rfl | (simp [AV.pure, pureL]; done) | fail) ?_) | refine ev_fin0 (And.intro (by first | rfl | (simp [AV.pure, pureL]; done) | fail) ?_)); rfl
end Go.AM.IR
set_option maxHeartbeats 4000000
set_option maxRecDepth 20000
namespace Go.AM.IR
theorem law214_all (ass : List (List AV)) (h : ArgsT [tPfx, .int .u32, .str] ass) (hb : bkLL ass ≤ 1048576) : Gives G 214 (argsA [tPfx, .int .u32, .str] ass) [] ⟨.bool true, []⟩ := by
  obtain ⟨x0, s0, rfl, h0, h⟩ := argsT_cons h
  obtain ⟨x1, s1, rfl, h1, h⟩ := argsT_cons h
  obtain ⟨x2, s2, rfl, h2, h⟩ := argsT_cons h
  obtain rfl := argsT_nil h
  obtain ⟨p, rfl, hp⟩ := T_pfx h0
  obtain ⟨u, rfl, hu⟩ := T_u32 h1
  obtain ⟨s, rfl⟩ := T_str h2
  obtain ⟨e, hx⟩ := nat_of hu
  have hl : s.length < 4294967281 := by
    simp only [bkLL, bkL, AV.bk] at hb
    omega
  have key := law214_gives p hp u.toNat hx s hl
  rw [← e] at key
  exact key
end Go.AM.IR
