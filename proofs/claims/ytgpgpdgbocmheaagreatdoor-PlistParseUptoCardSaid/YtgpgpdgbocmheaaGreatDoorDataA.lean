/- What the functions of this program give, on the abstract machine. -/
import Derived.Test.YtgpgpdgbocmheaaGreatDoorMachineB
import Derived.Test.YtgpgpdgbocmheaaGreatDoorLibraryA
import Derived.Test.YtgpgpdgbocmheaaGreatDoorMachineC
import Derived.KernelRfl
set_option linter.unusedVariables false
set_option linter.unusedSimpArgs false
set_option maxRecDepth 100000
namespace Go.AM.IR
open Go Go.AM
def f348x0 : List AOper := [
  Mc 2 (.bool false)]
def f348x1 : List AOper := [
  Mv 7 0,
  Ln 8 1 7,
  Bc 9 .gtr 8 200]
def f348x2 : List AOper := [
  Ct 10 327 [],
  Mv 2 10]
def f348x3 : List AOper := [
  Mv 12 0,
  Ct 13 334 [12],
  Mv 11 13,
  Ex 14 11 0,
  Ex 15 11 1,
  Op 3 (.alloc (.agg [.bool false, .int .u32 0, .int .i64 0, .int .i64 0, .int .i64 0])),
  St 5 3 14,
  Mv 4 15]
def f348x4 : List AOper := [
  Mv 17 0,
  Ct 18 349 [17],
  Mv 16 18,
  Ex 19 16 0,
  Ex 20 16 1,
  Op 5 (.alloc (.agg [.bool false, .int .u32 0, .int .i64 0, .int .i64 0, .int .i64 0])),
  St 5 5 19,
  Mv 6 20]
def f348x5 : List AOper := [
  Ls 21 5 3,
  Ls 22 5 5,
  Op 23 (.eqs [.bool, .int, .int, .int, .int] false (.t 21) (.t 22)),
  Mv 24 23,
  Gt 24 (Mv 25 4),
  Gt 24 (Mv 26 6),
  Gt 24 (Bi 27 .eql 25 26),
  Pa 28 24 27,
  Mv 29 28,
  Gt 29 (Ct 30 327 []),
  Pa 31 29 30,
  Mv 2 31]
def f348 : AFunc := ⟨32, 1, false, [.t 2], (.seq (.region f348x0 false) (.seq (.seq (.region f348x1 false) (.cond (.t 9) (.seq (.region f348x2 false) .ret) .skip)) (.seq (.region f348x3 false) (.seq (.region f348x4 false) (.seq (.region f348x5 false) .ret)))))⟩
def f327x0 : List AOper := [
  Mc 0 (.bool false)]
def f327x1 : List AOper := [
  Ca 10 334 [(.c (.str [112, 101, 114, 109, 105, 116, 32, 49, 48, 46, 48, 46, 48, 46, 48, 47, 56, 32, 49, 54, 45, 50, 52]))],
  Mv 9 10,
  Ex 11 9 0,
  Ex 12 9 1,
  Op 1 (.alloc (.agg [.bool false, .int .u32 0, .int .i64 0, .int .i64 0, .int .i64 0])),
  St 5 1 11,
  Mv 2 12]
def f327x2 : List AOper := [
  Ls 14 5 1,
  Ct 15 332 [14],
  Mv 13 15,
  Ex 16 13 0,
  Ex 17 13 1,
  Mv 3 16,
  Mv 4 17]
def f327x3 : List AOper := [
  Ca 19 334 [(.c (.str [112, 101, 114, 109, 105, 116, 32, 49, 48, 46, 48, 46, 48, 46, 48, 47, 56, 32, 56, 45, 56]))],
  Mv 18 19,
  Ex 20 18 0,
  Ex 21 18 1,
  Op 5 (.alloc (.agg [.bool false, .int .u32 0, .int .i64 0, .int .i64 0, .int .i64 0])),
  St 5 5 20,
  Mv 6 21]
def f327x4 : List AOper := [
  Op 22 (.build [.bool false, .int .u32 0, .int .i64 0, .int .i64 0, .int .i64 0] [(0, 1), (4, 1)] [(.c (.bool true)), (.c (.int .i64 32))]),
  Op 7 (.alloc (.agg [.bool false, .int .u32 0, .int .i64 0, .int .i64 0, .int .i64 0])),
  St 5 7 22]
def f327x5 : List AOper := [
  Mv 23 2,
  Bc 24 .neq 23 0,
  Mv 25 24,
  Gf 25 (Mv 26 4),
  Gf 25 (Bc 27 .neq 26 0),
  Po 28 25 27,
  Mv 29 28,
  Gf 29 (Mv 30 3),
  Gf 29 (Op 31 (.bin .neq (.t 30) (.c (.str [112, 101, 114, 109, 105, 116, 32, 49, 48, 46, 48, 46, 48, 46, 48, 47, 56, 32, 49, 54, 45, 50, 52])))),
  Po 32 29 31,
  Mv 33 32,
  Gf 33 (Mv 34 6),
  Gf 33 (Bc 35 .neq 34 2),
  Po 36 33 35,
  Mv 37 36,
  Gf 37 (Op 38 (.build [.bool false, .int .u32 0, .int .i64 0, .int .i64 0, .int .i64 0] [(3, 1), (4, 1)] [(.c (.int .i64 33)), (.c (.int .i64 33))])),
  Gf 37 (Ct 39 325 [38]),
  Gf 37 (Bc 40 .neq 39 5),
  Po 41 37 40,
  Mv 42 41,
  Gf 42 (Op 43 (.build [.int .u32 0, .int .i64 0] [(1, 1)] [(.c (.int .i64 33))])),
  Gf 42 (Op 44 (.build [.bool false, .int .u32 0, .int .i64 0, .int .i64 0, .int .i64 0] [(1, 2)] [(.t 43)])),
  Gf 42 (Ct 45 325 [44]),
  Gf 42 (Bc 46 .neq 45 1),
  Po 47 42 46]
def f327x6 : List AOper := [
  Mc 0 (.bool false)]
def f327x7 : List AOper := [
  Op 48 (.build [.int .u32 0, .int .i64 0] [(0, 1), (1, 1)] [(.c (.int .u32 167837696)), (.c (.int .i64 16))]),
  Op 8 (.alloc (.agg [.int .u32 0, .int .i64 0])),
  St 2 8 48]
def f327x8 : List AOper := [
  Ls 49 5 1,
  Ls 50 2 8,
  Ct 51 328 [49, 50],
  Mv 52 51,
  Gt 52 (Ls 53 5 1),
  Gt 52 (Op 54 (.build [.int .u32 0, .int .i64 0] [(0, 1), (1, 1)] [(.c (.int .u32 167772160)), (.c (.int .i64 8))])),
  Gt 52 (Ct 55 328 [53, 54]),
  Gt 52 (Un 56 .not 55),
  Pa 57 52 56,
  Mv 58 57,
  Gt 58 (Ls 59 5 1),
  Gt 58 (Op 60 (.bsl 5 [.bool false, .int .u32 0, .int .i64 0, .int .i64 0, .int .i64 0] 1 [0] [(.t 59)])),
  Gt 58 (Ls 61 2 8),
  Gt 58 (Ct 62 330 [60, 61]),
  Pa 63 58 62,
  Mv 64 63,
  Gt 64 (Ls 65 2 8),
  Gt 64 (Ca 66 330 [(.c (.con (.slice none 0 0))), (.t 65)]),
  Gt 64 (Un 67 .not 66),
  Pa 68 64 67,
  Mv 69 68,
  Gt 69 (Ls 70 5 7),
  Gt 69 (Ls 71 5 1),
  Gt 69 (Op 72 (.bsl 5 [.bool false, .int .u32 0, .int .i64 0, .int .i64 0, .int .i64 0] 2 [0, 1] [(.t 70), (.t 71)])),
  Gt 69 (Ct 73 335 [72]),
  Gt 69 (Ln 74 0 73),
  Gt 69 (Bc 75 .eql 74 1),
  Pa 76 69 75,
  Mv 77 76,
  Gt 77 (Ls 78 5 1),
  Gt 77 (Ls 79 5 7),
  Gt 77 (Op 80 (.bsl 5 [.bool false, .int .u32 0, .int .i64 0, .int .i64 0, .int .i64 0] 2 [0, 1] [(.t 78), (.t 79)])),
  Gt 77 (Ct 81 335 [80]),
  Gt 77 (Ln 82 0 81),
  Gt 77 (Bc 83 .eql 82 2),
  Pa 84 77 83,
  Mv 0 84]
def f327 : AFunc := ⟨85, 0, false, [.t 0], (.seq (.region f327x0 false) (.seq (.region f327x1 false) (.seq (.region f327x2 false) (.seq (.region f327x3 false) (.seq (.region f327x4 false) (.seq (.seq (.region f327x5 false) (.cond (.t 47) (.seq (.region f327x6 false) .ret) .skip)) (.seq (.region f327x7 false) (.seq (.region f327x8 false) .ret))))))))⟩
def f334x0 : List AOper := [
  Op 2 (.alloc (.agg [.bool false, .int .u32 0, .int .i64 0, .int .i64 0, .int .i64 0])),
  Mc 3 (.int .i64 0)]
def f334x1 : List AOper := [
  Mv 14 0,
  Ct 15 339 [14],
  Mv 13 15,
  Ex 16 13 0,
  Ex 17 13 1,
  Mv 4 16,
  Mv 5 17]
def f334x2 : List AOper := [
  Mv 18 5,
  Bc 19 .neq 18 0,
  Mv 20 19,
  Gf 20 (Mv 21 4),
  Gf 20 (Ln 22 0 21),
  Gf 20 (Bc 23 .lss 22 2),
  Po 24 20 23,
  Mv 25 24,
  Gf 25 (Mv 26 4),
  Gf 25 (Ln 27 0 26),
  Gf 25 (Bc 28 .gtr 27 3),
  Po 29 25 28]
def f334x3 : List AOper := [
  Op 30 (.build [.bool false, .int .u32 0, .int .i64 0, .int .i64 0, .int .i64 0] [] []),
  St 5 2 30,
  Mc 3 (.int .i64 2)]
def f334x4 : List AOper := [
  Mv 32 4,
  Op 33 (.iadr 1 (.t 32) (.c (.int .i64 1))),
  Ld 34 33,
  Ct 35 233 [34],
  Mv 31 35,
  Ex 36 31 0,
  Ex 37 31 1,
  Op 6 (.alloc (.agg [.int .u32 0, .int .i64 0])),
  St 2 6 36,
  Mv 5 37]
def f334x5 : List AOper := [
  Mv 38 5,
  Bc 39 .neq 38 0]
def f334x6 : List AOper := [
  Op 40 (.build [.bool false, .int .u32 0, .int .i64 0, .int .i64 0, .int .i64 0] [] []),
  St 5 2 40,
  Mc 3 (.int .i64 2)]
def f334x7 : List AOper := [
  Mv 41 4,
  Op 42 (.iadr 1 (.t 41) (.c (.int .i64 0))),
  Af [1] (Ld 43 42),
  Op 44 (.bin .eql (.t 43) (.c (.str [112, 101, 114, 109, 105, 116]))),
  Ls 45 2 6,
  Fa 46 1 6,
  Ld 47 46,
  Fa 48 1 6,
  Ld 49 48,
  Op 50 (.build [.bool false, .int .u32 0, .int .i64 0, .int .i64 0, .int .i64 0] [(0, 1), (1, 2), (3, 1), (4, 1)] [(.t 44), (.t 45), (.t 47), (.t 49)]),
  Op 7 (.alloc (.agg [.bool false, .int .u32 0, .int .i64 0, .int .i64 0, .int .i64 0])),
  Af [10, 4, 6, 8, 2, 1] (St 5 7 50)]
def f334x8 : List AOper := [
  Mv 51 4,
  Ln 52 0 51,
  Bc 53 .eql 52 3]
def f334x9 : List AOper := [
  Mv 55 4,
  Op 56 (.iadr 1 (.t 55) (.c (.int .i64 2))),
  Ld 57 56,
  Ct 58 340 [57],
  Mv 54 58,
  Ex 59 54 0,
  Ex 60 54 1,
  Ex 61 54 2,
  Mv 8 59,
  Mv 9 60,
  Mv 10 61]
def f334x10 : List AOper := [
  Mv 62 10,
  Un 63 .not 62]
def f334x11 : List AOper := [
  Op 64 (.build [.bool false, .int .u32 0, .int .i64 0, .int .i64 0, .int .i64 0] [] []),
  St 5 2 64,
  Mc 3 (.int .i64 2)]
def f334x12 : List AOper := [
  Mv 65 8,
  Mv 66 9,
  Fa 67 3 7,
  St 1 67 65,
  Fa 68 4 7,
  St 1 68 66]
def f334x13 : List AOper := [
  Ls 70 5 7,
  Ct 71 332 [70],
  Mv 69 71,
  Ex 72 69 0,
  Ex 73 69 1,
  Mv 11 72,
  Mv 12 73]
def f334x14 : List AOper := [
  Mv 74 12,
  Bc 75 .neq 74 0,
  Mv 76 75,
  Gf 76 (Mv 77 11),
  Gf 76 (Mv 78 0),
  Gf 76 (Bi 79 .neq 77 78),
  Po 80 76 79]
def f334x15 : List AOper := [
  Op 81 (.build [.bool false, .int .u32 0, .int .i64 0, .int .i64 0, .int .i64 0] [] []),
  St 5 2 81,
  Mc 3 (.int .i64 2)]
def f334x16 : List AOper := [
  Ls 82 5 7,
  St 5 2 82,
  Mc 3 (.int .i64 0)]
def f334 : AFunc := ⟨83, 1, false, [.cell 2 (some 5), .t 3], (.seq (.region f334x0 false) (.seq (.region f334x1 false) (.seq (.seq (.region f334x2 false) (.cond (.t 29) (.seq (.region f334x3 false) .ret) .skip)) (.seq (.region f334x4 false) (.seq (.seq (.region f334x5 false) (.cond (.t 39) (.seq (.region f334x6 false) .ret) .skip)) (.seq (.region f334x7 true) (.seq (.seq (.region f334x8 false) (.cond (.t 53) (.seq (.region f334x9 false) (.seq (.seq (.region f334x10 false) (.cond (.t 63) (.seq (.region f334x11 false) .ret) .skip)) (.region f334x12 false))) .skip)) (.seq (.seq (.region f334x13 false) (.seq (.region f334x14 false) (.cond (.t 80) (.seq (.region f334x15 false) .ret) .skip))) (.seq (.region f334x16 false) .ret)))))))))⟩
def f349x0 : List AOper := [
  Op 2 (.alloc (.agg [.bool false, .int .u32 0, .int .i64 0, .int .i64 0, .int .i64 0])),
  Mc 3 (.int .i64 0)]
def f349x1 : List AOper := [
  Op 11 (.build [.bool false, .int .u32 0, .int .i64 0, .int .i64 0, .int .i64 0] [] []),
  Op 4 (.alloc (.agg [.bool false, .int .u32 0, .int .i64 0, .int .i64 0, .int .i64 0])),
  St 5 4 11]
def f349x2 : List AOper := [
  Mc 5 (.str [])]
def f349x3 : List AOper := [
  Mv 14 0,
  Ln 15 1 14,
  Bc 16 .gtr 15 7,
  Mv 17 16,
  Gt 17 (Mv 18 0),
  Gt 17 (Op 19 (.slstr (.t 18) none (some (.c (.int .i64 7))))),
  Gt 17 (Op 20 (.bin .eql (.t 19) (.c (.str [112, 101, 114, 109, 105, 116, 32])))),
  Pa 21 17 20,
  Mv 13 21]
def f349x4 : List AOper := [
  Fa 22 0 4,
  ⟨none, .store 1 (.t 22) (.c (.bool true)), none, []⟩]
def f349x5 : List AOper := [
  Mv 23 0,
  Op 24 (.slstr (.t 23) (some (.c (.int .i64 7))) none),
  Mv 5 24]
def f349x6 : List AOper := [
  Mv 26 0,
  Ln 27 1 26,
  Bc 28 .gtr 27 5,
  Mv 29 28,
  Gt 29 (Mv 30 0),
  Gt 29 (Op 31 (.slstr (.t 30) none (some (.c (.int .i64 5))))),
  Gt 29 (Op 32 (.bin .eql (.t 31) (.c (.str [100, 101, 110, 121, 32])))),
  Pa 33 29 32,
  Mv 25 33]
def f349x7 : List AOper := [
  Mv 34 0,
  Op 35 (.slstr (.t 34) (some (.c (.int .i64 5))) none),
  Mv 5 35]
def f349x8 : List AOper := [
  Op 12 (.build [.bool false, .int .u32 0, .int .i64 0, .int .i64 0, .int .i64 0] [] []),
  St 5 2 12,
  Mc 3 (.int .i64 2)]
def f349x9 : List AOper := [
  Mc 6 (.int .i64 0)]
def f349x10 : List AOper := [
  Mv 36 6,
  Mv 37 5,
  Ln 38 1 37,
  Bi 39 .lss 36 38,
  Mv 40 39,
  Gt 40 (Mv 41 5),
  Gt 40 (Mv 42 6),
  Gt 40 (Op 43 (.istr (.t 41) (.t 42))),
  Gt 40 (Op 44 (.bin .neq (.t 43) (.c (.int .u8 32)))),
  Pa 45 40 44]
def f349x11 : List AOper := [
  Mv 46 6,
  Bc 47 .add 46 1,
  Mv 6 47]
def f349x12L : ACode := (.seq (.seq (.region f349x10 false) (.cond (.t 45) .skip (.exit 1))) (.block 2 (.region f349x11 false)))
def f349x13 : List AOper := [
  Mv 49 5,
  Mv 50 6,
  Op 51 (.slstr (.t 49) none (some (.t 50))),
  Ct 52 234 [51],
  Mv 48 52,
  Ex 53 48 0,
  Ex 54 48 1,
  Op 7 (.alloc (.agg [.int .u32 0, .int .i64 0])),
  St 2 7 53,
  Mv 8 54]
def f349x14 : List AOper := [
  Mv 55 8,
  Bc 56 .neq 55 0]
def f349x15 : List AOper := [
  Op 57 (.build [.bool false, .int .u32 0, .int .i64 0, .int .i64 0, .int .i64 0] [] []),
  St 5 2 57,
  Mc 3 (.int .i64 2)]
def f349x16 : List AOper := [
  Ls 58 2 7,
  Fa 59 1 4,
  St 2 59 58]
def f349x17 : List AOper := [
  Fa 60 1 7,
  Ld 61 60,
  Fa 62 3 4,
  St 1 62 61]
def f349x18 : List AOper := [
  Fa 63 3 4,
  Ld 64 63,
  Bc 65 .leq 64 32]
def f349x19 : List AOper := [
  Fa 70 3 4,
  Ld 71 70,
  Fa 72 4 4,
  St 1 72 71]
def f349x20 : List AOper := [
  Fa 73 4 4,
  Ld 74 73,
  Bc 75 .leq 74 32]
def f349x21 : List AOper := [
  Ls 81 5 4,
  Ct 82 333 [81],
  Mv 80 82,
  Ex 83 80 0,
  Ex 84 80 1,
  Mv 9 83,
  Mv 10 84]
def f349x22 : List AOper := [
  Mv 85 10,
  Bc 86 .eql 85 0,
  Mv 87 86,
  Gt 87 (Mv 88 9),
  Gt 87 (Mv 89 0),
  Gt 87 (Bi 90 .eql 88 89),
  Pa 91 87 90]
def f349x23 : List AOper := [
  Ls 92 5 4,
  St 5 2 92,
  Mc 3 (.int .i64 0)]
def f349x24 : List AOper := [
  Fa 76 4 4,
  Ld 77 76,
  Bc 78 .add 77 1,
  Fa 79 4 4,
  St 1 79 78]
def f349x25L : ACode := (.seq (.seq (.region f349x20 false) (.cond (.t 75) .skip (.exit 5))) (.seq (.block 6 (.seq (.region f349x21 false) (.seq (.region f349x22 false) (.cond (.t 91) (.seq (.region f349x23 false) .ret) .skip)))) (.region f349x24 false)))
def f349x26 : List AOper := [
  Fa 66 3 4,
  Ld 67 66,
  Bc 68 .add 67 1,
  Fa 69 3 4,
  St 1 69 68]
def f349x27L : ACode := (.seq (.seq (.region f349x18 false) (.cond (.t 65) .skip (.exit 3))) (.seq (.block 4 (.seq (.region f349x19 false) (.block 5 (.loop f349x25L)))) (.region f349x26 false)))
def f349x28 : List AOper := [
  Op 93 (.build [.bool false, .int .u32 0, .int .i64 0, .int .i64 0, .int .i64 0] [] []),
  St 5 2 93,
  Mc 3 (.int .i64 2)]
def f349 : AFunc := ⟨94, 1, false, [.cell 2 (some 5), .t 3], (.seq (.region f349x0 false) (.seq (.region f349x1 false) (.seq (.region f349x2 false) (.seq (.block 0 (.seq (.region f349x3 false) (.cond (.t 13) (.seq (.region f349x4 false) (.region f349x5 false)) (.seq (.region f349x6 false) (.cond (.t 25) (.region f349x7 false) (.seq (.region f349x8 false) .ret)))))) (.seq (.region f349x9 false) (.seq (.block 1 (.loop f349x12L)) (.seq (.region f349x13 false) (.seq (.seq (.region f349x14 false) (.cond (.t 56) (.seq (.region f349x15 false) .ret) .skip)) (.seq (.region f349x16 false) (.seq (.seq (.region f349x17 false) (.block 3 (.loop f349x27L))) (.seq (.region f349x28 false) .ret)))))))))))⟩
def f349x12LH : List AItem := [.inLoop f349x12L, .inBlock 1, .code (.seq (.region f349x13 false) (.seq (.seq (.region f349x14 false) (.cond (.t 56) (.seq (.region f349x15 false) .ret) .skip)) (.seq (.region f349x16 false) (.seq (.seq (.region f349x17 false) (.block 3 (.loop f349x27L))) (.seq (.region f349x28 false) .ret)))))]
def f349x27LH : List AItem := [.inLoop f349x27L, .inBlock 3, .code (.seq (.region f349x28 false) .ret)]
def f349x25LH : List AItem := [.inLoop f349x25L, .inBlock 5, .inBlock 4, .code (.region f349x26 false), .inLoop f349x27L, .inBlock 3, .code (.seq (.region f349x28 false) .ret)]
def f332x0 : List AOper := [
  Op 1 (.box (.t 0)),
  Mc 2 (.str []),
  Mc 3 (.int .i64 0)]
def f332x1 : List AOper := [
  Ls 6 5 1,
  Ct 7 325 [6],
  Mv 4 7]
def f332x2 : List AOper := [
  Mv 8 4,
  Bc 9 .neq 8 0]
def f332x3 : List AOper := [
  Mv 10 4,
  Mc 2 (.str []),
  Mv 3 10]
def f332x4 : List AOper := [
  Mc 5 (.str [100, 101, 110, 121, 32])]
def f332x5 : List AOper := [
  Fa 11 0 1,
  Ld 12 11]
def f332x6 : List AOper := [
  Mc 5 (.str [112, 101, 114, 109, 105, 116, 32])]
def f332x7 : List AOper := [
  Mv 13 5,
  Fa 14 1 1,
  Ls 15 2 14,
  Ct 16 229 [15],
  Bi 17 .add 13 16,
  Mv 5 17]
def f332x8 : List AOper := [
  Fa 18 3 1,
  Ld 19 18,
  Fa 20 1 1,
  Fa 21 1 20,
  Ld 22 21,
  Bi 23 .neq 19 22,
  Mv 24 23,
  Gf 24 (Fa 25 4 1),
  Gf 24 (Ld 26 25),
  Gf 24 (Fa 27 1 1),
  Gf 24 (Fa 28 1 27),
  Gf 24 (Ld 29 28),
  Gf 24 (Bi 30 .neq 26 29),
  Po 31 24 30]
def f332x9 : List AOper := [
  Mv 32 5,
  Fa 33 3 1,
  Ld 34 33,
  Af [2] (Ct 35 337 [34]),
  Op 36 (.bin .add (.c (.str [32])) (.t 35)),
  Op 37 (.bin .add (.t 36) (.c (.str [45]))),
  Fa 38 4 1,
  Ld 39 38,
  Af [7, 3, 2] (Ct 40 337 [39]),
  Bi 41 .add 37 40,
  Bi 42 .add 32 41,
  Mv 5 42]
def f332x10 : List AOper := [
  Mv 43 5,
  Mv 2 43,
  Mc 3 (.int .i64 0)]
def f332 : AFunc := ⟨44, 1, false, [.t 2, .t 3], (.seq (.region f332x0 false) (.seq (.seq (.region f332x1 false) (.seq (.region f332x2 false) (.cond (.t 9) (.seq (.region f332x3 false) .ret) .skip))) (.seq (.region f332x4 false) (.seq (.seq (.region f332x5 false) (.cond (.t 12) (.region f332x6 false) .skip)) (.seq (.region f332x7 false) (.seq (.seq (.region f332x8 false) (.cond (.t 31) (.region f332x9 true) .skip)) (.seq (.region f332x10 false) .ret)))))))⟩
def f325x0 : List AOper := [
  Op 1 (.box (.t 0)),
  Mc 2 (.int .i64 0)]
def f325x1 : List AOper := [
  Fa 4 1 1,
  Ls 5 2 4,
  Ct 6 178 [5],
  Un 7 .not 6,
  Mv 3 7]
def f325x2 : List AOper := [
  Mc 2 (.int .i64 1)]
def f325x3 : List AOper := [
  Fa 9 3 1,
  Ld 10 9,
  Fa 11 1 1,
  Fa 12 1 11,
  Ld 13 12,
  Bi 14 .lss 10 13,
  Mv 15 14,
  Gf 15 (Fa 16 4 1),
  Gf 15 (Ld 17 16),
  Gf 15 (Fa 18 3 1),
  Gf 15 (Ld 19 18),
  Gf 15 (Bi 20 .lss 17 19),
  Po 21 15 20,
  Mv 22 21,
  Gf 22 (Fa 23 4 1),
  Gf 22 (Ld 24 23),
  Gf 22 (Bc 25 .gtr 24 32),
  Po 26 22 25,
  Mv 8 26]
def f325x4 : List AOper := [
  Mc 2 (.int .i64 5)]
def f325x5 : List AOper := [
  Mc 2 (.int .i64 0)]
def f325 : AFunc := ⟨27, 1, false, [.t 2], (.seq (.region f325x0 false) (.seq (.block 0 (.seq (.region f325x1 false) (.cond (.t 3) (.seq (.region f325x2 false) .ret) (.seq (.region f325x3 false) (.cond (.t 8) (.seq (.region f325x4 false) .ret) .skip))))) (.seq (.region f325x5 false) .ret)))⟩
def f328x0 : List AOper := [
  Op 2 (.box (.t 0)),
  Op 3 (.box (.t 1)),
  Mc 4 (.bool false)]
def f328x1 : List AOper := [
  Ls 5 5 2,
  Ct 6 325 [5],
  Bc 7 .eql 6 0,
  Mv 8 7,
  Gt 8 (Fa 9 1 2),
  Gt 8 (Ls 10 2 9),
  Gt 8 (Ls 11 2 3),
  Gt 8 (Ct 12 237 [10, 11]),
  Pa 13 8 12,
  Mv 14 13,
  Gt 14 (Fa 15 3 2),
  Gt 14 (Ld 16 15),
  Gt 14 (Fa 17 1 3),
  Gt 14 (Ld 18 17),
  Gt 14 (Bi 19 .leq 16 18),
  Pa 20 14 19,
  Mv 21 20,
  Gt 21 (Fa 22 1 3),
  Gt 21 (Ld 23 22),
  Gt 21 (Fa 24 4 2),
  Gt 21 (Ld 25 24),
  Gt 21 (Bi 26 .leq 23 25),
  Pa 27 21 26,
  Mv 4 27]
def f328 : AFunc := ⟨28, 2, false, [.t 4], (.seq (.region f328x0 false) (.seq (.region f328x1 false) .ret))⟩
def f330x0 : List AOper := [
  Op 3 (.box (.t 1)),
  Mc 4 (.bool false)]
def f330x1 : List AOper := [
  Mv 7 0,
  Ln 8 0 7,
  Mc 9 (.int .i64 0)]
def f330x2 : List AOper := [
  Bi 10 .lss 9 8]
def f330x3 : List AOper := [
  Ia 11 5 7 9,
  Ls 12 5 11,
  Op 6 (.alloc (.agg [.bool false, .int .u32 0, .int .i64 0, .int .i64 0, .int .i64 0])),
  St 5 6 12]
def f330x4 : List AOper := [
  Ls 13 5 6,
  Ls 14 2 3,
  Ct 15 328 [13, 14]]
def f330x5 : List AOper := [
  Fa 16 0 6,
  Ld 17 16,
  Mv 4 17]
def f330x6 : List AOper := [
  Bc 18 .add 9 1,
  Mv 9 18]
def f330x7L : ACode := (.seq (.region f330x2 false) (.seq (.cond (.t 10) .skip (.exit 0)) (.seq (.block 1 (.seq (.region f330x3 false) (.seq (.region f330x4 false) (.cond (.t 15) (.seq (.region f330x5 false) .ret) .skip)))) (.region f330x6 false))))
def f330x8 : List AOper := [
  Mc 4 (.bool false)]
def f330 : AFunc := ⟨19, 2, false, [.t 4], (.seq (.region f330x0 false) (.seq (.seq (.region f330x1 false) (.block 0 (.loop f330x7L))) (.seq (.region f330x8 false) .ret)))⟩
def f335x0 : List AOper := [
  Mc 2 (.con (.slice none 0 0))]
def f335x1 : List AOper := [
  Op 3 (.alloc (.con (.slice none 0 0)))]
def f335x2 : List AOper := [
  Op 7 (.mkfn 341 [(.t 3)]),
  Mv 4 7]
def f335x3 : List AOper := [
  Mv 8 0,
  Ln 9 0 8,
  Mc 10 (.int .i64 0)]
def f335x4 : List AOper := [
  Bi 11 .lss 10 9]
def f335x5 : List AOper := [
  Ia 12 5 8 10,
  Ls 13 5 12,
  Op 6 (.alloc (.agg [.bool false, .int .u32 0, .int .i64 0, .int .i64 0, .int .i64 0])),
  St 5 6 13]
def f335x6 : List AOper := [
  Mv 14 4,
  Ls 15 5 6,
  Op 16 (.call (.t 14) [(.t 15)])]
def f335x7 : List AOper := [
  Ld 17 3,
  Ls 18 5 6,
  Op 19 (.bsl 5 [.bool false, .int .u32 0, .int .i64 0, .int .i64 0, .int .i64 0] 1 [0] [(.t 18)]),
  Ap 20 5 40 17 19,
  St 1 3 20]
def f335x8 : List AOper := [
  Bc 21 .add 10 1,
  Mv 10 21]
def f335x9L : ACode := (.seq (.region f335x4 false) (.seq (.cond (.t 11) .skip (.exit 0)) (.seq (.block 1 (.seq (.region f335x5 false) (.seq (.region f335x6 false) (.cond (.t 16) (.region f335x7 false) .skip)))) (.region f335x8 false))))
def f335x10 : List AOper := [
  Ld 22 3,
  Mv 2 22]
def f335 : AFunc := ⟨23, 1, false, [.t 2], (.seq (.region f335x0 false) (.seq (.region f335x1 false) (.seq (.region f335x2 false) (.seq (.seq (.region f335x3 false) (.block 0 (.loop f335x9L))) (.seq (.region f335x10 false) .ret)))))⟩
def f339x0 : List AOper := [
  Mc 2 (.con (.slice none 0 0)),
  Mc 3 (.int .i64 0)]
def f339x1 : List AOper := [
  Mv 7 0,
  Op 8 (.bin .eql (.t 7) (.c (.str [])))]
def f339x2 : List AOper := [
  Mc 2 (.con (.slice none 0 0)),
  Mc 3 (.int .i64 0)]
def f339x3 : List AOper := [
  Mv 9 0,
  Ca 10 345 [(.t 9), (.c (.str [10]))]]
def f339x4 : List AOper := [
  Mc 2 (.con (.slice none 0 0)),
  Mc 3 (.int .i64 2)]
def f339x5 : List AOper := [
  Mv 11 0,
  Ca 12 249 [(.t 11), (.c (.str [32]))],
  Mv 4 12]
def f339x6 : List AOper := [
  Mv 13 4,
  Ln 14 0 13,
  Mc 15 (.int .i64 0)]
def f339x7 : List AOper := [
  Bi 16 .lss 15 14]
def f339x8 : List AOper := [
  Ia 17 1 13 15,
  Ld 18 17,
  Mv 6 18]
def f339x9 : List AOper := [
  Mv 19 6,
  Op 20 (.bin .eql (.t 19) (.c (.str [])))]
def f339x10 : List AOper := [
  Mc 2 (.con (.slice none 0 0)),
  Mc 3 (.int .i64 2)]
def f339x11 : List AOper := [
  Bc 21 .add 15 1,
  Mv 15 21]
def f339x12L : ACode := (.seq (.region f339x7 false) (.seq (.cond (.t 16) .skip (.exit 0)) (.seq (.block 1 (.seq (.region f339x8 false) (.seq (.region f339x9 false) (.cond (.t 20) (.seq (.region f339x10 false) .ret) .skip)))) (.region f339x11 false))))
def f339x13 : List AOper := [
  Mv 22 4,
  Mv 2 22,
  Mc 3 (.int .i64 0)]
def f339 : AFunc := ⟨23, 1, false, [.t 2, .t 3], (.seq (.region f339x0 false) (.seq (.seq (.region f339x1 false) (.cond (.t 8) (.seq (.region f339x2 false) .ret) .skip)) (.seq (.seq (.region f339x3 false) (.cond (.t 10) (.seq (.region f339x4 false) .ret) .skip)) (.seq (.region f339x5 false) (.seq (.seq (.region f339x6 false) (.block 0 (.loop f339x12L))) (.seq (.region f339x13 false) .ret))))))⟩
def f339x12LH : List AItem := [.inLoop f339x12L, .inBlock 0, .code (.seq (.region f339x13 false) .ret)]
def f233x0 : List AOper := [
  Op 2 (.alloc (.agg [.int .u32 0, .int .i64 0])),
  Mc 3 (.int .i64 0)]
def f233x1 : List AOper := [
  Mv 13 0,
  Ca 14 252 [(.t 13), (.c (.str [47]))],
  Mv 12 14,
  Ex 15 12 0,
  Ex 16 12 1,
  Ex 17 12 2,
  Mv 4 15,
  Mv 5 16,
  Mv 6 17]
def f233x2 : List AOper := [
  Mv 19 4,
  Ct 20 231 [19],
  Mv 18 20,
  Ex 21 18 0,
  Ex 22 18 1,
  Mv 7 21,
  Mv 8 22]
def f233x3 : List AOper := [
  Mv 24 5,
  Ca 25 250 [(.t 24), (.c (.int .i64 32))],
  Mv 23 25,
  Ex 26 23 0,
  Ex 27 23 1,
  Mv 9 26,
  Mv 10 27]
def f233x4 : List AOper := [
  Mv 28 6,
  Un 29 .not 28,
  Mv 30 29,
  Gf 30 (Mv 31 8),
  Gf 30 (Bc 32 .neq 31 0),
  Po 33 30 32,
  Mv 34 33,
  Gf 34 (Mv 35 10),
  Gf 34 (Un 36 .not 35),
  Po 37 34 36]
def f233x5 : List AOper := [
  Op 38 (.build [.int .u32 0, .int .i64 0] [] []),
  St 2 2 38,
  Mc 3 (.int .i64 2)]
def f233x6 : List AOper := [
  Mv 39 7,
  Mv 40 9,
  Op 41 (.build [.int .u32 0, .int .i64 0] [(0, 1), (1, 1)] [(.t 39), (.t 40)]),
  Op 11 (.alloc (.agg [.int .u32 0, .int .i64 0])),
  St 2 11 41]
def f233x7 : List AOper := [
  Ls 42 2 11,
  Ct 43 178 [42],
  Un 44 .not 43]
def f233x8 : List AOper := [
  Op 45 (.build [.int .u32 0, .int .i64 0] [] []),
  St 2 2 45,
  Mc 3 (.int .i64 1)]
def f233x9 : List AOper := [
  Ls 46 2 11,
  St 2 2 46,
  Mc 3 (.int .i64 0)]
def f233 : AFunc := ⟨47, 1, false, [.cell 2 (some 2), .t 3], (.seq (.region f233x0 false) (.seq (.region f233x1 false) (.seq (.region f233x2 false) (.seq (.region f233x3 false) (.seq (.seq (.region f233x4 false) (.cond (.t 37) (.seq (.region f233x5 false) .ret) .skip)) (.seq (.region f233x6 false) (.seq (.seq (.region f233x7 false) (.cond (.t 44) (.seq (.region f233x8 false) .ret) .skip)) (.seq (.region f233x9 false) .ret))))))))⟩
def f340x0 : List AOper := [
  Mc 2 (.int .i64 0),
  Mc 3 (.int .i64 0),
  Mc 4 (.bool false)]
def f340x1 : List AOper := [
  Mv 10 0,
  Ln 11 1 10,
  Mc 12 (.int .i64 0)]
def f340x2 : List AOper := [
  Bi 13 .lss 12 11]
def f340x3 : List AOper := [
  Mv 14 12,
  Mv 5 14]
def f340x4 : List AOper := [
  Mv 15 0,
  Mv 16 5,
  Op 17 (.istr (.t 15) (.t 16)),
  Op 18 (.bin .eql (.t 17) (.c (.int .u8 45)))]
def f340x5 : List AOper := [
  Mv 20 0,
  Mv 21 5,
  Op 22 (.slstr (.t 20) none (some (.t 21))),
  Ca 23 346 [(.t 22), (.c (.int .i64 32))],
  Mv 19 23,
  Ex 24 19 0,
  Ex 25 19 1,
  Mv 6 24,
  Mv 7 25]
def f340x6 : List AOper := [
  Mv 27 0,
  Mv 28 5,
  Bc 29 .add 28 1,
  Op 30 (.slstr (.t 27) (some (.t 29)) none),
  Ca 31 346 [(.t 30), (.c (.int .i64 32))],
  Mv 26 31,
  Ex 32 26 0,
  Ex 33 26 1,
  Mv 8 32,
  Mv 9 33]
def f340x7 : List AOper := [
  Mv 34 6,
  Mv 35 8,
  Mv 36 7,
  Bc 37 .eql 36 0,
  Mv 38 37,
  Gt 38 (Mv 39 9),
  Gt 38 (Bc 40 .eql 39 0),
  Pa 41 38 40,
  Mv 2 34,
  Mv 3 35,
  Mv 4 41]
def f340x8 : List AOper := [
  Bc 42 .add 12 1,
  Mv 12 42]
def f340x9L : ACode := (.seq (.region f340x2 false) (.seq (.cond (.t 13) .skip (.exit 0)) (.seq (.block 1 (.seq (.region f340x3 false) (.seq (.region f340x4 false) (.cond (.t 18) (.seq (.region f340x5 false) (.seq (.region f340x6 false) (.seq (.region f340x7 false) .ret))) .skip)))) (.region f340x8 false))))
def f340x10 : List AOper := [
  Mc 2 (.int .i64 0),
  Mc 3 (.int .i64 0),
  Mc 4 (.bool false)]
def f340 : AFunc := ⟨43, 1, false, [.t 2, .t 3, .t 4], (.seq (.region f340x0 false) (.seq (.seq (.region f340x1 false) (.block 0 (.loop f340x9L))) (.seq (.region f340x10 false) .ret)))⟩
def f340x9LH : List AItem := [.inLoop f340x9L, .inBlock 0, .code (.seq (.region f340x10 false) .ret)]
def f234x0 : List AOper := [
  Op 2 (.alloc (.agg [.int .u32 0, .int .i64 0])),
  Mc 3 (.int .i64 0)]
def f234x1 : List AOper := [
  Mv 10 0,
  Ct 11 251 [10],
  Mv 9 11,
  Ex 12 9 0,
  Ex 13 9 1,
  Mv 4 12,
  Mv 5 13]
def f234x2 : List AOper := [
  Mv 14 5,
  Bc 15 .lss 14 0,
  Mv 16 15,
  Gf 16 (Mv 17 5),
  Gf 16 (Mv 18 0),
  Gf 16 (Ln 19 1 18),
  Gf 16 (Bi 20 .geq 17 19),
  Po 21 16 20,
  Mv 22 21,
  Gf 22 (Mv 23 0),
  Gf 22 (Mv 24 5),
  Gf 22 (Op 25 (.istr (.t 23) (.t 24))),
  Gf 22 (Op 26 (.bin .neq (.t 25) (.c (.int .u8 47)))),
  Po 27 22 26]
def f234x3 : List AOper := [
  Op 28 (.build [.int .u32 0, .int .i64 0] [] []),
  St 2 2 28,
  Mc 3 (.int .i64 2)]
def f234x4 : List AOper := [
  Mv 30 0,
  Mv 31 5,
  Bc 32 .add 31 1,
  Ca 33 253 [(.t 30), (.t 32), (.c (.int .i64 32))],
  Mv 29 33,
  Ex 34 29 0,
  Ex 35 29 1,
  Mv 6 34,
  Mv 7 35]
def f234x5 : List AOper := [
  Mv 36 7,
  Mv 37 0,
  Ln 38 1 37,
  Bi 39 .neq 36 38]
def f234x6 : List AOper := [
  Op 40 (.build [.int .u32 0, .int .i64 0] [] []),
  St 2 2 40,
  Mc 3 (.int .i64 2)]
def f234x7 : List AOper := [
  Mv 41 4,
  Mv 42 6,
  Op 43 (.build [.int .u32 0, .int .i64 0] [(0, 1), (1, 1)] [(.t 41), (.t 42)]),
  Op 8 (.alloc (.agg [.int .u32 0, .int .i64 0])),
  St 2 8 43]
def f234x8 : List AOper := [
  Ls 44 2 8,
  Ct 45 179 [44],
  Un 46 .not 45]
def f234x9 : List AOper := [
  Op 47 (.build [.int .u32 0, .int .i64 0] [] []),
  St 2 2 47,
  Mc 3 (.int .i64 1)]
def f234x10 : List AOper := [
  Ls 48 2 8,
  St 2 2 48,
  Mc 3 (.int .i64 0)]
def f234 : AFunc := ⟨49, 1, false, [.cell 2 (some 2), .t 3], (.seq (.region f234x0 false) (.seq (.region f234x1 false) (.seq (.seq (.region f234x2 false) (.cond (.t 27) (.seq (.region f234x3 false) .ret) .skip)) (.seq (.region f234x4 false) (.seq (.seq (.region f234x5 false) (.cond (.t 39) (.seq (.region f234x6 false) .ret) .skip)) (.seq (.region f234x7 false) (.seq (.seq (.region f234x8 false) (.cond (.t 46) (.seq (.region f234x9 false) .ret) .skip)) (.seq (.region f234x10 false) .ret))))))))⟩
def f333x0 : List AOper := [
  Op 1 (.box (.t 0)),
  Mc 2 (.str []),
  Mc 3 (.int .i64 0)]
def f333x1 : List AOper := [
  Ls 6 5 1,
  Ct 7 326 [6],
  Mv 4 7]
def f333x2 : List AOper := [
  Mv 8 4,
  Bc 9 .neq 8 0]
def f333x3 : List AOper := [
  Mv 10 4,
  Mc 2 (.str []),
  Mv 3 10]
def f333x4 : List AOper := [
  Mc 5 (.str [100, 101, 110, 121, 32])]
def f333x5 : List AOper := [
  Fa 11 0 1,
  Ld 12 11]
def f333x6 : List AOper := [
  Mc 5 (.str [112, 101, 114, 109, 105, 116, 32])]
def f333x7 : List AOper := [
  Mv 13 5,
  Fa 14 1 1,
  Ls 15 2 14,
  Ct 16 230 [15],
  Bi 17 .add 13 16,
  Mv 5 17]
def f333x8 : List AOper := [
  Fa 18 3 1,
  Ld 19 18,
  Fa 20 1 1,
  Fa 21 1 20,
  Ld 22 21,
  Bi 23 .neq 19 22,
  Mv 24 23,
  Gf 24 (Fa 25 4 1),
  Gf 24 (Ld 26 25),
  Gf 24 (Fa 27 1 1),
  Gf 24 (Fa 28 1 27),
  Gf 24 (Ld 29 28),
  Gf 24 (Bi 30 .neq 26 29),
  Po 31 24 30]
def f333x9 : List AOper := [
  Mv 32 5,
  Fa 33 3 1,
  Ld 34 33,
  Af [2] (Ct 35 338 [34]),
  Op 36 (.bin .add (.c (.str [32])) (.t 35)),
  Op 37 (.bin .add (.t 36) (.c (.str [45]))),
  Fa 38 4 1,
  Ld 39 38,
  Af [7, 3, 2] (Ct 40 338 [39]),
  Bi 41 .add 37 40,
  Bi 42 .add 32 41,
  Mv 5 42]
def f333x10 : List AOper := [
  Mv 43 5,
  Mv 2 43,
  Mc 3 (.int .i64 0)]
def f333 : AFunc := ⟨44, 1, false, [.t 2, .t 3], (.seq (.region f333x0 false) (.seq (.seq (.region f333x1 false) (.seq (.region f333x2 false) (.cond (.t 9) (.seq (.region f333x3 false) .ret) .skip))) (.seq (.region f333x4 false) (.seq (.seq (.region f333x5 false) (.cond (.t 12) (.region f333x6 false) .skip)) (.seq (.region f333x7 false) (.seq (.seq (.region f333x8 false) (.cond (.t 31) (.region f333x9 true) .skip)) (.seq (.region f333x10 false) .ret)))))))⟩
def f229x0 : List AOper := [
  Op 1 (.box (.t 0)),
  Mc 2 (.str [])]
def f229x1 : List AOper := [
  Ls 3 2 1,
  Ct 4 178 [3],
  Un 5 .not 4]
def f229x2 : List AOper := [
  Mc 2 (.str [])]
def f229x3 : List AOper := [
  Fa 6 0 1,
  Ld 7 6,
  Af [1] (Ct 8 227 [7]),
  Op 9 (.bin .add (.t 8) (.c (.str [47]))),
  Fa 10 1 1,
  Ld 11 10,
  Af [5, 2, 1] (Ct 12 246 [11]),
  Bi 13 .add 9 12,
  Mv 2 13]
def f229 : AFunc := ⟨14, 1, false, [.t 2], (.seq (.region f229x0 false) (.seq (.seq (.region f229x1 false) (.cond (.t 5) (.seq (.region f229x2 false) .ret) .skip)) (.seq (.region f229x3 true) .ret)))⟩
def f337x0 : List AOper := [
  Mc 2 (.str [])]
def f337x1 : List AOper := [
  Mv 3 0,
  Ct 4 246 [3],
  Mv 2 4]
def f337 : AFunc := ⟨5, 1, false, [.t 2], (.seq (.region f337x0 false) (.seq (.region f337x1 false) .ret))⟩
def f178x0 : List AOper := [
  Op 1 (.box (.t 0)),
  Mc 2 (.bool false)]
def f178x1 : List AOper := [
  Fa 3 1 1,
  Ld 4 3,
  Bc 5 .geq 4 0,
  Mv 6 5,
  Gt 6 (Fa 7 1 1),
  Af [1] (Gt 6 (Ld 8 7)),
  Gt 6 (Bc 9 .leq 8 32),
  Pa 10 6 9,
  Mv 11 10,
  Gt 11 (Fa 12 0 1),
  Af [5, 1] (Gt 11 (Ld 13 12)),
  Gt 11 (Fa 14 1 1),
  Af [5, 1] (Gt 11 (Ld 15 14)),
  Af [10, 12, 5, 1] (Gt 11 (Ct 16 181 [13, 15])),
  Gt 11 (Fa 17 0 1),
  Af [5, 1] (Gt 11 (Ld 18 17)),
  Gt 11 (Bi 19 .eql 16 18),
  Pa 20 11 19,
  Mv 2 20]
def f178 : AFunc := ⟨21, 1, false, [.t 2], (.seq (.region f178x0 false) (.seq (.region f178x1 true) .ret))⟩
def f237x0 : List AOper := [
  Op 2 (.box (.t 0)),
  Op 3 (.box (.t 1)),
  Mc 4 (.bool false)]
def f237x1 : List AOper := [
  Ls 5 2 3,
  Ct 6 178 [5],
  Mv 7 6,
  Gt 7 (Fa 8 1 2),
  Gt 7 (Ld 9 8),
  Gt 7 (Fa 10 1 3),
  Gt 7 (Ld 11 10),
  Gt 7 (Bi 12 .leq 9 11),
  Pa 13 7 12,
  Mv 14 13,
  Gt 14 (Ls 15 2 2),
  Gt 14 (Fa 16 0 3),
  Gt 14 (Ld 17 16),
  Gt 14 (Ct 18 235 [15, 17]),
  Pa 19 14 18,
  Mv 4 19]
def f237 : AFunc := ⟨20, 2, false, [.t 4], (.seq (.region f237x0 false) (.seq (.region f237x1 false) .ret))⟩
def f341x0 : List AOper := [
  Op 2 (.box (.t 0)),
  Mc 3 (.bool false)]
def f341x1 : List AOper := [
  Ld 6 1,
  Ln 7 0 6,
  Mc 8 (.int .i64 0)]
def f341x2 : List AOper := [
  Bi 9 .lss 8 7]
def f341x3 : List AOper := [
  Ia 10 5 6 8,
  Ls 11 5 10,
  Op 5 (.alloc (.agg [.bool false, .int .u32 0, .int .i64 0, .int .i64 0, .int .i64 0])),
  St 5 5 11]
def f341x4 : List AOper := [
  Ls 12 5 5,
  Ls 13 5 2,
  Ct 14 342 [12, 13]]
def f341x5 : List AOper := [
  Mc 3 (.bool false)]
def f341x6 : List AOper := [
  Bc 15 .add 8 1,
  Mv 8 15]
def f341x7L : ACode := (.seq (.region f341x2 false) (.seq (.cond (.t 9) .skip (.exit 0)) (.seq (.block 1 (.seq (.region f341x3 false) (.seq (.region f341x4 false) (.cond (.t 14) (.seq (.region f341x5 false) .ret) .skip)))) (.region f341x6 false))))
def f341x8 : List AOper := [
  Ls 16 5 2,
  Ct 17 325 [16],
  Bc 18 .eql 17 0,
  Mv 3 18]
def f341 : AFunc := ⟨19, 2, false, [.t 3], (.seq (.region f341x0 false) (.seq (.seq (.region f341x1 false) (.block 0 (.loop f341x7L))) (.seq (.region f341x8 false) .ret)))⟩
def f342x0 : List AOper := [
  Op 2 (.box (.t 0)),
  Op 3 (.box (.t 1)),
  Mc 4 (.bool false)]
def f342x1 : List AOper := [
  Ls 5 5 2,
  Ls 6 5 3,
  Op 7 (.eqs [.bool, .int, .int, .int, .int] false (.t 5) (.t 6)),
  Mv 8 7,
  Gf 8 (Fa 9 1 2),
  Gf 8 (Ls 10 2 9),
  Gf 8 (Fa 11 1 3),
  Gf 8 (Ls 12 2 11),
  Gf 8 (Ct 13 237 [10, 12]),
  Gf 8 (Mv 14 13),
  Gt 14 (Fa 15 3 2),
  Gt 14 (Ld 16 15),
  Gt 14 (Fa 17 3 3),
  Gt 14 (Ld 18 17),
  Gt 14 (Bi 19 .leq 16 18),
  Gf 8 (Pa 20 14 19),
  Gf 8 (Mv 21 20),
  Gt 21 (Fa 22 4 2),
  Gt 21 (Ld 23 22),
  Gt 21 (Fa 24 4 3),
  Gt 21 (Ld 25 24),
  Gt 21 (Bi 26 .geq 23 25),
  Gf 8 (Pa 27 21 26),
  Po 28 8 27,
  Mv 4 28]
def f342 : AFunc := ⟨29, 2, false, [.t 4], (.seq (.region f342x0 false) (.seq (.region f342x1 false) .ret))⟩
def f231x0 : List AOper := [
  Mc 2 (.int .u32 0),
  Mc 3 (.int .i64 0)]
def f231x1 : List AOper := [
  Mv 10 0,
  Ca 11 249 [(.t 10), (.c (.str [46]))],
  Mv 4 11]
def f231x2 : List AOper := [
  Mv 12 4,
  Ln 13 0 12,
  Bc 14 .neq 13 4]
def f231x3 : List AOper := [
  Mc 2 (.int .u32 0),
  Mc 3 (.int .i64 2)]
def f231x4 : List AOper := [
  Mc 5 (.int .u32 0)]
def f231x5 : List AOper := [
  Mv 15 4,
  Ln 16 0 15,
  Mc 17 (.int .i64 0)]
def f231x6 : List AOper := [
  Bi 18 .lss 17 16]
def f231x7 : List AOper := [
  Ia 19 1 15 17,
  Ld 20 19,
  Mv 7 20]
def f231x8 : List AOper := [
  Mv 22 7,
  Ca 23 250 [(.t 22), (.c (.int .i64 255))],
  Mv 21 23,
  Ex 24 21 0,
  Ex 25 21 1,
  Mv 8 24,
  Mv 9 25]
def f231x9 : List AOper := [
  Mv 26 9,
  Un 27 .not 26]
def f231x10 : List AOper := [
  Mc 2 (.int .u32 0),
  Mc 3 (.int .i64 2)]
def f231x11 : List AOper := [
  Mv 28 5,
  Op 29 (.bin .shl (.t 28) (.c (.int .u64 8))),
  Mv 30 8,
  Cv 31 .u32 30,
  Bi 32 .or 29 31,
  Mv 5 32]
def f231x12 : List AOper := [
  Bc 33 .add 17 1,
  Mv 17 33]
def f231x13L : ACode := (.seq (.region f231x6 false) (.seq (.cond (.t 18) .skip (.exit 0)) (.seq (.block 1 (.seq (.region f231x7 false) (.seq (.region f231x8 false) (.seq (.seq (.region f231x9 false) (.cond (.t 27) (.seq (.region f231x10 false) .ret) .skip)) (.region f231x11 false))))) (.region f231x12 false))))
def f231x14 : List AOper := [
  Mv 34 5,
  Mv 2 34,
  Mc 3 (.int .i64 0)]
def f231 : AFunc := ⟨35, 1, false, [.t 2, .t 3], (.seq (.region f231x0 false) (.seq (.region f231x1 false) (.seq (.seq (.region f231x2 false) (.cond (.t 14) (.seq (.region f231x3 false) .ret) .skip)) (.seq (.region f231x4 false) (.seq (.seq (.region f231x5 false) (.block 0 (.loop f231x13L))) (.seq (.region f231x14 false) .ret))))))⟩
def f231x13LH : List AItem := [.inLoop f231x13L, .inBlock 0, .code (.seq (.region f231x14 false) .ret)]
def f250x0 : List AOper := [
  Mc 4 (.int .i64 0),
  Mc 5 (.bool false)]
def f250x1 : List AOper := [
  Mv 9 0,
  Ct 10 263 [9],
  Mv 8 10,
  Ex 11 8 0,
  Ex 12 8 1,
  Mv 6 11,
  Mv 7 12]
def f250x2 : List AOper := [
  Mv 13 6,
  Mv 14 7,
  Op 15 (.eqn .iface false (.t 14) (.c (.con (.nilIface)))),
  Mv 16 15,
  Gt 16 (Mv 17 6),
  Gt 16 (Bc 18 .geq 17 0),
  Pa 19 16 18,
  Mv 20 19,
  Gt 20 (Mv 21 6),
  Gt 20 (Mv 22 1),
  Gt 20 (Bi 23 .leq 21 22),
  Pa 24 20 23,
  Mv 25 24,
  Gt 25 (Mv 26 6),
  Gt 25 (Ct 27 246 [26]),
  Gt 25 (Mv 28 0),
  Gt 25 (Bi 29 .eql 27 28),
  Pa 30 25 29,
  Mv 4 13,
  Mv 5 30]
def f250 : AFunc := ⟨31, 2, false, [.t 4, .t 5], (.seq (.region f250x0 false) (.seq (.region f250x1 false) (.seq (.region f250x2 false) .ret)))⟩
def f346x0 : List AOper := [
  Mc 4 (.int .i64 0),
  Mc 5 (.int .i64 0)]
def f346x1 : List AOper := [
  Mv 9 0,
  Ct 10 347 [9],
  Un 11 .not 10]
def f346x2 : List AOper := [
  Mc 4 (.int .i64 0),
  Mc 5 (.int .i64 2)]
def f346x3 : List AOper := [
  Mc 6 (.int .i64 0)]
def f346x4 : List AOper := [
  Mv 12 0,
  Ln 13 1 12,
  Mc 14 (.int .i64 0)]
def f346x5 : List AOper := [
  Bi 15 .lss 14 13]
def f346x6 : List AOper := [
  Mv 16 14,
  Mv 7 16]
def f346x7 : List AOper := [
  Mv 17 0,
  Mv 18 7,
  Op 19 (.istr (.t 17) (.t 18)),
  Op 20 (.bin .sub (.t 19) (.c (.int .u8 48))),
  Cv 21 .i64 20,
  Mv 8 21]
def f346x8 : List AOper := [
  Mv 22 6,
  Mv 23 8,
  Op 24 (.bin .sub (.c (.int .i64 9223372036854775807)) (.t 23)),
  Bc 25 .quo 24 10,
  Bi 26 .gtr 22 25]
def f346x9 : List AOper := [
  Mc 4 (.int .i64 0),
  Mc 5 (.int .i64 5)]
def f346x10 : List AOper := [
  Mv 27 6,
  Op 28 (.bin .mul (.c (.int .i64 10)) (.t 27)),
  Mv 29 8,
  Bi 30 .add 28 29,
  Mv 6 30]
def f346x11 : List AOper := [
  Bc 31 .add 14 1,
  Mv 14 31]
def f346x12L : ACode := (.seq (.region f346x5 false) (.seq (.cond (.t 15) .skip (.exit 0)) (.seq (.block 1 (.seq (.region f346x6 false) (.seq (.region f346x7 false) (.seq (.seq (.region f346x8 false) (.cond (.t 26) (.seq (.region f346x9 false) .ret) .skip)) (.region f346x10 false))))) (.region f346x11 false))))
def f346x13 : List AOper := [
  Mv 32 6,
  Mv 33 1,
  Bi 34 .gtr 32 33]
def f346x14 : List AOper := [
  Mc 4 (.int .i64 0),
  Mc 5 (.int .i64 5)]
def f346x15 : List AOper := [
  Mv 35 6,
  Mv 4 35,
  Mc 5 (.int .i64 0)]
def f346 : AFunc := ⟨36, 2, false, [.t 4, .t 5], (.seq (.region f346x0 false) (.seq (.seq (.region f346x1 false) (.cond (.t 11) (.seq (.region f346x2 false) .ret) .skip)) (.seq (.region f346x3 false) (.seq (.seq (.region f346x4 false) (.block 0 (.loop f346x12L))) (.seq (.seq (.region f346x13 false) (.cond (.t 34) (.seq (.region f346x14 false) .ret) .skip)) (.seq (.region f346x15 false) .ret))))))⟩
def f346x12LH : List AItem := [.inLoop f346x12L, .inBlock 0, .code (.seq (.seq (.region f346x13 false) (.cond (.t 34) (.seq (.region f346x14 false) .ret) .skip)) (.seq (.region f346x15 false) .ret))]
def f251x0 : List AOper := [
  Mc 2 (.int .u32 0),
  Mc 3 (.int .i64 0)]
def f251x1 : List AOper := [
  Mc 4 (.int .u32 0)]
def f251x2 : List AOper := [
  Mc 5 (.int .i64 0)]
def f251x3 : List AOper := [
  Mc 9 (.int .i64 0)]
def f251x4 : List AOper := [
  Bc 10 .lss 9 4]
def f251x5 : List AOper := [
  Mv 11 9,
  Mv 6 11]
def f251x6 : List AOper := [
  Mv 12 6,
  Bc 13 .gtr 12 0]
def f251x7 : List AOper := [
  Mv 14 5,
  Mv 15 0,
  Ln 16 1 15,
  Bi 17 .geq 14 16,
  Mv 18 17,
  Gf 18 (Mv 19 0),
  Gf 18 (Mv 20 5),
  Gf 18 (Op 21 (.istr (.t 19) (.t 20))),
  Gf 18 (Op 22 (.bin .neq (.t 21) (.c (.int .u8 46)))),
  Po 23 18 22]
def f251x8 : List AOper := [
  Mc 2 (.int .u32 0),
  Mc 3 (.int .i64 (-1))]
def f251x9 : List AOper := [
  Mv 24 5,
  Bc 25 .add 24 1,
  Mv 5 25]
def f251x10 : List AOper := [
  Mv 27 0,
  Mv 28 5,
  Ca 29 253 [(.t 27), (.t 28), (.c (.int .i64 255))],
  Mv 26 29,
  Ex 30 26 0,
  Ex 31 26 1,
  Mv 7 30,
  Mv 8 31]
def f251x11 : List AOper := [
  Mv 32 8,
  Bc 33 .lss 32 0]
def f251x12 : List AOper := [
  Mc 2 (.int .u32 0),
  Mc 3 (.int .i64 (-1))]
def f251x13 : List AOper := [
  Mv 34 4,
  Op 35 (.bin .mul (.t 34) (.c (.int .u32 256))),
  Mv 36 7,
  Cv 37 .u32 36,
  Bi 38 .add 35 37,
  Mv 4 38]
def f251x14 : List AOper := [
  Mv 39 8,
  Mv 5 39]
def f251x15 : List AOper := [
  Bc 40 .add 9 1,
  Mv 9 40]
def f251x16L : ACode := (.seq (.region f251x4 false) (.seq (.cond (.t 10) .skip (.exit 0)) (.seq (.block 1 (.seq (.region f251x5 false) (.seq (.seq (.region f251x6 false) (.cond (.t 13) (.seq (.seq (.region f251x7 false) (.cond (.t 23) (.seq (.region f251x8 false) .ret) .skip)) (.region f251x9 false)) .skip)) (.seq (.region f251x10 false) (.seq (.seq (.region f251x11 false) (.cond (.t 33) (.seq (.region f251x12 false) .ret) .skip)) (.seq (.region f251x13 false) (.region f251x14 false))))))) (.region f251x15 false))))
def f251x17 : List AOper := [
  Mv 41 4,
  Mv 42 5,
  Mv 2 41,
  Mv 3 42]
def f251 : AFunc := ⟨43, 1, false, [.t 2, .t 3], (.seq (.region f251x0 false) (.seq (.region f251x1 false) (.seq (.region f251x2 false) (.seq (.seq (.region f251x3 false) (.block 0 (.loop f251x16L))) (.seq (.region f251x17 false) .ret)))))⟩
def f251x16LH : List AItem := [.inLoop f251x16L, .inBlock 0, .code (.seq (.region f251x17 false) .ret)]
def f253x0 : List AOper := [
  Mc 6 (.int .i64 0),
  Mc 7 (.int .i64 0)]
def f253x1 : List AOper := [
  Mc 8 (.int .i64 0)]
def f253x2 : List AOper := [
  Mv 10 1,
  Mv 9 10]
def f253x3 : List AOper := [
  Mv 11 9,
  Mv 12 0,
  Ln 13 1 12,
  Bi 14 .lss 11 13,
  Mv 15 14,
  Gt 15 (Mv 16 0),
  Gt 15 (Mv 17 9),
  Gt 15 (Op 18 (.istr (.t 16) (.t 17))),
  Gt 15 (Op 19 (.bin .geq (.t 18) (.c (.int .u8 48)))),
  Pa 20 15 19,
  Mv 21 20,
  Gt 21 (Mv 22 0),
  Gt 21 (Mv 23 9),
  Gt 21 (Op 24 (.istr (.t 22) (.t 23))),
  Gt 21 (Op 25 (.bin .leq (.t 24) (.c (.int .u8 57)))),
  Pa 26 21 25,
  Mv 27 26,
  Gt 27 (Mv 28 9),
  Gt 27 (Mv 29 1),
  Gt 27 (Bc 30 .add 29 4),
  Gt 27 (Bi 31 .lss 28 30),
  Pa 32 27 31]
def f253x4 : List AOper := [
  Mv 33 8,
  Bc 34 .mul 33 10,
  Mv 35 0,
  Mv 36 9,
  Op 37 (.istr (.t 35) (.t 36)),
  Op 38 (.bin .sub (.t 37) (.c (.int .u8 48))),
  Cv 39 .i64 38,
  Bi 40 .add 34 39,
  Mv 8 40]
def f253x5 : List AOper := [
  Mv 41 9,
  Bc 42 .add 41 1,
  Mv 9 42]
def f253x6L : ACode := (.seq (.seq (.region f253x3 false) (.cond (.t 32) .skip (.exit 0))) (.block 1 (.seq (.region f253x4 false) (.region f253x5 false))))
def f253x7 : List AOper := [
  Mv 43 9,
  Mv 44 1,
  Bi 45 .eql 43 44,
  Mv 46 45,
  Gf 46 (Mv 47 9),
  Gf 46 (Mv 48 1),
  Gf 46 (Bc 49 .add 48 4),
  Gf 46 (Bi 50 .eql 47 49),
  Po 51 46 50,
  Mv 52 51,
  Gf 52 (Mv 53 8),
  Gf 52 (Mv 54 2),
  Gf 52 (Bi 55 .gtr 53 54),
  Po 56 52 55,
  Mv 57 56,
  Gf 57 (Mv 58 9),
  Gf 57 (Mv 59 1),
  Gf 57 (Bc 60 .add 59 1),
  Gf 57 (Bi 61 .gtr 58 60),
  Gf 57 (Mv 62 61),
  Gt 62 (Mv 63 0),
  Gt 62 (Mv 64 1),
  Gt 62 (Op 65 (.istr (.t 63) (.t 64))),
  Gt 62 (Op 66 (.bin .eql (.t 65) (.c (.int .u8 48)))),
  Gf 57 (Pa 67 62 66),
  Po 68 57 67]
def f253x8 : List AOper := [
  Mc 6 (.int .i64 0),
  Mc 7 (.int .i64 (-1))]
def f253x9 : List AOper := [
  Mv 69 8,
  Mv 70 9,
  Mv 6 69,
  Mv 7 70]
def f253 : AFunc := ⟨71, 3, false, [.t 6, .t 7], (.seq (.region f253x0 false) (.seq (.region f253x1 false) (.seq (.region f253x2 false) (.seq (.block 0 (.loop f253x6L)) (.seq (.seq (.region f253x7 false) (.cond (.t 68) (.seq (.region f253x8 false) .ret) .skip)) (.seq (.region f253x9 false) .ret))))))⟩
def f253x6LH : List AItem := [.inLoop f253x6L, .inBlock 0, .code (.seq (.seq (.region f253x7 false) (.cond (.t 68) (.seq (.region f253x8 false) .ret) .skip)) (.seq (.region f253x9 false) .ret))]
def f179x0 : List AOper := [
  Op 1 (.box (.t 0)),
  Mc 2 (.bool false)]
def f179x1 : List AOper := [
  Fa 3 1 1,
  Ld 4 3,
  Bc 5 .geq 4 0,
  Mv 6 5,
  Gt 6 (Fa 7 1 1),
  Af [1] (Gt 6 (Ld 8 7)),
  Gt 6 (Bc 9 .leq 8 32),
  Pa 10 6 9,
  Mv 11 10,
  Gt 11 (Fa 12 0 1),
  Af [5, 1] (Gt 11 (Ld 13 12)),
  Gt 11 (Fa 14 1 1),
  Af [5, 1] (Gt 11 (Ld 15 14)),
  Af [10, 12, 5, 1] (Gt 11 (Ct 16 182 [13, 15])),
  Gt 11 (Fa 17 0 1),
  Af [5, 1] (Gt 11 (Ld 18 17)),
  Gt 11 (Bi 19 .eql 16 18),
  Pa 20 11 19,
  Mv 2 20]
def f179 : AFunc := ⟨21, 1, false, [.t 2], (.seq (.region f179x0 false) (.seq (.region f179x1 true) .ret))⟩
def f326x0 : List AOper := [
  Op 1 (.box (.t 0)),
  Mc 2 (.int .i64 0)]
def f326x1 : List AOper := [
  Fa 3 1 1,
  Ls 4 2 3,
  Ct 5 179 [4],
  Un 6 .not 5]
def f326x2 : List AOper := [
  Mc 2 (.int .i64 1)]
def f326x3 : List AOper := [
  Fa 7 3 1,
  Ld 8 7,
  Fa 9 1 1,
  Fa 10 1 9,
  Ld 11 10,
  Bi 12 .lss 8 11,
  Mv 13 12,
  Gf 13 (Fa 14 4 1),
  Gf 13 (Ld 15 14),
  Gf 13 (Fa 16 3 1),
  Gf 13 (Ld 17 16),
  Gf 13 (Bi 18 .lss 15 17),
  Po 19 13 18,
  Mv 20 19,
  Gf 20 (Fa 21 4 1),
  Gf 20 (Ld 22 21),
  Gf 20 (Bc 23 .gtr 22 32),
  Po 24 20 23]
def f326x4 : List AOper := [
  Mc 2 (.int .i64 5)]
def f326x5 : List AOper := [
  Mc 2 (.int .i64 0)]
def f326 : AFunc := ⟨25, 1, false, [.t 2], (.seq (.region f326x0 false) (.seq (.seq (.region f326x1 false) (.cond (.t 6) (.seq (.region f326x2 false) .ret) .skip)) (.seq (.seq (.region f326x3 false) (.cond (.t 24) (.seq (.region f326x4 false) .ret) .skip)) (.seq (.region f326x5 false) .ret))))⟩
def f230x0 : List AOper := [
  Op 1 (.box (.t 0)),
  Mc 2 (.str [])]
def f230x1 : List AOper := [
  Ls 3 2 1,
  Ct 4 179 [3],
  Un 5 .not 4]
def f230x2 : List AOper := [
  Mc 2 (.str [])]
def f230x3 : List AOper := [
  Fa 6 0 1,
  Ld 7 6,
  Af [1] (Ct 8 228 [7]),
  Op 9 (.bin .add (.t 8) (.c (.str [47]))),
  Fa 10 1 1,
  Ld 11 10,
  Af [5, 2, 1] (Ct 12 248 [11]),
  Bi 13 .add 9 12,
  Mv 2 13]
def f230 : AFunc := ⟨14, 1, false, [.t 2], (.seq (.region f230x0 false) (.seq (.seq (.region f230x1 false) (.cond (.t 5) (.seq (.region f230x2 false) .ret) .skip)) (.seq (.region f230x3 true) .ret)))⟩
def f338x0 : List AOper := [
  Mc 2 (.str [])]
def f338x1 : List AOper := [
  Mv 3 0,
  Bc 4 .lss 3 0]
def f338x2 : List AOper := [
  Mv 5 0,
  Bc 6 .add 5 1,
  Un 7 .neg 6,
  Cv 8 .u64 7,
  Op 9 (.bin .add (.t 8) (.c (.int .u64 1))),
  Ct 10 344 [9],
  Op 11 (.bin .add (.c (.str [45])) (.t 10)),
  Mv 2 11]
def f338x3 : List AOper := [
  Mv 12 0,
  Cv 13 .u64 12,
  Ct 14 344 [13],
  Mv 2 14]
def f338 : AFunc := ⟨15, 1, false, [.t 2], (.seq (.region f338x0 false) (.seq (.seq (.region f338x1 false) (.cond (.t 4) (.seq (.region f338x2 false) .ret) .skip)) (.seq (.region f338x3 false) .ret)))⟩
def f227x0 : List AOper := [
  Mc 2 (.str [])]
def f227x1 : List AOper := [
  Op 3 (.alloc (.agg [.str [], .str [], .str [], .str []]))]
def f227x2 : List AOper := [
  Mc 5 (.int .i64 0)]
def f227x3 : List AOper := [
  Bc 6 .lss 5 4]
def f227x4 : List AOper := [
  Mv 7 5,
  Mv 4 7]
def f227x5 : List AOper := [
  Mv 8 4,
  Mv 9 0,
  Mv 10 4,
  Op 11 (.bin .mul (.c (.int .i64 8)) (.t 10)),
  Op 12 (.bin .sub (.c (.int .i64 24)) (.t 11)),
  Bi 13 .shr 9 12,
  Op 14 (.bin .and (.t 13) (.c (.int .u32 255))),
  Cv 15 .i64 14,
  Ct 16 246 [15],
  Op 17 (.iarr 4 1 (.t 3) (.t 8)),
  St 1 17 16]
def f227x6 : List AOper := [
  Bc 18 .add 5 1,
  Mv 5 18]
def f227x7L : ACode := (.seq (.region f227x3 false) (.seq (.cond (.t 6) .skip (.exit 0)) (.seq (.block 1 (.seq (.region f227x4 false) (.region f227x5 false))) (.region f227x6 false))))
def f227x8 : List AOper := [
  Op 19 (.slarr 4 1 (.t 3) none none none),
  Ca 20 247 [(.t 19), (.c (.str [46]))],
  Mv 2 20]
def f227 : AFunc := ⟨21, 1, false, [.t 2], (.seq (.region f227x0 false) (.seq (.region f227x1 false) (.seq (.seq (.region f227x2 false) (.block 0 (.loop f227x7L))) (.seq (.region f227x8 false) .ret))))⟩
def f227x7LH : List AItem := [.inLoop f227x7L, .inBlock 0, .code (.seq (.region f227x8 false) .ret)]
def f246x0 : List AOper := [
  Mc 2 (.str [])]
def f246x1 : List AOper := [
  Mv 3 0,
  Ct 4 258 [3],
  Mv 2 4]
def f246 : AFunc := ⟨5, 1, false, [.t 2], (.seq (.region f246x0 false) (.seq (.region f246x1 false) .ret))⟩
def f181x0 : List AOper := [
  Mc 4 (.int .u32 0)]
def f181x1 : List AOper := [
  Mv 5 0,
  Mv 6 1,
  Ct 7 183 [6],
  Bi 8 .and 5 7,
  Mv 4 8]
def f181 : AFunc := ⟨9, 2, false, [.t 4], (.seq (.region f181x0 false) (.seq (.region f181x1 false) .ret))⟩
def f235x0 : List AOper := [
  Op 2 (.box (.t 0)),
  Mc 4 (.bool false)]
def f235x1 : List AOper := [
  Ls 5 2 2,
  Af [0] (Ct 6 178 [5]),
  Mv 7 6,
  Gt 7 (Mv 8 1),
  Gt 7 (Fa 9 1 2),
  Af [1, 0] (Gt 7 (Ld 10 9)),
  Af [5, 1, 0] (Gt 7 (Ct 11 245 [8, 10])),
  Af [1, 0] (Gt 7 (Ls 12 2 2)),
  Gt 7 (Op 13 (.eqs [.int, .int] false (.t 11) (.t 12))),
  Pa 14 7 13,
  Mv 4 14]
def f235 : AFunc := ⟨15, 2, false, [.t 4], (.seq (.region f235x0 false) (.seq (.region f235x1 true) .ret))⟩
def f347x0 : List AOper := [
  Mc 2 (.bool false)]
def f347x1 : List AOper := [
  Mv 4 0,
  Op 5 (.bin .eql (.t 4) (.c (.str []))),
  Mv 6 5,
  Gf 6 (Mv 7 0),
  Gf 6 (Ln 8 1 7),
  Gf 6 (Bc 9 .gtr 8 1),
  Gf 6 (Mv 10 9),
  Gt 10 (Mv 11 0),
  Gt 10 (Op 12 (.istr (.t 11) (.c (.int .i64 0)))),
  Gt 10 (Op 13 (.bin .eql (.t 12) (.c (.int .u8 48)))),
  Gf 6 (Pa 14 10 13),
  Po 15 6 14]
def f347x2 : List AOper := [
  Mc 2 (.bool false)]
def f347x3 : List AOper := [
  Mv 16 0,
  Ln 17 1 16,
  Mc 18 (.int .i64 0)]
def f347x4 : List AOper := [
  Bi 19 .lss 18 17]
def f347x5 : List AOper := [
  Mv 20 18,
  Mv 3 20]
def f347x6 : List AOper := [
  Mv 21 0,
  Mv 22 3,
  Op 23 (.istr (.t 21) (.t 22)),
  Op 24 (.bin .lss (.t 23) (.c (.int .u8 48))),
  Mv 25 24,
  Gf 25 (Mv 26 0),
  Gf 25 (Mv 27 3),
  Gf 25 (Op 28 (.istr (.t 26) (.t 27))),
  Gf 25 (Op 29 (.bin .gtr (.t 28) (.c (.int .u8 57)))),
  Po 30 25 29]
def f347x7 : List AOper := [
  Mc 2 (.bool false)]
def f347x8 : List AOper := [
  Bc 31 .add 18 1,
  Mv 18 31]
def f347x9L : ACode := (.seq (.region f347x4 false) (.seq (.cond (.t 19) .skip (.exit 0)) (.seq (.block 1 (.seq (.region f347x5 false) (.seq (.region f347x6 false) (.cond (.t 30) (.seq (.region f347x7 false) .ret) .skip)))) (.region f347x8 false))))
def f347x10 : List AOper := [
  Mc 2 (.bool true)]
def f347 : AFunc := ⟨32, 1, false, [.t 2], (.seq (.region f347x0 false) (.seq (.seq (.region f347x1 false) (.cond (.t 15) (.seq (.region f347x2 false) .ret) .skip)) (.seq (.seq (.region f347x3 false) (.block 0 (.loop f347x9L))) (.seq (.region f347x10 false) .ret))))⟩
def f347x9LH : List AItem := [.inLoop f347x9L, .inBlock 0, .code (.seq (.region f347x10 false) .ret)]
def f182x0 : List AOper := [
  Mc 4 (.int .u32 0)]
def f182x1 : List AOper := [
  Mc 5 (.int .u32 0)]
def f182x2 : List AOper := [
  Mv 7 1,
  Ca 8 184 [(.t 7), (.c (.int .i64 32))],
  Mc 9 (.int .i64 0)]
def f182x3 : List AOper := [
  Bi 10 .lss 9 8]
def f182x4 : List AOper := [
  Mv 11 9,
  Mv 6 11]
def f182x5 : List AOper := [
  Mv 12 5,
  Mv 13 0,
  Mv 14 6,
  Ct 15 185 [13, 14],
  Cv 16 .u32 15,
  Mv 17 6,
  Op 18 (.bin .sub (.c (.int .i64 31)) (.t 17)),
  Cv 19 .u64 18,
  Bi 20 .shl 16 19,
  Bi 21 .or 12 20,
  Mv 5 21]
def f182x6 : List AOper := [
  Bc 22 .add 9 1,
  Mv 9 22]
def f182x7L : ACode := (.seq (.region f182x3 false) (.seq (.cond (.t 10) .skip (.exit 0)) (.seq (.block 1 (.seq (.region f182x4 false) (.region f182x5 false))) (.region f182x6 false))))
def f182x8 : List AOper := [
  Mv 23 5,
  Mv 4 23]
def f182 : AFunc := ⟨24, 2, false, [.t 4], (.seq (.region f182x0 false) (.seq (.region f182x1 false) (.seq (.seq (.region f182x2 false) (.block 0 (.loop f182x7L))) (.seq (.region f182x8 false) .ret))))⟩
def f182x7LH : List AItem := [.inLoop f182x7L, .inBlock 0, .code (.seq (.region f182x8 false) .ret)]
def f228x0 : List AOper := [
  Mc 2 (.str [])]
def f228x1 : List AOper := [
  Mv 3 0,
  Op 4 (.bin .shr (.t 3) (.c (.int .u64 24))),
  Cv 5 .i64 4,
  Ct 6 248 [5],
  Op 7 (.bin .add (.t 6) (.c (.str [46]))),
  Mv 8 0,
  Op 9 (.bin .shr (.t 8) (.c (.int .u64 16))),
  Op 10 (.bin .and (.t 9) (.c (.int .u32 255))),
  Cv 11 .i64 10,
  Ct 12 248 [11],
  Bi 13 .add 7 12,
  Op 14 (.bin .add (.t 13) (.c (.str [46]))),
  Mv 15 0,
  Op 16 (.bin .shr (.t 15) (.c (.int .u64 8))),
  Op 17 (.bin .and (.t 16) (.c (.int .u32 255))),
  Cv 18 .i64 17,
  Ct 19 248 [18],
  Bi 20 .add 14 19,
  Op 21 (.bin .add (.t 20) (.c (.str [46]))),
  Mv 22 0,
  Op 23 (.bin .and (.t 22) (.c (.int .u32 255))),
  Cv 24 .i64 23,
  Ct 25 248 [24],
  Bi 26 .add 21 25,
  Mv 2 26]
def f228 : AFunc := ⟨27, 1, false, [.t 2], (.seq (.region f228x0 false) (.seq (.region f228x1 false) .ret))⟩
def f248x0 : List AOper := [
  Mc 2 (.str [])]
def f248x1 : List AOper := [
  Mc 3 (.str [48, 49, 50, 51, 52, 53, 54, 55, 56, 57])]
def f248x2 : List AOper := [
  Mv 5 3,
  Mv 6 0,
  Bc 7 .rem 6 10,
  Mv 8 0,
  Bc 9 .rem 8 10,
  Bc 10 .add 9 1,
  Op 11 (.slstr (.t 5) (some (.t 7)) (some (.t 10))),
  Mv 4 11]
def f248x3 : List AOper := [
  Mv 12 0,
  Bc 13 .geq 12 10]
def f248x4 : List AOper := [
  Mv 14 0,
  Bc 15 .quo 14 10,
  Mv 0 15]
def f248x5 : List AOper := [
  Mv 16 3,
  Mv 17 0,
  Bc 18 .rem 17 10,
  Mv 19 0,
  Bc 20 .rem 19 10,
  Bc 21 .add 20 1,
  Op 22 (.slstr (.t 16) (some (.t 18)) (some (.t 21))),
  Mv 23 4,
  Bi 24 .add 22 23,
  Mv 4 24]
def f248x6L : ACode := (.seq (.seq (.region f248x3 false) (.cond (.t 13) .skip (.exit 0))) (.block 1 (.seq (.region f248x4 false) (.region f248x5 false))))
def f248x7 : List AOper := [
  Mv 25 4,
  Mv 2 25]
def f248 : AFunc := ⟨26, 1, false, [.t 2], (.seq (.region f248x0 false) (.seq (.region f248x1 false) (.seq (.region f248x2 false) (.seq (.block 0 (.loop f248x6L)) (.seq (.region f248x7 false) .ret)))))⟩
def f344x0 : List AOper := [
  Mc 2 (.str [])]
def f344x1 : List AOper := [
  Mv 4 0,
  Op 5 (.bin .rem (.t 4) (.c (.int .u64 10))),
  Op 6 (.bin .add (.c (.int .u64 48)) (.t 5)),
  Cv 7 .u8 6,
  Op 8 (.bsl 1 [.int .u8 0] 1 [0] [(.t 7)]),
  Op 9 (.b2s (.t 8)),
  Mv 3 9]
def f344x2 : List AOper := [
  Mv 10 0,
  Op 11 (.bin .lss (.t 10) (.c (.int .u64 10)))]
def f344x3 : List AOper := [
  Mv 12 3,
  Mv 2 12]
def f344x4 : List AOper := [
  Mv 13 0,
  Op 14 (.bin .quo (.t 13) (.c (.int .u64 10))),
  Ct 15 344 [14],
  Mv 16 3,
  Bi 17 .add 15 16,
  Mv 2 17]
def f344 : AFunc := ⟨18, 1, false, [.t 2], (.seq (.region f344x0 false) (.seq (.region f344x1 false) (.seq (.seq (.region f344x2 false) (.cond (.t 11) (.seq (.region f344x3 false) .ret) .skip)) (.seq (.region f344x4 false) .ret))))⟩
def f183x0 : List AOper := [
  Mc 2 (.int .u32 0)]
def f183x1 : List AOper := [
  Mv 3 0,
  Ca 4 186 [(.t 3), (.c (.int .i64 32))],
  Op 5 (.bin .sub (.c (.int .i64 32)) (.t 4)),
  Op 6 (.bin .shl (.c (.int .u32 4294967295)) (.t 5)),
  Mv 2 6]
def f183 : AFunc := ⟨7, 1, false, [.t 2], (.seq (.region f183x0 false) (.seq (.region f183x1 false) .ret))⟩
def f245x0 : List AOper := [
  Op 4 (.alloc (.agg [.int .u32 0, .int .i64 0]))]
def f245x1 : List AOper := [
  Mv 5 0,
  Mv 6 1,
  Ct 7 181 [5, 6],
  Mv 8 1,
  Op 9 (.build [.int .u32 0, .int .i64 0] [(0, 1), (1, 1)] [(.t 7), (.t 8)]),
  St 2 4 9]
def f245 : AFunc := ⟨10, 2, false, [.cell 4 (some 2)], (.seq (.region f245x0 false) (.seq (.region f245x1 false) .ret))⟩
def f184x0 : List AOper := [
  Mc 4 (.int .i64 0)]
def f184x1 : List AOper := [
  Mv 5 0,
  Op 6 (.minmax true [(.t 5), (.c (.int .i64 0))]),
  Mv 7 1,
  Op 8 (.minmax false [(.t 6), (.t 7)]),
  Mv 4 8]
def f184 : AFunc := ⟨9, 2, false, [.t 4], (.seq (.region f184x0 false) (.seq (.region f184x1 false) .ret))⟩
def f185x0 : List AOper := [
  Mc 4 (.int .i64 0)]
def f185x1 : List AOper := [
  Mv 5 1,
  Bc 6 .lss 5 0,
  Mv 7 6,
  Gf 7 (Mv 8 1),
  Gf 7 (Bc 9 .gtr 8 31),
  Po 10 7 9]
def f185x2 : List AOper := [
  Mc 4 (.int .i64 0)]
def f185x3 : List AOper := [
  Mv 11 0,
  Mv 12 1,
  Op 13 (.bin .sub (.c (.int .i64 31)) (.t 12)),
  Cv 14 .u64 13,
  Bi 15 .shr 11 14,
  Op 16 (.bin .and (.t 15) (.c (.int .u32 1))),
  Cv 17 .i64 16,
  Mv 4 17]
def f185 : AFunc := ⟨18, 2, false, [.t 4], (.seq (.region f185x0 false) (.seq (.seq (.region f185x1 false) (.cond (.t 10) (.seq (.region f185x2 false) .ret) .skip)) (.seq (.region f185x3 false) .ret)))⟩
def f260x0 : List AOper := [
  Mc 4 (.int .i64 0),
  Mc 5 (.con (.nilIface))]
def f260x1 : List AOper := [
  Mv 6 0,
  Ct 7 268 [6]]
def f260x2 : List AOper := [
  Mv 8 0,
  Mv 9 0,
  Nc 10 9,
  Fa 11 1 10,
  Ld 12 11,
  Mv 13 1,
  Ap 14 1 1 12 13,
  Nc 15 8,
  Fa 16 1 15,
  St 1 16 14]
def f260x3 : List AOper := [
  Mv 17 1,
  Ln 18 1 17,
  Mv 4 18,
  Mc 5 (.con (.nilIface))]
def f260 : AFunc := ⟨19, 2, false, [.t 4, .t 5], (.seq (.region f260x0 false) (.seq (.region f260x1 false) (.seq (.region f260x2 false) (.seq (.region f260x3 false) .ret))))⟩
def f186x0 : List AOper := [
  Mc 4 (.int .i64 0)]
def f186x1 : List AOper := [
  Mv 5 0,
  Op 6 (.minmax true [(.t 5), (.c (.int .i64 0))]),
  Mv 7 1,
  Op 8 (.minmax false [(.t 6), (.t 7)]),
  Mv 4 8]
def f186 : AFunc := ⟨9, 2, false, [.t 4], (.seq (.region f186x0 false) (.seq (.region f186x1 false) .ret))⟩
def f286x0 : List AOper := [
  Mc 2 (.str [])]
def f286x1 : List AOper := [
  Mv 3 0,
  Bc 4 .lss 3 10]
def f286x2 : List AOper := [
  Mv 5 0,
  Mv 6 0,
  Bc 7 .add 6 1,
  Op 8 (.slstr (.c (.str [48, 49, 50, 51, 52, 53, 54, 55, 56, 57, 97, 98, 99, 100, 101, 102, 103, 104, 105, 106, 107, 108, 109, 110, 111, 112, 113, 114, 115, 116, 117, 118, 119, 120, 121, 122])) (some (.t 5)) (some (.t 7))),
  Mv 2 8]
def f286x3 : List AOper := [
  Mv 9 0,
  Bc 10 .mul 9 2,
  Mv 11 0,
  Bc 12 .mul 11 2,
  Bc 13 .add 12 2,
  Op 14 (.slstr (.c (.str [48, 48, 48, 49, 48, 50, 48, 51, 48, 52, 48, 53, 48, 54, 48, 55, 48, 56, 48, 57, 49, 48, 49, 49, 49, 50, 49, 51, 49, 52, 49, 53, 49, 54, 49, 55, 49, 56, 49, 57, 50, 48, 50, 49, 50, 50, 50, 51, 50, 52, 50, 53, 50, 54, 50, 55, 50, 56, 50, 57, 51, 48, 51, 49, 51, 50, 51, 51, 51, 52, 51, 53, 51, 54, 51, 55, 51, 56, 51, 57, 52, 48, 52, 49, 52, 50, 52, 51, 52, 52, 52, 53, 52, 54, 52, 55, 52, 56, 52, 57, 53, 48, 53, 49, 53, 50, 53, 51, 53, 52, 53, 53, 53, 54, 53, 55, 53, 56, 53, 57, 54, 48, 54, 49, 54, 50, 54, 51, 54, 52, 54, 53, 54, 54, 54, 55, 54, 56, 54, 57, 55, 48, 55, 49, 55, 50, 55, 51, 55, 52, 55, 53, 55, 54, 55, 55, 55, 56, 55, 57, 56, 48, 56, 49, 56, 50, 56, 51, 56, 52, 56, 53, 56, 54, 56, 55, 56, 56, 56, 57, 57, 48, 57, 49, 57, 50, 57, 51, 57, 52, 57, 53, 57, 54, 57, 55, 57, 56, 57, 57])) (some (.t 10)) (some (.t 13))),
  Mv 2 14]
def f286 : AFunc := ⟨15, 1, false, [.t 2], (.seq (.region f286x0 false) (.seq (.seq (.region f286x1 false) (.cond (.t 4) (.seq (.region f286x2 false) .ret) .skip)) (.seq (.region f286x3 false) .ret)))⟩
def f285x0 : List AOper := [
  Mc 2 (.int .i64 0)]
def f285x1 : List AOper := [
  Mv 3 0,
  Op 4 (.bin .geq (.t 3) (.c (.int .u64 4294967296)))]
def f285x2 : List AOper := [
  Mv 5 0,
  Op 6 (.bin .shr (.t 5) (.c (.int .u64 32))),
  Mv 0 6]
def f285x3 : List AOper := [
  Mc 2 (.int .i64 32)]
def f285x4 : List AOper := [
  Mv 7 0,
  Op 8 (.bin .geq (.t 7) (.c (.int .u64 65536)))]
def f285x5 : List AOper := [
  Mv 9 0,
  Op 10 (.bin .shr (.t 9) (.c (.int .u64 16))),
  Mv 0 10]
def f285x6 : List AOper := [
  Mv 11 2,
  Bc 12 .add 11 16,
  Mv 2 12]
def f285x7 : List AOper := [
  Mv 13 0,
  Op 14 (.bin .geq (.t 13) (.c (.int .u64 256)))]
def f285x8 : List AOper := [
  Mv 15 0,
  Op 16 (.bin .shr (.t 15) (.c (.int .u64 8))),
  Mv 0 16]
def f285x9 : List AOper := [
  Mv 17 2,
  Bc 18 .add 17 8,
  Mv 2 18]
def f285x10 : List AOper := [
  Mv 19 2,
  Mv 20 0,
  Cv 21 .u8 20,
  Op 22 (.istr (.c (.str [0, 1, 2, 2, 3, 3, 3, 3, 4, 4, 4, 4, 4, 4, 4, 4, 5, 5, 5, 5, 5, 5, 5, 5, 5, 5, 5, 5, 5, 5, 5, 5, 6, 6, 6, 6, 6, 6, 6, 6, 6, 6, 6, 6, 6, 6, 6, 6, 6, 6, 6, 6, 6, 6, 6, 6, 6, 6, 6, 6, 6, 6, 6, 6, 7, 7, 7, 7, 7, 7, 7, 7, 7, 7, 7, 7, 7, 7, 7, 7, 7, 7, 7, 7, 7, 7, 7, 7, 7, 7, 7, 7, 7, 7, 7, 7, 7, 7, 7, 7, 7, 7, 7, 7, 7, 7, 7, 7, 7, 7, 7, 7, 7, 7, 7, 7, 7, 7, 7, 7, 7, 7, 7, 7, 7, 7, 7, 7, 8, 8, 8, 8, 8, 8, 8, 8, 8, 8, 8, 8, 8, 8, 8, 8, 8, 8, 8, 8, 8, 8, 8, 8, 8, 8, 8, 8, 8, 8, 8, 8, 8, 8, 8, 8, 8, 8, 8, 8, 8, 8, 8, 8, 8, 8, 8, 8, 8, 8, 8, 8, 8, 8, 8, 8, 8, 8, 8, 8, 8, 8, 8, 8, 8, 8, 8, 8, 8, 8, 8, 8, 8, 8, 8, 8, 8, 8, 8, 8, 8, 8, 8, 8, 8, 8, 8, 8, 8, 8, 8, 8, 8, 8, 8, 8, 8, 8, 8, 8, 8, 8, 8, 8, 8, 8, 8, 8, 8, 8, 8, 8, 8, 8, 8, 8, 8, 8, 8, 8, 8, 8, 8, 8, 8, 8, 8, 8])) (.t 21)),
  Cv 23 .i64 22,
  Bi 24 .add 19 23,
  Mv 2 24]
def f285 : AFunc := ⟨25, 1, false, [.t 2], (.seq (.region f285x0 false) (.seq (.seq (.region f285x1 false) (.cond (.t 4) (.seq (.region f285x2 false) (.region f285x3 false)) .skip)) (.seq (.seq (.region f285x4 false) (.cond (.t 8) (.seq (.region f285x5 false) (.region f285x6 false)) .skip)) (.seq (.seq (.region f285x7 false) (.cond (.t 14) (.seq (.region f285x8 false) (.region f285x9 false)) .skip)) (.seq (.region f285x10 false) .ret)))))⟩
def f317x0 : List AOper := [
  Mc 2 (.int .u8 0)]
def f317x1 : List AOper := [
  Mv 3 0,
  Op 4 (.bin .or (.t 3) (.c (.int .u8 32))),
  Mv 2 4]
def f317 : AFunc := ⟨5, 1, false, [.t 2], (.seq (.region f317x0 false) (.seq (.region f317x1 false) .ret))⟩
def f318x0 : List AOper := [
  Mc 2 (.bool false)]
def f318x1 : List AOper := [
  Mc 3 (.int .i32 94)]
def f318x2 : List AOper := [
  Mc 4 (.int .i64 0)]
def f318x3 : List AOper := [
  Mv 6 0,
  Ln 7 1 6,
  Bc 8 .geq 7 1,
  Mv 9 8,
  Gt 9 (Mv 10 0),
  Gt 9 (Op 11 (.istr (.t 10) (.c (.int .i64 0)))),
  Gt 9 (Op 12 (.bin .eql (.t 11) (.c (.int .u8 45)))),
  Gt 9 (Mv 13 12),
  Gf 13 (Mv 14 0),
  Gf 13 (Op 15 (.istr (.t 14) (.c (.int .i64 0)))),
  Gf 13 (Op 16 (.bin .eql (.t 15) (.c (.int .u8 43)))),
  Gt 9 (Po 17 13 16),
  Pa 18 9 17]
def f318x4 : List AOper := [
  Mv 19 0,
  Op 20 (.slstr (.t 19) (some (.c (.int .i64 1))) none),
  Mv 0 20]
def f318x5 : List AOper := [
  Mc 5 (.bool false)]
def f318x6 : List AOper := [
  Mv 21 0,
  Ln 22 1 21,
  Bc 23 .geq 22 2,
  Mv 24 23,
  Gt 24 (Mv 25 0),
  Gt 24 (Op 26 (.istr (.t 25) (.c (.int .i64 0)))),
  Gt 24 (Op 27 (.bin .eql (.t 26) (.c (.int .u8 48)))),
  Pa 28 24 27,
  Mv 29 28,
  Gt 29 (Mv 30 0),
  Gt 29 (Op 31 (.istr (.t 30) (.c (.int .i64 1)))),
  Gt 29 (Ct 32 317 [31]),
  Gt 29 (Op 33 (.bin .eql (.t 32) (.c (.int .u8 98)))),
  Gt 29 (Mv 34 33),
  Gf 34 (Mv 35 0),
  Gf 34 (Op 36 (.istr (.t 35) (.c (.int .i64 1)))),
  Gf 34 (Ct 37 317 [36]),
  Gf 34 (Op 38 (.bin .eql (.t 37) (.c (.int .u8 111)))),
  Gt 29 (Po 39 34 38),
  Gt 29 (Mv 40 39),
  Gf 40 (Mv 41 0),
  Gf 40 (Op 42 (.istr (.t 41) (.c (.int .i64 1)))),
  Gf 40 (Ct 43 317 [42]),
  Gf 40 (Op 44 (.bin .eql (.t 43) (.c (.int .u8 120)))),
  Gt 29 (Po 45 40 44),
  Pa 46 29 45]
def f318x7 : List AOper := [
  Mc 4 (.int .i64 2)]
def f318x8 : List AOper := [
  Mc 3 (.int .i32 48)]
def f318x9 : List AOper := [
  Mv 47 0,
  Op 48 (.istr (.t 47) (.c (.int .i64 1))),
  Ct 49 317 [48],
  Op 50 (.bin .eql (.t 49) (.c (.int .u8 120))),
  Mv 5 50]
def f318x10 : List AOper := [
  Mv 51 4,
  Mv 52 0,
  Ln 53 1 52,
  Bi 54 .lss 51 53]
def f318x11 : List AOper := [
  Mv 57 0,
  Mv 58 4,
  Op 59 (.istr (.t 57) (.t 58)),
  Op 60 (.bin .leq (.c (.int .u8 48)) (.t 59)),
  Mv 61 60,
  Gt 61 (Mv 62 0),
  Gt 61 (Mv 63 4),
  Gt 61 (Op 64 (.istr (.t 62) (.t 63))),
  Gt 61 (Op 65 (.bin .leq (.t 64) (.c (.int .u8 57)))),
  Pa 66 61 65,
  Mv 67 66,
  Gf 67 (Mv 68 5),
  Gf 67 (Mv 69 68),
  Gt 69 (Mv 70 0),
  Gt 69 (Mv 71 4),
  Gt 69 (Op 72 (.istr (.t 70) (.t 71))),
  Gt 69 (Ct 73 317 [72]),
  Gt 69 (Op 74 (.bin .leq (.c (.int .u8 97)) (.t 73))),
  Gf 67 (Pa 75 69 74),
  Gf 67 (Mv 76 75),
  Gt 76 (Mv 77 0),
  Gt 76 (Mv 78 4),
  Gt 76 (Op 79 (.istr (.t 77) (.t 78))),
  Gt 76 (Ct 80 317 [79]),
  Gt 76 (Op 81 (.bin .leq (.t 80) (.c (.int .u8 102)))),
  Gf 67 (Pa 82 76 81),
  Po 83 67 82]
def f318x12 : List AOper := [
  Mc 3 (.int .i32 48)]
def f318x13 : List AOper := [
  Mv 84 0,
  Mv 85 4,
  Op 86 (.istr (.t 84) (.t 85)),
  Op 87 (.bin .eql (.t 86) (.c (.int .u8 95)))]
def f318x14 : List AOper := [
  Mv 88 3,
  Op 89 (.bin .neq (.t 88) (.c (.int .i32 48)))]
def f318x15 : List AOper := [
  Mc 2 (.bool false)]
def f318x16 : List AOper := [
  Mc 3 (.int .i32 95)]
def f318x17 : List AOper := [
  Mv 90 3,
  Op 91 (.bin .eql (.t 90) (.c (.int .i32 95)))]
def f318x18 : List AOper := [
  Mc 2 (.bool false)]
def f318x19 : List AOper := [
  Mc 3 (.int .i32 33)]
def f318x20 : List AOper := [
  Mv 55 4,
  Bc 56 .add 55 1,
  Mv 4 56]
def f318x21L : ACode := (.seq (.seq (.region f318x10 false) (.cond (.t 54) .skip (.exit 0))) (.seq (.block 1 (.seq (.seq (.region f318x11 false) (.cond (.t 83) (.seq (.region f318x12 false) (.exit 1)) .skip)) (.seq (.seq (.region f318x13 false) (.cond (.t 87) (.seq (.seq (.region f318x14 false) (.cond (.t 89) (.seq (.region f318x15 false) .ret) .skip)) (.seq (.region f318x16 false) (.exit 1))) .skip)) (.seq (.seq (.region f318x17 false) (.cond (.t 91) (.seq (.region f318x18 false) .ret) .skip)) (.region f318x19 false))))) (.region f318x20 false)))
def f318x22 : List AOper := [
  Mv 92 3,
  Op 93 (.bin .neq (.t 92) (.c (.int .i32 95))),
  Mv 2 93]
def f318 : AFunc := ⟨94, 1, false, [.t 2], (.seq (.region f318x0 false) (.seq (.region f318x1 false) (.seq (.region f318x2 false) (.seq (.seq (.region f318x3 false) (.cond (.t 18) (.region f318x4 false) .skip)) (.seq (.region f318x5 false) (.seq (.seq (.region f318x6 false) (.cond (.t 46) (.seq (.region f318x7 false) (.seq (.region f318x8 false) (.region f318x9 false))) .skip)) (.seq (.block 0 (.loop f318x21L)) (.seq (.region f318x22 false) .ret))))))))⟩
end Go.AM.IR
namespace Go.AM.IR
def errT : Nat := 102
def G (f : Nat) : Fun := bif Nat.blt f 252 then (bif Nat.blt f 231 then (bif Nat.blt f 185 then (bif Nat.blt f 182 then (bif Nat.blt f 179 then (bif Nat.beq f 178 then .code f178 else .none) else (bif Nat.blt f 181 then (bif Nat.beq f 179 then .code f179 else .none) else (bif Nat.beq f 181 then .code f181 else .none))) else (bif Nat.blt f 183 then (bif Nat.beq f 182 then .code f182 else .none) else (bif Nat.blt f 184 then (bif Nat.beq f 183 then .code f183 else .none) else (bif Nat.beq f 184 then .code f184 else .none)))) else (bif Nat.blt f 228 then (bif Nat.blt f 186 then (bif Nat.beq f 185 then .code f185 else .none) else (bif Nat.blt f 227 then (bif Nat.beq f 186 then .code f186 else .none) else (bif Nat.beq f 227 then .code f227 else .none))) else (bif Nat.blt f 229 then (bif Nat.beq f 228 then .code f228 else .none) else (bif Nat.blt f 230 then (bif Nat.beq f 229 then .code f229 else .none) else (bif Nat.beq f 230 then .code f230 else .none))))) else (bif Nat.blt f 246 then (bif Nat.blt f 235 then (bif Nat.blt f 233 then (bif Nat.beq f 231 then .code f231 else .none) else (bif Nat.blt f 234 then (bif Nat.beq f 233 then .code f233 else .none) else (bif Nat.beq f 234 then .code f234 else .none))) else (bif Nat.blt f 237 then (bif Nat.beq f 235 then .code f235 else .none) else (bif Nat.blt f 245 then (bif Nat.beq f 237 then .code f237 else .none) else (bif Nat.beq f 245 then .code f245 else .none)))) else (bif Nat.blt f 249 then (bif Nat.blt f 247 then (bif Nat.beq f 246 then .prim false pItoa else .none) else (bif Nat.blt f 248 then (bif Nat.beq f 247 then .prim false pJoin else .none) else (bif Nat.beq f 248 then .code f248 else .none))) else (bif Nat.blt f 250 then (bif Nat.beq f 249 then .prim false pSplit else .none) else (bif Nat.blt f 251 then (bif Nat.beq f 250 then .code f250 else .none) else (bif Nat.beq f 251 then .code f251 else .none)))))) else (bif Nat.blt f 337 then (bif Nat.blt f 328 then (bif Nat.blt f 325 then (bif Nat.blt f 253 then (bif Nat.beq f 252 then .prim false pCut else .none) else (bif Nat.blt f 263 then (bif Nat.beq f 253 then .code f253 else .none) else (bif Nat.beq f 263 then .prim false (pAtoi errT) else .none))) else (bif Nat.blt f 326 then (bif Nat.beq f 325 then .code f325 else .none) else (bif Nat.blt f 327 then (bif Nat.beq f 326 then .code f326 else .none) else (bif Nat.beq f 327 then .code f327 else .none)))) else (bif Nat.blt f 333 then (bif Nat.blt f 330 then (bif Nat.beq f 328 then .code f328 else .none) else (bif Nat.blt f 332 then (bif Nat.beq f 330 then .code f330 else .none) else (bif Nat.beq f 332 then .code f332 else .none))) else (bif Nat.blt f 334 then (bif Nat.beq f 333 then .code f333 else .none) else (bif Nat.blt f 335 then (bif Nat.beq f 334 then .code f334 else .none) else (bif Nat.beq f 335 then .code f335 else .none))))) else (bif Nat.blt f 344 then (bif Nat.blt f 340 then (bif Nat.blt f 338 then (bif Nat.beq f 337 then .code f337 else .none) else (bif Nat.blt f 339 then (bif Nat.beq f 338 then .code f338 else .none) else (bif Nat.beq f 339 then .code f339 else .none))) else (bif Nat.blt f 341 then (bif Nat.beq f 340 then .code f340 else .none) else (bif Nat.blt f 342 then (bif Nat.beq f 341 then .code f341 else .none) else (bif Nat.beq f 342 then .code f342 else .none)))) else (bif Nat.blt f 347 then (bif Nat.blt f 345 then (bif Nat.beq f 344 then .code f344 else .none) else (bif Nat.blt f 346 then (bif Nat.beq f 345 then .prim false pContains else .none) else (bif Nat.beq f 346 then .code f346 else .none))) else (bif Nat.blt f 348 then (bif Nat.beq f 347 then .code f347 else .none) else (bif Nat.blt f 349 then (bif Nat.beq f 348 then .code f348 else .none) else (bif Nat.beq f 349 then .code f349 else .none))))))
end Go.AM.IR
namespace Go.AM.IR
def encI (x : Int) : List AV := [.int .i64 x]
def encU (x : Int) : List AV := [.int .u32 x]
structure Seg where
  kind : Int
  as : List Int
def Seg.enc (s : Seg) : List AV := [.int .i64 s.kind, .sl 1 (s.as.map encI)]
structure TLV where
  kind : Int
  value : List UInt8
def TLV.enc (s : TLV) : List AV := [.int .i64 s.kind, .sl 1 (byteCells s.value)]
structure Attrs where
  origin : Int
  path : List Seg
  nextHop : Int
  hasMED : Bool
  med : Int
  hasPref : Bool
  pref : Int
  atomic : Bool
  hasAggr : Bool
  aggrAS : Int
  aggrAddr : Int
  comms : List Int
  hasOrig : Bool
  orig : Int
  clusters : List Int
  unknown : List TLV
def Attrs.enc (a : Attrs) : List AV := [.int .i64 a.origin, .sl 2 (a.path.map Seg.enc), .int .u32 a.nextHop, .bool a.hasMED, .int .i64 a.med, .bool a.hasPref, .int .i64 a.pref, .bool a.atomic, .bool a.hasAggr, .int .i64 a.aggrAS, .int .u32 a.aggrAddr,
  .sl 1 (a.comms.map encU), .bool a.hasOrig, .int .u32 a.orig, .sl 1 (a.clusters.map encU), .sl 2 (a.unknown.map TLV.enc)]
structure PVRoute where
  paddr : Int
  plen : Int
  attrs : Attrs
  peer : Int
  kind : Int
  router : Int
  stale : Bool
def PVRoute.enc (r : PVRoute) : List AV := [.int .u32 r.paddr, .int .i64 r.plen,
  .int .i64 r.attrs.origin, .sl 2 (r.attrs.path.map Seg.enc), .int .u32 r.attrs.nextHop, .bool r.attrs.hasMED, .int .i64 r.attrs.med, .bool r.attrs.hasPref, .int .i64 r.attrs.pref, .bool r.attrs.atomic, .bool r.attrs.hasAggr, .int .i64 r.attrs.aggrAS, .int .u32 r.attrs.aggrAddr,
  .sl 1 (r.attrs.comms.map encU), .bool r.attrs.hasOrig, .int .u32 r.attrs.orig, .sl 1 (r.attrs.clusters.map encU), .sl 2 (r.attrs.unknown.map TLV.enc),
  .int .i64 r.peer, .int .i64 r.kind, .int .u32 r.router, .bool r.stale]
structure IGP where
  addr : Int
  cost : Int
def IGP.enc (c : IGP) : List AV := [.int .u32 c.addr, .int .i64 c.cost]
theorem pureLL_map {α : Type} {f : α → List AV} (h : ∀ x, pureL (f x) = true) : ∀ l : List α, pureLL (l.map f) = true
  | [] => rfl
  | x :: r => by simp only [List.map_cons, pureLL, h x, pureLL_map h r, Bool.and_self]
theorem pureLL_bytes : ∀ l : List UInt8, pureLL (byteCells l) = true := fun l => pureLL_map (f := fun b : UInt8 => [AV.int .u8 (b.toNat : Int)]) (fun _ => rfl) l
@[simp] theorem pure_encI (l : List Int) : pureLL (l.map encI) = true := pureLL_map (fun _ => rfl) l
@[simp] theorem pure_encU (l : List Int) : pureLL (l.map encU) = true := pureLL_map (fun _ => rfl) l
theorem Seg.pure (s : Seg) : pureL s.enc = true := by simp [Seg.enc, pureL, AV.pure]
@[simp] theorem pure_segs (l : List Seg) : pureLL (l.map Seg.enc) = true := pureLL_map Seg.pure l
theorem TLV.pure (s : TLV) : pureL s.enc = true := by simp [TLV.enc, pureL, AV.pure, pureLL_bytes]
@[simp] theorem pure_tlvs (l : List TLV) : pureLL (l.map TLV.enc) = true := pureLL_map TLV.pure l
@[simp] theorem Attrs.pure (s : Attrs) : pureL s.enc = true := by simp [Attrs.enc, pureL, AV.pure]
@[simp] theorem PVRoute.pure (s : PVRoute) : pureL s.enc = true := by simp [PVRoute.enc, pureL, AV.pure]
@[simp] theorem pure_routes (l : List PVRoute) : pureLL (l.map PVRoute.enc) = true := pureLL_map PVRoute.pure l
@[simp] theorem pure_igps (l : List IGP) : pureLL (l.map IGP.enc) = true := pureLL_map (fun _ => rfl) l
end Go.AM.IR
namespace Go.AM.IR
def okI (x : Int) : Prop := -9223372036854775808 ≤ x ∧ x ≤ 9223372036854775807
def okU (x : Int) : Prop := 0 ≤ x ∧ x ≤ 4294967295
structure Seg.ok (s : Seg) : Prop where
  kind : okI s.kind
  as : ∀ x ∈ s.as, okI x
structure TLV.ok (s : TLV) : Prop where
  kind : okI s.kind
structure IGP.ok (s : IGP) : Prop where
  addr : okU s.addr
  cost : okI s.cost
structure Attrs.ok (a : Attrs) : Prop where
  origin : okI a.origin
  path : ∀ s ∈ a.path, s.ok
  nextHop : okU a.nextHop
  med : okI a.med
  pref : okI a.pref
  aggrAS : okI a.aggrAS
  aggrAddr : okU a.aggrAddr
  comms : ∀ x ∈ a.comms, okU x
  orig : okU a.orig
  clusters : ∀ x ∈ a.clusters, okU x
  unknown : ∀ x ∈ a.unknown, x.ok
structure PVRoute.ok (r : PVRoute) : Prop where
  paddr : okU r.paddr
  plen : okI r.plen
  attrs : r.attrs.ok
  peer : okI r.peer
  kind : okI r.kind
  router : okU r.router
end Go.AM.IR
namespace Go.AM.IR
structure Pfx where
  addr : Int
  len : Int
  deriving DecidableEq
def Pfx.enc (p : Pfx) : List AV := [.int .u32 p.addr, .int .i64 p.len]
structure Cap where
  code : Int
  value : List UInt8
  deriving DecidableEq
def Cap.enc (p : Cap) : List AV := [.int .i64 p.code, .sl 1 (byteCells p.value)]
structure PMsg where
  kind : Int
  version : Int
  as : Int
  hold : Int
  router : Int
  caps : List Cap
  withdrawn : List Pfx
  attrs : Attrs
  reach : List Pfx
  code : Int
  sub : Int
  data : List UInt8
def PMsg.enc (m : PMsg) : List AV := [.int .i64 m.kind, .int .i64 m.version, .int .i64 m.as, .int .i64 m.hold, .int .u32 m.router, .sl 2 (m.caps.map Cap.enc), .sl 2 (m.withdrawn.map Pfx.enc),
  .int .i64 m.attrs.origin, .sl 2 (m.attrs.path.map Seg.enc), .int .u32 m.attrs.nextHop, .bool m.attrs.hasMED, .int .i64 m.attrs.med, .bool m.attrs.hasPref, .int .i64 m.attrs.pref, .bool m.attrs.atomic, .bool m.attrs.hasAggr, .int .i64 m.attrs.aggrAS, .int .u32 m.attrs.aggrAddr,
  .sl 1 (m.attrs.comms.map encU), .bool m.attrs.hasOrig, .int .u32 m.attrs.orig, .sl 1 (m.attrs.clusters.map encU), .sl 2 (m.attrs.unknown.map TLV.enc),
  .sl 2 (m.reach.map Pfx.enc), .int .i64 m.code, .int .i64 m.sub, .sl 1 (byteCells m.data)]
structure Peer where
  kind : Int
  as : Int
  addr : Int
  loc : Int
  client : Bool
  hold : Int
  restart : Int
  imp : List UInt8
  exp : List UInt8
  nextSelf : Bool
  damp : Bool
def Peer.enc (p : Peer) : List AV := [.int .i64 p.kind, .int .i64 p.as, .int .u32 p.addr, .int .u32 p.loc, .bool p.client, .int .i64 p.hold, .int .i64 p.restart, .str p.imp, .str p.exp, .bool p.nextSelf, .bool p.damp]
structure Conf where
  as : Int
  confed : Int
  router : Int
  cluster : Int
  peers : List Peer
  nets : AV
  p1 : AV
  p2 : AV
  p3 : AV
  p4 : AV
  d1 : Int
  d2 : Int
  d3 : Int
  d4 : Int
  multi : Int
def Conf.enc (c : Conf) : List AV := [.int .i64 c.as, .int .i64 c.confed, .int .u32 c.router, .int .u32 c.cluster, .sl 11 (c.peers.map Peer.enc), c.nets, c.p1, c.p2, c.p3, c.p4, .int .i64 c.d1, .int .i64 c.d2, .int .i64 c.d3, .int .i64 c.d4, .int .i64 c.multi]
structure Ses where
  state : Int
  retry : Int
  hold : Int
  keep : Int
  holdTime : Int
  router : Int
  restart : Int
  refresh : Bool
  untl : Int
def Ses.enc (s : Ses) : List AV := [.int .i64 s.state, .int .i64 s.retry, .int .i64 s.hold, .int .i64 s.keep, .int .i64 s.holdTime, .int .u32 s.router, .int .i64 s.restart, .bool s.refresh, .int .i64 s.untl]
structure Act where
  kind : Int
  msg : PMsg
def Act.enc (a : Act) : List AV := .int .i64 a.kind :: a.msg.enc
theorem Pfx.pure (s : Pfx) : pureL s.enc = true := rfl
@[simp] theorem pure_pfxs (l : List Pfx) : pureLL (l.map Pfx.enc) = true := pureLL_map Pfx.pure l
theorem Cap.pure (s : Cap) : pureL s.enc = true := by simp [Cap.enc, pureL, AV.pure, pureLL_bytes]
@[simp] theorem pure_caps (l : List Cap) : pureLL (l.map Cap.enc) = true := pureLL_map Cap.pure l
@[simp] theorem PMsg.pure (s : PMsg) : pureL s.enc = true := by simp [PMsg.enc, pureL, AV.pure, pureLL_bytes]
theorem Peer.pure (s : Peer) : pureL s.enc = true := rfl
@[simp] theorem pure_peers (l : List Peer) : pureLL (l.map Peer.enc) = true := pureLL_map Peer.pure l
@[simp] theorem Ses.pure (s : Ses) : pureL s.enc = true := rfl
@[simp] theorem Act.pure (s : Act) : pureL s.enc = true := by simp [Act.enc, pureL, AV.pure]
@[simp] theorem pure_acts (l : List Act) : pureLL (l.map Act.enc) = true := pureLL_map Act.pure l
structure Conf.ok (c : Conf) : Prop where
  nets : c.nets.pure = true
  p1 : c.p1.pure = true
  p2 : c.p2.pure = true
  p3 : c.p3.pure = true
  p4 : c.p4.pure = true
  as : okI c.as
  confed : okI c.confed
  router : okU c.router
  peers : ∀ p ∈ c.peers, okI p.as ∧ okI p.hold ∧ okI p.restart ∧ okI p.kind
  len : c.peers.length ≤ maxLen
theorem Conf.pure {c : Conf} (h : c.ok) : pureL c.enc = true := by simp [Conf.enc, pureL, AV.pure, h.nets, h.p1, h.p2, h.p3, h.p4]
structure Pfx.ok (p : Pfx) : Prop where
  addr : okU p.addr
  len : okI p.len
structure PMsg.ok (m : PMsg) : Prop where
  kind : okI m.kind
  version : okI m.version
  as : okI m.as
  hold : okI m.hold
  router : okU m.router
  caps : ∀ c ∈ m.caps, okI c.code
  withdrawn : ∀ p ∈ m.withdrawn, p.ok
  attrs : m.attrs.ok
  reach : ∀ p ∈ m.reach, p.ok
  code : okI m.code
  sub : okI m.sub
theorem T_str {as : List AV} (h : Ty.T .str as) : ∃ s, as = [.str s] := by
  obtain ⟨s, rfl, _⟩ := h; exact ⟨s, rfl⟩
structure Ses.ok (s : Ses) : Prop where
  state : okI s.state
  retry : okI s.retry
  hold : okI s.hold
  keep : okI s.keep
  holdTime : okI s.holdTime
  router : okU s.router
  restart : okI s.restart
  untl : okI s.untl
end Go.AM.IR
set_option maxHeartbeats 4000000
set_option maxRecDepth 20000
namespace Go.AM.IR
def keepN (x n : Nat) : Nat := x / 2 ^ (32 - n) * 2 ^ (32 - n)
def maskN (n : Nat) : Nat := 4294967296 - 2 ^ (32 - n)
theorem keepN_bit (x n j : Nat) (hn : n ≤ 32) : (keepN x n).testBit j = (decide (32 - n ≤ j) && x.testBit j) := by
  unfold keepN
  rw [Nat.testBit_mul_two_pow]
  by_cases h : 32 - n ≤ j
  · simp only [h, decide_true, Bool.true_and]
    rw [Nat.testBit_div_two_pow]; congr 1; omega
  · simp [h]
theorem maskN_eq (n : Nat) (hn : n ≤ 32) : maskN n = (2 ^ n - 1) * 2 ^ (32 - n) := by
  unfold maskN
  rw [Nat.sub_mul, ← Nat.pow_add, show n + (32 - n) = 32 by omega]; omega
theorem maskN_bit (n j : Nat) (hn : n ≤ 32) : (maskN n).testBit j = (decide (32 - n ≤ j) && decide (j < 32)) := by
  rw [maskN_eq n hn, Nat.testBit_mul_two_pow, Nat.testBit_two_pow_sub_one]
  by_cases h : 32 - n ≤ j
  · simp only [h, decide_true, Bool.true_and]
    congr 1; simp; omega
  · simp [h]
theorem and_mask (x n : Nat) (hx : x < 4294967296) (hn : n ≤ 32) : x &&& maskN n = keepN x n := by
  apply Nat.eq_of_testBit_eq
  intro j
  rw [Nat.testBit_and, keepN_bit x n j hn, maskN_bit n j hn]
  by_cases hj : j < 32
  · simp [hj, Bool.and_comm]
  · have : x.testBit j = false := Nat.testBit_lt_two_pow (Nat.lt_of_lt_of_le hx (by rw [show 4294967296 = 2 ^ 32 from rfl]; exact Nat.pow_le_pow_right (by omega) (by omega)))
    simp [this]
theorem keepN_le (x n : Nat) : keepN x n ≤ x := Nat.div_mul_le_self _ _
theorem keepN_succ (x n : Nat) (hn : n < 32) : keepN x n ||| (x / 2 ^ (31 - n) % 2 * 2 ^ (31 - n)) = keepN x (n + 1) := by
  apply Nat.eq_of_testBit_eq
  intro j
  rw [Nat.testBit_or, keepN_bit x n j (by omega), keepN_bit x (n + 1) j (by omega), Nat.testBit_mul_two_pow]
  have e1 : ∀ q : Nat, (x / 2 ^ (31 - n) % 2).testBit q = (decide (q < 1) && (x / 2 ^ (31 - n)).testBit q) := fun q => by
    have := Nat.testBit_mod_two_pow (x / 2 ^ (31 - n)) 1 q
    simpa using this
  rw [e1, Nat.testBit_div_two_pow]
  by_cases h1 : 32 - n ≤ j
  · have h2 : 32 - (n + 1) ≤ j := by omega
    have h3 : ¬ (j - (31 - n) < 1) := by omega
    simp [h1, h2, h3]; intro _; omega
  · by_cases h2 : j = 31 - n
    · subst h2
      have h3 : 32 - (n + 1) ≤ 31 - n := by omega
      simp [h1, h3]
    · have h3 : ¬ 32 - (n + 1) ≤ j := by omega
      have h4 : ¬ 31 - n ≤ j := by omega
      simp [h1, h3, h4]
theorem keepN_zero (x : Nat) (hx : x < 4294967296) : keepN x 0 = 0 := by
  unfold keepN; rw [Nat.div_eq_of_lt (by simpa using hx), Nat.zero_mul]
def clampN (n : Int) : Nat := if n ≤ 0 then 0 else if n ≤ 32 then n.toNat else 32
theorem clampN_le (n : Int) : clampN n ≤ 32 := by
  unfold clampN
  repeat' split
  all_goals omega
section
variable {k : AV → Prop}
theorem wrapU32 (r : Nat) (hr : r < 4294967296) : IntKind.wrap .u32 (r : Int) = (r : Int) := by
  simp [IntKind.wrap, IntKind.signed, IntKind.bits]; omega
theorem ofInt32 (a : Nat) (ha : a < 4294967296) : (BitVec.ofInt 32 (a : Int)).toNat = a := by
  rw [BitVec.toNat_ofInt]; omega
theorem and_u32 (a b : Nat) (ha : a < 4294967296) (hb : b < 4294967296) : intBits .and .u32 (a : Int) (b : Int) = ((a &&& b : Nat) : Int) := by
  have hl : a &&& b < 4294967296 := Nat.lt_of_le_of_lt Nat.and_le_left ha
  show IntKind.wrap .u32 (((BitVec.ofInt 32 (a : Int) &&& BitVec.ofInt 32 (b : Int)).toNat : Nat) : Int) = _
  rw [BitVec.toNat_and, ofInt32 a ha, ofInt32 b hb]; exact wrapU32 _ hl
theorem or_u32 (a b : Nat) (ha : a < 4294967296) (hb : b < 4294967296) : intBits .or .u32 (a : Int) (b : Int) = ((a ||| b : Nat) : Int) := by
  have hl : a ||| b < 4294967296 := Nat.or_lt_two_pow (n := 32) ha hb
  show IntKind.wrap .u32 (((BitVec.ofInt 32 (a : Int) ||| BitVec.ofInt 32 (b : Int)).toNat : Nat) : Int) = _
  rw [BitVec.toNat_or, ofInt32 a ha, ofInt32 b hb]; exact wrapU32 _ hl
theorem zAnd32 {a b : Nat} (h : k (.int .u32 ((a &&& b : Nat) : Int))) (ha : a < 4294967296 := by omega) (hb : b < 4294967296 := by omega) : ∃ v, binA .and (.int .u32 (a : Int)) (.int .u32 (b : Int)) = some v ∧ k v := ⟨_, by show some (AV.int .u32 (intBits .and .u32 _ _)) = _; rw [and_u32 a b ha hb], h⟩
theorem zOr32 {a b : Nat} (h : k (.int .u32 ((a ||| b : Nat) : Int))) (ha : a < 4294967296) (hb : b < 4294967296) : ∃ v, binA .or (.int .u32 (a : Int)) (.int .u32 (b : Int)) = some v ∧ k v := ⟨_, by show some (AV.int .u32 (intBits .or .u32 _ _)) = _; rw [or_u32 a b ha hb], h⟩
theorem zMask {n : Nat} {j : Int} (h : k (.int .u32 ((maskN n : Nat) : Int))) (hj : j = 32 - (n : Int)) (hn : n ≤ 32) : ∃ v, binA .shl (.int .u32 4294967295) (.int .i64 j) = some v ∧ k v := by
  refine ⟨_, ?_, h⟩
  show (if j < 0 then none else some (AV.int .u32 (IntKind.wrap .u32 (4294967295 * 2 ^ (min j.toNat 32))))) = _
  rw [if_neg (by omega), show min j.toNat 32 = 32 - n by omega]
  have h1 : (2 : Nat) ^ (32 - n) ≤ 2 ^ 32 := Nat.pow_le_pow_right (by omega) (by omega)
  have h2 : 0 < (2 : Nat) ^ (32 - n) := Nat.pow_pos (by omega)
  have e : (4294967295 * 2 ^ (32 - n) : Int) = ((maskN n : Nat) : Int) + 4294967296 * ((2 ^ (32 - n) - 1 : Nat) : Int) := by
    unfold maskN
    have : ((2 ^ (32 - n) : Nat) : Int) = (2 : Int) ^ (32 - n) := by simp
    rw [← this]; omega
  congr 2
  rw [e]
  have h3 : maskN n < 4294967296 := by unfold maskN; omega
  simp [IntKind.wrap, IntKind.signed, IntKind.bits]; omega
theorem zShr32 {x : Nat} {j : Int} (h : k (.int .u32 ((x / 2 ^ j.toNat : Nat) : Int))) (h0 : 0 ≤ j) (h1 : j ≤ 32) : ∃ v, binA .shr (.int .u32 (x : Int)) (.int .u64 j) = some v ∧ k v := by
  refine ⟨_, ?_, h⟩
  show (if j < 0 then none else some (AV.int .u32 ((x : Int).fdiv (2 ^ (min j.toNat 32))))) = _
  rw [if_neg (by omega), show min j.toNat 32 = j.toNat by omega]
  congr 2
  rw [Int.fdiv_eq_ediv_of_nonneg _ (by exact Int.le_of_lt (Int.pow_pos (by omega)))]
  simp
theorem zShl1 {b m : Nat} {j : Int} (h : k (.int .u32 ((b * 2 ^ m : Nat) : Int))) (hj : j = m) (hm : m < 32) (hb : b < 2) : ∃ v, binA .shl (.int .u32 (b : Int)) (.int .u64 j) = some v ∧ k v := by
  refine ⟨_, ?_, h⟩
  show (if j < 0 then none else some (AV.int .u32 (IntKind.wrap .u32 ((b : Int) * 2 ^ (min j.toNat 32))))) = _
  rw [if_neg (by omega), show min j.toNat 32 = m by omega]
  have h1 : (2 : Nat) ^ m ≤ 2 ^ 31 := Nat.pow_le_pow_right (by omega) (by omega)
  have e : ((b : Int) * 2 ^ m : Int) = ((b * 2 ^ m : Nat) : Int) := by simp
  rw [e]
  have h3 : b * 2 ^ m < 4294967296 := by
    have : b * 2 ^ m ≤ 1 * 2 ^ m := Nat.mul_le_mul_right _ (by omega)
    omega
  congr 2
  simp only [IntKind.wrap, IntKind.signed, IntKind.bits]; simp; omega
theorem zAnd1 {x : Nat} (hx : x < 4294967296) (h : k (.int .u32 ((x % 2 : Nat) : Int))) : ∃ v, binA .and (.int .u32 (x : Int)) (.int .u32 1) = some v ∧ k v :=
  ⟨_, by
    show some (AV.int .u32 (intBits .and .u32 (x : Int) ((1 : Nat) : Int))) = _
    rw [and_u32 x 1 hx (by omega), Nat.and_one_is_mod], h⟩
end
end Go.AM.IR
set_option maxHeartbeats 4000000
set_option maxRecDepth 20000
namespace Go.AM.IR
theorem clamp_gives186 (n : Int) : Gives G 186 [.int .i64 n, .int .i64 32] [] ⟨.int .i64 (clampN n : Nat), []⟩ := by
  by_cases h0 : n ≤ 0
  · rw [show clampN n = 0 from by simp [clampN, h0]]
    by_cases h1 : n = 0
    · subst h1
      refine gives_code (F := f186) rfl rfl (W_ok 300 _ _ _ _ ?_)
      repeat' ((conv => whnf); first | refine bslP (by first | rfl | (simp [pureL, pureLL, AV.pure]; done) | fail) rfl ?_ | refine TakeC.full (by first | rfl | omega | (simp; done) | (simp; omega) | fail) ?_ | refine zBs ?_ | refine zBn ?_ | refine zBv rfl rfl ?_ | refine zN ?_ | refine zC ?_ | refine zC4 ?_ | refine zOr16 ?_ | refine zC1 ?_ | refine zByte ?_ | refine zMaxL ?_ | refine zMaxR ?_ | refine zMinL ?_ | refine zMinR ?_ | refine zShr ?_ | refine zC8 ?_ | refine zQ ?_ | refine zR ?_ | refine zS ?_ | refine zA ?_ | refine zM ?_ | refine xr rfl ?_ | refine ai rfl ?_ | refine condT ?_ | refine condF ?_ | refine condG1 ?_ | refine condG0 ?_ | refine cD ?_ | refine dD ?_ | refine cB ?_ | refine dB ?_ | refine cN ?_ | refine dN ?_ | refine cV ?_ | refine dV ?_ | refine cE ?_ | refine dE ?_ | refine condX0 ?_ | refine condX1 ?_ | refine condNot ?_ | refine condAnd ?_ | refine condOr ?_ | refine aO ?_ | refine aB ?_ | refine aR ?_ | refine aR ?_ (by simp; omega) | refine xr (by assumption) ?_ | refine ai (by assumption) ?_ | refine condD (fun h => ?_) (fun h => ?_) | refine condB (fun h => ?_) (fun h => ?_) | refine condN (fun h => ?_) (fun h => ?_) | refine condE (fun h => ?_) (fun h => ?_) | refine condV (fun h => ?_) (fun h => ?_))
      (first | refine ev_fin (And.intro (by first | rfl | (simp [AV.pure, pureL]; done) | fail) ?_) | refine ev_fin0 (And.intro (by first | rfl | (simp [AV.pure, pureL]; done) | fail) ?_)); rfl
    · have h2 : n < 0 := by omega
      refine gives_code (F := f186) rfl rfl (W_ok 300 _ _ _ _ ?_)
      repeat' ((conv => whnf); first | refine bslP (by first | rfl | (simp [pureL, pureLL, AV.pure]; done) | fail) rfl ?_ | refine TakeC.full (by first | rfl | omega | (simp; done) | (simp; omega) | fail) ?_ | refine zBs ?_ | refine zBn ?_ | refine zBv rfl rfl ?_ | refine zN ?_ | refine zC ?_ | refine zC4 ?_ | refine zOr16 ?_ | refine zC1 ?_ | refine zByte ?_ | refine zMaxL ?_ | refine zMaxR ?_ | refine zMinL ?_ | refine zMinR ?_ | refine zShr ?_ | refine zC8 ?_ | refine zQ ?_ | refine zR ?_ | refine zS ?_ | refine zA ?_ | refine zM ?_ | refine xr rfl ?_ | refine ai rfl ?_ | refine condT ?_ | refine condF ?_ | refine condG1 ?_ | refine condG0 ?_ | refine cD ?_ | refine dD ?_ | refine cB ?_ | refine dB ?_ | refine cN ?_ | refine dN ?_ | refine cV ?_ | refine dV ?_ | refine cE ?_ | refine dE ?_ | refine condX0 ?_ | refine condX1 ?_ | refine condNot ?_ | refine condAnd ?_ | refine condOr ?_ | refine aO ?_ | refine aB ?_ | refine aR ?_ | refine aR ?_ (by simp; omega) | refine xr (by assumption) ?_ | refine ai (by assumption) ?_ | refine condD (fun h => ?_) (fun h => ?_) | refine condB (fun h => ?_) (fun h => ?_) | refine condN (fun h => ?_) (fun h => ?_) | refine condE (fun h => ?_) (fun h => ?_) | refine condV (fun h => ?_) (fun h => ?_))
      (first | refine ev_fin (And.intro (by first | rfl | (simp [AV.pure, pureL]; done) | fail) ?_) | refine ev_fin0 (And.intro (by first | rfl | (simp [AV.pure, pureL]; done) | fail) ?_)); first | rfl | (simp [h2])
  · by_cases h1 : n ≤ 32
    · rw [show ((clampN n : Nat) : Int) = n from by simp [clampN, h0, h1]; omega]
      refine gives_code (F := f186) rfl rfl (W_ok 300 _ _ _ _ ?_)
      repeat' ((conv => whnf); first | refine bslP (by first | rfl | (simp [pureL, pureLL, AV.pure]; done) | fail) rfl ?_ | refine TakeC.full (by first | rfl | omega | (simp; done) | (simp; omega) | fail) ?_ | refine zBs ?_ | refine zBn ?_ | refine zBv rfl rfl ?_ | refine zN ?_ | refine zC ?_ | refine zC4 ?_ | refine zOr16 ?_ | refine zC1 ?_ | refine zByte ?_ | refine zMaxL ?_ | refine zMaxR ?_ | refine zMinL ?_ | refine zMinR ?_ | refine zShr ?_ | refine zC8 ?_ | refine zQ ?_ | refine zR ?_ | refine zS ?_ | refine zA ?_ | refine zM ?_ | refine xr rfl ?_ | refine ai rfl ?_ | refine condT ?_ | refine condF ?_ | refine condG1 ?_ | refine condG0 ?_ | refine cD ?_ | refine dD ?_ | refine cB ?_ | refine dB ?_ | refine cN ?_ | refine dN ?_ | refine cV ?_ | refine dV ?_ | refine cE ?_ | refine dE ?_ | refine condX0 ?_ | refine condX1 ?_ | refine condNot ?_ | refine condAnd ?_ | refine condOr ?_ | refine aO ?_ | refine aB ?_ | refine aR ?_ | refine aR ?_ (by simp; omega) | refine xr (by assumption) ?_ | refine ai (by assumption) ?_ | refine condD (fun h => ?_) (fun h => ?_) | refine condB (fun h => ?_) (fun h => ?_) | refine condN (fun h => ?_) (fun h => ?_) | refine condE (fun h => ?_) (fun h => ?_) | refine condV (fun h => ?_) (fun h => ?_))
      (first | refine ev_fin (And.intro (by first | rfl | (simp [AV.pure, pureL]; done) | fail) ?_) | refine ev_fin0 (And.intro (by first | rfl | (simp [AV.pure, pureL]; done) | fail) ?_)); rfl
    · rw [show clampN n = 32 from by simp [clampN, h0, h1]]
      refine gives_code (F := f186) rfl rfl (W_ok 300 _ _ _ _ ?_)
      repeat' ((conv => whnf); first | refine bslP (by first | rfl | (simp [pureL, pureLL, AV.pure]; done) | fail) rfl ?_ | refine TakeC.full (by first | rfl | omega | (simp; done) | (simp; omega) | fail) ?_ | refine zBs ?_ | refine zBn ?_ | refine zBv rfl rfl ?_ | refine zN ?_ | refine zC ?_ | refine zC4 ?_ | refine zOr16 ?_ | refine zC1 ?_ | refine zByte ?_ | refine zMaxL ?_ | refine zMaxR ?_ | refine zMinL ?_ | refine zMinR ?_ | refine zShr ?_ | refine zC8 ?_ | refine zQ ?_ | refine zR ?_ | refine zS ?_ | refine zA ?_ | refine zM ?_ | refine xr rfl ?_ | refine ai rfl ?_ | refine condT ?_ | refine condF ?_ | refine condG1 ?_ | refine condG0 ?_ | refine cD ?_ | refine dD ?_ | refine cB ?_ | refine dB ?_ | refine cN ?_ | refine dN ?_ | refine cV ?_ | refine dV ?_ | refine cE ?_ | refine dE ?_ | refine condX0 ?_ | refine condX1 ?_ | refine condNot ?_ | refine condAnd ?_ | refine condOr ?_ | refine aO ?_ | refine aB ?_ | refine aR ?_ | refine aR ?_ (by simp; omega) | refine xr (by assumption) ?_ | refine ai (by assumption) ?_ | refine condD (fun h => ?_) (fun h => ?_) | refine condB (fun h => ?_) (fun h => ?_) | refine condN (fun h => ?_) (fun h => ?_) | refine condE (fun h => ?_) (fun h => ?_) | refine condV (fun h => ?_) (fun h => ?_))
      (first | refine ev_fin (And.intro (by first | rfl | (simp [AV.pure, pureL]; done) | fail) ?_) | refine ev_fin0 (And.intro (by first | rfl | (simp [AV.pure, pureL]; done) | fail) ?_)); rfl
theorem low_gives184 (n : Int) : Gives G 184 [.int .i64 n, .int .i64 32] [] ⟨.int .i64 (clampN n : Nat), []⟩ := by
  by_cases h0 : n ≤ 0
  · rw [show clampN n = 0 from by simp [clampN, h0]]
    by_cases h1 : n = 0
    · subst h1
      refine gives_code (F := f184) rfl rfl (W_ok 300 _ _ _ _ ?_)
      repeat' ((conv => whnf); first | refine bslP (by first | rfl | (simp [pureL, pureLL, AV.pure]; done) | fail) rfl ?_ | refine TakeC.full (by first | rfl | omega | (simp; done) | (simp; omega) | fail) ?_ | refine zBs ?_ | refine zBn ?_ | refine zBv rfl rfl ?_ | refine zN ?_ | refine zC ?_ | refine zC4 ?_ | refine zOr16 ?_ | refine zC1 ?_ | refine zByte ?_ | refine zMaxL ?_ | refine zMaxR ?_ | refine zMinL ?_ | refine zMinR ?_ | refine zShr ?_ | refine zC8 ?_ | refine zQ ?_ | refine zR ?_ | refine zS ?_ | refine zA ?_ | refine zM ?_ | refine xr rfl ?_ | refine ai rfl ?_ | refine condT ?_ | refine condF ?_ | refine condG1 ?_ | refine condG0 ?_ | refine cD ?_ | refine dD ?_ | refine cB ?_ | refine dB ?_ | refine cN ?_ | refine dN ?_ | refine cV ?_ | refine dV ?_ | refine cE ?_ | refine dE ?_ | refine condX0 ?_ | refine condX1 ?_ | refine condNot ?_ | refine condAnd ?_ | refine condOr ?_ | refine aO ?_ | refine aB ?_ | refine aR ?_ | refine aR ?_ (by simp; omega) | refine xr (by assumption) ?_ | refine ai (by assumption) ?_ | refine condD (fun h => ?_) (fun h => ?_) | refine condB (fun h => ?_) (fun h => ?_) | refine condN (fun h => ?_) (fun h => ?_) | refine condE (fun h => ?_) (fun h => ?_) | refine condV (fun h => ?_) (fun h => ?_))
      (first | refine ev_fin (And.intro (by first | rfl | (simp [AV.pure, pureL]; done) | fail) ?_) | refine ev_fin0 (And.intro (by first | rfl | (simp [AV.pure, pureL]; done) | fail) ?_)); rfl
    · have h2 : n < 0 := by omega
      refine gives_code (F := f184) rfl rfl (W_ok 300 _ _ _ _ ?_)
      repeat' ((conv => whnf); first | refine bslP (by first | rfl | (simp [pureL, pureLL, AV.pure]; done) | fail) rfl ?_ | refine TakeC.full (by first | rfl | omega | (simp; done) | (simp; omega) | fail) ?_ | refine zBs ?_ | refine zBn ?_ | refine zBv rfl rfl ?_ | refine zN ?_ | refine zC ?_ | refine zC4 ?_ | refine zOr16 ?_ | refine zC1 ?_ | refine zByte ?_ | refine zMaxL ?_ | refine zMaxR ?_ | refine zMinL ?_ | refine zMinR ?_ | refine zShr ?_ | refine zC8 ?_ | refine zQ ?_ | refine zR ?_ | refine zS ?_ | refine zA ?_ | refine zM ?_ | refine xr rfl ?_ | refine ai rfl ?_ | refine condT ?_ | refine condF ?_ | refine condG1 ?_ | refine condG0 ?_ | refine cD ?_ | refine dD ?_ | refine cB ?_ | refine dB ?_ | refine cN ?_ | refine dN ?_ | refine cV ?_ | refine dV ?_ | refine cE ?_ | refine dE ?_ | refine condX0 ?_ | refine condX1 ?_ | refine condNot ?_ | refine condAnd ?_ | refine condOr ?_ | refine aO ?_ | refine aB ?_ | refine aR ?_ | refine aR ?_ (by simp; omega) | refine xr (by assumption) ?_ | refine ai (by assumption) ?_ | refine condD (fun h => ?_) (fun h => ?_) | refine condB (fun h => ?_) (fun h => ?_) | refine condN (fun h => ?_) (fun h => ?_) | refine condE (fun h => ?_) (fun h => ?_) | refine condV (fun h => ?_) (fun h => ?_))
      (first | refine ev_fin (And.intro (by first | rfl | (simp [AV.pure, pureL]; done) | fail) ?_) | refine ev_fin0 (And.intro (by first | rfl | (simp [AV.pure, pureL]; done) | fail) ?_)); first | rfl | (simp [h2])
  · by_cases h1 : n ≤ 32
    · rw [show ((clampN n : Nat) : Int) = n from by simp [clampN, h0, h1]; omega]
      refine gives_code (F := f184) rfl rfl (W_ok 300 _ _ _ _ ?_)
      repeat' ((conv => whnf); first | refine bslP (by first | rfl | (simp [pureL, pureLL, AV.pure]; done) | fail) rfl ?_ | refine TakeC.full (by first | rfl | omega | (simp; done) | (simp; omega) | fail) ?_ | refine zBs ?_ | refine zBn ?_ | refine zBv rfl rfl ?_ | refine zN ?_ | refine zC ?_ | refine zC4 ?_ | refine zOr16 ?_ | refine zC1 ?_ | refine zByte ?_ | refine zMaxL ?_ | refine zMaxR ?_ | refine zMinL ?_ | refine zMinR ?_ | refine zShr ?_ | refine zC8 ?_ | refine zQ ?_ | refine zR ?_ | refine zS ?_ | refine zA ?_ | refine zM ?_ | refine xr rfl ?_ | refine ai rfl ?_ | refine condT ?_ | refine condF ?_ | refine condG1 ?_ | refine condG0 ?_ | refine cD ?_ | refine dD ?_ | refine cB ?_ | refine dB ?_ | refine cN ?_ | refine dN ?_ | refine cV ?_ | refine dV ?_ | refine cE ?_ | refine dE ?_ | refine condX0 ?_ | refine condX1 ?_ | refine condNot ?_ | refine condAnd ?_ | refine condOr ?_ | refine aO ?_ | refine aB ?_ | refine aR ?_ | refine aR ?_ (by simp; omega) | refine xr (by assumption) ?_ | refine ai (by assumption) ?_ | refine condD (fun h => ?_) (fun h => ?_) | refine condB (fun h => ?_) (fun h => ?_) | refine condN (fun h => ?_) (fun h => ?_) | refine condE (fun h => ?_) (fun h => ?_) | refine condV (fun h => ?_) (fun h => ?_))
      (first | refine ev_fin (And.intro (by first | rfl | (simp [AV.pure, pureL]; done) | fail) ?_) | refine ev_fin0 (And.intro (by first | rfl | (simp [AV.pure, pureL]; done) | fail) ?_)); rfl
    · rw [show clampN n = 32 from by simp [clampN, h0, h1]]
      refine gives_code (F := f184) rfl rfl (W_ok 300 _ _ _ _ ?_)
      repeat' ((conv => whnf); first | refine bslP (by first | rfl | (simp [pureL, pureLL, AV.pure]; done) | fail) rfl ?_ | refine TakeC.full (by first | rfl | omega | (simp; done) | (simp; omega) | fail) ?_ | refine zBs ?_ | refine zBn ?_ | refine zBv rfl rfl ?_ | refine zN ?_ | refine zC ?_ | refine zC4 ?_ | refine zOr16 ?_ | refine zC1 ?_ | refine zByte ?_ | refine zMaxL ?_ | refine zMaxR ?_ | refine zMinL ?_ | refine zMinR ?_ | refine zShr ?_ | refine zC8 ?_ | refine zQ ?_ | refine zR ?_ | refine zS ?_ | refine zA ?_ | refine zM ?_ | refine xr rfl ?_ | refine ai rfl ?_ | refine condT ?_ | refine condF ?_ | refine condG1 ?_ | refine condG0 ?_ | refine cD ?_ | refine dD ?_ | refine cB ?_ | refine dB ?_ | refine cN ?_ | refine dN ?_ | refine cV ?_ | refine dV ?_ | refine cE ?_ | refine dE ?_ | refine condX0 ?_ | refine condX1 ?_ | refine condNot ?_ | refine condAnd ?_ | refine condOr ?_ | refine aO ?_ | refine aB ?_ | refine aR ?_ | refine aR ?_ (by simp; omega) | refine xr (by assumption) ?_ | refine ai (by assumption) ?_ | refine condD (fun h => ?_) (fun h => ?_) | refine condB (fun h => ?_) (fun h => ?_) | refine condN (fun h => ?_) (fun h => ?_) | refine condE (fun h => ?_) (fun h => ?_) | refine condV (fun h => ?_) (fun h => ?_))
      (first | refine ev_fin (And.intro (by first | rfl | (simp [AV.pure, pureL]; done) | fail) ?_) | refine ev_fin0 (And.intro (by first | rfl | (simp [AV.pure, pureL]; done) | fail) ?_)); rfl
theorem mask_gives183 (n : Int) : Gives G 183 [.int .i64 n] [] ⟨.int .u32 (maskN (clampN n) : Nat), []⟩ := by
  have hc := clamp_gives186 n
  have hl := clampN_le n
  generalize clampN n = c at *
  refine gives_code (F := f183) rfl rfl (W_ok 300 _ _ _ _ ?_)
  repeat' ((conv => whnf); first | refine zMask (n := c) ?_ (by omega) (by omega) | refine bslP (by first | rfl | (simp [pureL, pureLL, AV.pure]; done) | fail) rfl ?_ | refine TakeC.full (by first | rfl | omega | (simp; done) | (simp; omega) | fail) ?_ | refine zBs ?_ | refine zBn ?_ | refine zBv rfl rfl ?_ | refine zN ?_ | refine zC ?_ | refine zC4 ?_ | refine zOr16 ?_ | refine zC1 ?_ | refine zByte ?_ | refine zMaxL ?_ | refine zMaxR ?_ | refine zMinL ?_ | refine zMinR ?_ | refine zShr ?_ | refine zC8 ?_ | refine zQ ?_ | refine zR ?_ | refine zS ?_ | refine zA ?_ | refine zM ?_ | refine xr rfl ?_ | refine ai rfl ?_ | refine condT ?_ | refine condF ?_ | refine condG1 ?_ | refine condG0 ?_ | refine cD ?_ | refine dD ?_ | refine cB ?_ | refine dB ?_ | refine cN ?_ | refine dN ?_ | refine cV ?_ | refine dV ?_ | refine cE ?_ | refine dE ?_ | refine condX0 ?_ | refine condX1 ?_ | refine condNot ?_ | refine condAnd ?_ | refine condOr ?_ | refine aO ?_ | refine aB ?_ | refine aR ?_ | refine aR ?_ (by simp; omega) | refine xr (by assumption) ?_ | refine ai (by assumption) ?_ | refine kV (hc) ?_ | refine condD (fun h => ?_) (fun h => ?_) | refine condB (fun h => ?_) (fun h => ?_) | refine condN (fun h => ?_) (fun h => ?_) | refine condE (fun h => ?_) (fun h => ?_) | refine condV (fun h => ?_) (fun h => ?_))
  (first | refine ev_fin (And.intro (by first | rfl | (simp [AV.pure, pureL]; done) | fail) ?_) | refine ev_fin0 (And.intro (by first | rfl | (simp [AV.pure, pureL]; done) | fail) ?_)); rfl
theorem keep_gives181 (x : Nat) (n : Int) (hx : x < 4294967296) : Gives G 181 [.int .u32 (x : Int), .int .i64 n] [] ⟨.int .u32 (keepN x (clampN n) : Nat), []⟩ := by
  have hm := mask_gives183 n
  have hl := clampN_le n
  rw [← and_mask x (clampN n) hx hl]
  have hb : maskN (clampN n) < 4294967296 := by unfold maskN; have := Nat.pow_pos (n := 32 - clampN n) (show 0 < 2 by omega); omega
  generalize maskN (clampN n) = mk at *
  refine gives_code (F := f181) rfl rfl (W_ok 300 _ _ _ _ ?_)
  repeat' ((conv => whnf); first | refine zAnd32 ?_ hx hb | refine bslP (by first | rfl | (simp [pureL, pureLL, AV.pure]; done) | fail) rfl ?_ | refine TakeC.full (by first | rfl | omega | (simp; done) | (simp; omega) | fail) ?_ | refine zBs ?_ | refine zBn ?_ | refine zBv rfl rfl ?_ | refine zN ?_ | refine zC ?_ | refine zC4 ?_ | refine zOr16 ?_ | refine zC1 ?_ | refine zByte ?_ | refine zMaxL ?_ | refine zMaxR ?_ | refine zMinL ?_ | refine zMinR ?_ | refine zShr ?_ | refine zC8 ?_ | refine zQ ?_ | refine zR ?_ | refine zS ?_ | refine zA ?_ | refine zM ?_ | refine xr rfl ?_ | refine ai rfl ?_ | refine condT ?_ | refine condF ?_ | refine condG1 ?_ | refine condG0 ?_ | refine cD ?_ | refine dD ?_ | refine cB ?_ | refine dB ?_ | refine cN ?_ | refine dN ?_ | refine cV ?_ | refine dV ?_ | refine cE ?_ | refine dE ?_ | refine condX0 ?_ | refine condX1 ?_ | refine condNot ?_ | refine condAnd ?_ | refine condOr ?_ | refine aO ?_ | refine aB ?_ | refine aR ?_ | refine aR ?_ (by simp; omega) | refine xr (by assumption) ?_ | refine ai (by assumption) ?_ | refine kV (hm) ?_ | refine condD (fun h => ?_) (fun h => ?_) | refine condB (fun h => ?_) (fun h => ?_) | refine condN (fun h => ?_) (fun h => ?_) | refine condE (fun h => ?_) (fun h => ?_) | refine condV (fun h => ?_) (fun h => ?_))
  (first | refine ev_fin (And.intro (by first | rfl | (simp [AV.pure, pureL]; done) | fail) ?_) | refine ev_fin0 (And.intro (by first | rfl | (simp [AV.pure, pureL]; done) | fail) ?_)); rfl
theorem at_gives185 (x i : Nat) (hx : x < 4294967296) (hi : i < 32) : Gives G 185 [.int .u32 (x : Int), .int .i64 (i : Int)] [] ⟨.int .i64 (x / 2 ^ (31 - i) % 2 : Nat), []⟩ := by
  have he : (31 - (i : Int)).toNat = 31 - i := by omega
  have hd : x / 2 ^ (31 - i) < 4294967296 := Nat.lt_of_le_of_lt (Nat.div_le_self _ _) hx
  have hm : x / 2 ^ (31 - i) % 2 < 2 := Nat.mod_lt _ (by omega)
  rw [← he] at hd hm ⊢
  refine gives_code (F := f185) rfl rfl (W_ok 300 _ _ _ _ ?_)
  repeat' ((conv => whnf); first | refine zShr32 ?_ (by omega) (by omega) | refine zAnd1 hd ?_ | refine bslP (by first | rfl | (simp [pureL, pureLL, AV.pure]; done) | fail) rfl ?_ | refine TakeC.full (by first | rfl | omega | (simp; done) | (simp; omega) | fail) ?_ | refine zBs ?_ | refine zBn ?_ | refine zBv rfl rfl ?_ | refine zN ?_ | refine zC ?_ | refine zC4 ?_ | refine zOr16 ?_ | refine zC1 ?_ | refine zByte ?_ | refine zMaxL ?_ | refine zMaxR ?_ | refine zMinL ?_ | refine zMinR ?_ | refine zShr ?_ | refine zC8 ?_ | refine zQ ?_ | refine zR ?_ | refine zS ?_ | refine zA ?_ | refine zM ?_ | refine xr rfl ?_ | refine ai rfl ?_ | refine condT ?_ | refine condF ?_ | refine condG1 ?_ | refine condG0 ?_ | refine cD ?_ | refine dD ?_ | refine cB ?_ | refine dB ?_ | refine cN ?_ | refine dN ?_ | refine cV ?_ | refine dV ?_ | refine cE ?_ | refine dE ?_ | refine condX0 ?_ | refine condX1 ?_ | refine condNot ?_ | refine condAnd ?_ | refine condOr ?_ | refine aO ?_ | refine aB ?_ | refine aR ?_ | refine aR ?_ (by simp; omega) | refine xr (by assumption) ?_ | refine ai (by assumption) ?_ | refine condD (fun h => ?_) (fun h => ?_) | refine condB (fun h => ?_) (fun h => ?_) | refine condN (fun h => ?_) (fun h => ?_) | refine condE (fun h => ?_) (fun h => ?_) | refine condV (fun h => ?_) (fun h => ?_))
  (first | refine ev_fin (And.intro (by first | rfl | (simp [AV.pure, pureL]; done) | fail) ?_) | refine ev_fin0 (And.intro (by first | rfl | (simp [AV.pure, pureL]; done) | fail) ?_)); rfl
theorem keep_loop182 (x c : Nat) (hx : x < 4294967296) (hc : c ≤ 32) : ∀ (d i : Nat) (T : List (Nat × AV)) (H : Heap) (ct : Nat) (hd : d + i = c),
   Ev G ⟨f182x7LH, ⟨(9, .int .i64 (i : Int)) :: (0, .int .u32 (x : Int)) :: (5, .int .u32 (keepN x i : Nat)) :: (8, .int .i64 (c : Int)) :: T, H, ct⟩, [.t 4], 0⟩ ⟨.int .u32 (keepN x c : Nat), []⟩
  | 0, i, T, H, ct, hd => by
    obtain rfl : i = c := by omega
    refine ev_loop' (W_ok 300 _ _ _ _ ?_)
    repeat' ((conv => whnf); first | refine bslP (by first | rfl | (simp [pureL, pureLL, AV.pure]; done) | fail) rfl ?_ | refine TakeC.full (by first | rfl | omega | (simp; done) | (simp; omega) | fail) ?_ | refine zBs ?_ | refine zBn ?_ | refine zBv rfl rfl ?_ | refine zN ?_ | refine zC ?_ | refine zC4 ?_ | refine zOr16 ?_ | refine zC1 ?_ | refine zByte ?_ | refine zMaxL ?_ | refine zMaxR ?_ | refine zMinL ?_ | refine zMinR ?_ | refine zShr ?_ | refine zC8 ?_ | refine zQ ?_ | refine zR ?_ | refine zS ?_ | refine zA ?_ | refine zM ?_ | refine xr rfl ?_ | refine ai rfl ?_ | refine condT ?_ | refine condF ?_ | refine condG1 ?_ | refine condG0 ?_ | refine cD ?_ | refine dD ?_ | refine cB ?_ | refine dB ?_ | refine cN ?_ | refine dN ?_ | refine cV ?_ | refine dV ?_ | refine cE ?_ | refine dE ?_ | refine condX0 ?_ | refine condX1 ?_ | refine condNot ?_ | refine condAnd ?_ | refine condOr ?_ | refine aO ?_ | refine aB ?_ | refine aR ?_ | refine aR ?_ (by simp; omega) | refine xr (by assumption) ?_ | refine ai (by assumption) ?_ | refine condD (fun h => ?_) (fun h => ?_) | refine condB (fun h => ?_) (fun h => ?_) | refine condN (fun h => ?_) (fun h => ?_) | refine condE (fun h => ?_) (fun h => ?_) | refine condV (fun h => ?_) (fun h => ?_))
    (first | refine ev_fin (And.intro (by first | rfl | (simp [AV.pure, pureL]; done) | fail) ?_) | refine ev_fin0 (And.intro (by first | rfl | (simp [AV.pure, pureL]; done) | fail) ?_)); rfl
  | d + 1, i, T, H, ct, hd => by
    have ha := at_gives185 x i hx (by omega)
    have hb : x / 2 ^ (31 - i) % 2 < 2 := Nat.mod_lt _ (by omega)
    have hk := keepN_succ x i (by omega)
    have hl := keepN_le x i
    have hs : x / 2 ^ (31 - i) % 2 * 2 ^ (31 - i) < 4294967296 := by
      have h1 : (2 : Nat) ^ (31 - i) ≤ 2 ^ 31 := Nat.pow_le_pow_right (by omega) (by omega)
      have h2 := Nat.mul_le_mul_right (2 ^ (31 - i)) (show x / 2 ^ (31 - i) % 2 ≤ 1 by omega)
      omega
    generalize x / 2 ^ (31 - i) % 2 = b at *
    generalize hki : keepN x i = ki at *
    refine ev_loop' (W_ok 300 _ _ _ _ ?_)
    repeat' ((conv => whnf); first | refine zShl1 (m := 31 - i) ?_ (by omega) (by omega) hb | refine zOr32 ?_ (by omega) hs | refine bslP (by first | rfl | (simp [pureL, pureLL, AV.pure]; done) | fail) rfl ?_ | refine TakeC.full (by first | rfl | omega | (simp; done) | (simp; omega) | fail) ?_ | refine zBs ?_ | refine zBn ?_ | refine zBv rfl rfl ?_ | refine zN ?_ | refine zC ?_ | refine zC4 ?_ | refine zOr16 ?_ | refine zC1 ?_ | refine zByte ?_ | refine zMaxL ?_ | refine zMaxR ?_ | refine zMinL ?_ | refine zMinR ?_ | refine zShr ?_ | refine zC8 ?_ | refine zQ ?_ | refine zR ?_ | refine zS ?_ | refine zA ?_ | refine zM ?_ | refine xr rfl ?_ | refine ai rfl ?_ | refine condT ?_ | refine condF ?_ | refine condG1 ?_ | refine condG0 ?_ | refine cD ?_ | refine dD ?_ | refine cB ?_ | refine dB ?_ | refine cN ?_ | refine dN ?_ | refine cV ?_ | refine dV ?_ | refine cE ?_ | refine dE ?_ | refine condX0 ?_ | refine condX1 ?_ | refine condNot ?_ | refine condAnd ?_ | refine condOr ?_ | refine aO ?_ | refine aB ?_ | refine aR ?_ | refine aR ?_ (by simp; omega) | refine xr (by assumption) ?_ | refine ai (by assumption) ?_ | refine kV (ha) ?_ | refine condD (fun h => ?_) (fun h => ?_) | refine condB (fun h => ?_) (fun h => ?_) | refine condN (fun h => ?_) (fun h => ?_) | refine condE (fun h => ?_) (fun h => ?_) | refine condV (fun h => ?_) (fun h => ?_))
    rw [hk]
    refine ev_keep [9, 0, 5, 8] [] ?_
    exact keep_loop182 x c hx hc d (i + 1) _ _ _ (by omega)
theorem keep_gives182 (x : Nat) (n : Int) (hx : x < 4294967296) : Gives G 182 [.int .u32 (x : Int), .int .i64 n] [] ⟨.int .u32 (keepN x (clampN n) : Nat), []⟩ := by
  have hm := low_gives184 n
  have hl := clampN_le n
  have h0 := keepN_zero x hx
  generalize clampN n = c at *
  refine gives_code (F := f182) rfl rfl (W_ok 300 _ _ _ _ ?_)
  repeat' ((conv => whnf); first | refine bslP (by first | rfl | (simp [pureL, pureLL, AV.pure]; done) | fail) rfl ?_ | refine TakeC.full (by first | rfl | omega | (simp; done) | (simp; omega) | fail) ?_ | refine zBs ?_ | refine zBn ?_ | refine zBv rfl rfl ?_ | refine zN ?_ | refine zC ?_ | refine zC4 ?_ | refine zOr16 ?_ | refine zC1 ?_ | refine zByte ?_ | refine zMaxL ?_ | refine zMaxR ?_ | refine zMinL ?_ | refine zMinR ?_ | refine zShr ?_ | refine zC8 ?_ | refine zQ ?_ | refine zR ?_ | refine zS ?_ | refine zA ?_ | refine zM ?_ | refine xr rfl ?_ | refine ai rfl ?_ | refine condT ?_ | refine condF ?_ | refine condG1 ?_ | refine condG0 ?_ | refine cD ?_ | refine dD ?_ | refine cB ?_ | refine dB ?_ | refine cN ?_ | refine dN ?_ | refine cV ?_ | refine dV ?_ | refine cE ?_ | refine dE ?_ | refine condX0 ?_ | refine condX1 ?_ | refine condNot ?_ | refine condAnd ?_ | refine condOr ?_ | refine aO ?_ | refine aB ?_ | refine aR ?_ | refine aR ?_ (by simp; omega) | refine xr (by assumption) ?_ | refine ai (by assumption) ?_ | refine kV (hm) ?_ | refine condD (fun h => ?_) (fun h => ?_) | refine condB (fun h => ?_) (fun h => ?_) | refine condN (fun h => ?_) (fun h => ?_) | refine condE (fun h => ?_) (fun h => ?_) | refine condV (fun h => ?_) (fun h => ?_))
  refine ev_keep [9, 0, 5, 8] [] ?_
  have := keep_loop182 x c hx hl c 0
  rw [h0] at this
  exact this _ _ _ rfl
def validP (p : Pfx) : Bool := decide (0 ≤ p.len ∧ p.len ≤ 32 ∧ (keepN p.addr.toNat p.len.toNat : Int) = p.addr)
theorem valid_gives178 (p : Pfx) (h : p.ok) : Gives G 178 [.agg p.enc] [] ⟨.bool (validP p), []⟩ := by
  obtain ⟨a, n⟩ := p
  obtain ⟨x, rfl⟩ : ∃ x : Nat, a = x := ⟨a.toNat, by have := h.addr; unfold okU at this; simp only at this; omega⟩
  have hx : x < 4294967296 := by have := h.addr; unfold okU at this; simp only at this; omega
  have hk := keep_gives181 x n hx
  have hkl := keepN_le x (clampN n)
  by_cases hn : 0 ≤ n ∧ n ≤ 32
  · obtain ⟨n0, n1⟩ := hn
    have hc : clampN n = n.toNat := by unfold clampN; repeat' split <;> omega
    rw [hc] at hk hkl
    by_cases hq : keepN x n.toNat = x
    · rw [show validP ⟨x, n⟩ = true from by simp [validP, n0, n1, hq]]
      rw [hq] at hk
      refine gives_code (F := f178) rfl rfl (W_ok 300 _ _ _ _ ?_)
      repeat' ((conv => whnf); first | refine bslP (by first | rfl | (simp [pureL, pureLL, AV.pure]; done) | fail) rfl ?_ | refine TakeC.full (by first | rfl | omega | (simp; done) | (simp; omega) | fail) ?_ | refine zBs ?_ | refine zBn ?_ | refine zBv rfl rfl ?_ | refine zN ?_ | refine zC ?_ | refine zC4 ?_ | refine zOr16 ?_ | refine zC1 ?_ | refine zByte ?_ | refine zMaxL ?_ | refine zMaxR ?_ | refine zMinL ?_ | refine zMinR ?_ | refine zShr ?_ | refine zC8 ?_ | refine zQ ?_ | refine zR ?_ | refine zS ?_ | refine zA ?_ | refine zM ?_ | refine xr rfl ?_ | refine ai rfl ?_ | refine condT ?_ | refine condF ?_ | refine condG1 ?_ | refine condG0 ?_ | refine cD ?_ | refine dD ?_ | refine cB ?_ | refine dB ?_ | refine cN ?_ | refine dN ?_ | refine cV ?_ | refine dV ?_ | refine cE ?_ | refine dE ?_ | refine condX0 ?_ | refine condX1 ?_ | refine condNot ?_ | refine condAnd ?_ | refine condOr ?_ | refine aO ?_ | refine aB ?_ | refine aR ?_ | refine aR ?_ (by simp; omega) | refine xr (by assumption) ?_ | refine ai (by assumption) ?_ | refine kV (hk) ?_ | refine condD (fun h => ?_) (fun h => ?_) | refine condB (fun h => ?_) (fun h => ?_) | refine condN (fun h => ?_) (fun h => ?_) | refine condE (fun h => ?_) (fun h => ?_) | refine condV (fun h => ?_) (fun h => ?_))
      (first | refine ev_fin (And.intro (by first | rfl | (simp [AV.pure, pureL]; done) | fail) ?_) | refine ev_fin0 (And.intro (by first | rfl | (simp [AV.pure, pureL]; done) | fail) ?_)); simp
    · rw [show validP ⟨x, n⟩ = false from by simp only [validP, decide_eq_false_iff_not]; intro hh; exact hq (by have := hh.2.2; simp only [Int.toNat_natCast] at this; omega)]
      have hq2 : ¬ ((keepN x n.toNat : Nat) : Int) = (x : Int) := by omega
      generalize keepN x n.toNat = kq at *
      refine gives_code (F := f178) rfl rfl (W_ok 300 _ _ _ _ ?_)
      repeat' ((conv => whnf); first | refine bslP (by first | rfl | (simp [pureL, pureLL, AV.pure]; done) | fail) rfl ?_ | refine TakeC.full (by first | rfl | omega | (simp; done) | (simp; omega) | fail) ?_ | refine zBs ?_ | refine zBn ?_ | refine zBv rfl rfl ?_ | refine zN ?_ | refine zC ?_ | refine zC4 ?_ | refine zOr16 ?_ | refine zC1 ?_ | refine zByte ?_ | refine zMaxL ?_ | refine zMaxR ?_ | refine zMinL ?_ | refine zMinR ?_ | refine zShr ?_ | refine zC8 ?_ | refine zQ ?_ | refine zR ?_ | refine zS ?_ | refine zA ?_ | refine zM ?_ | refine xr rfl ?_ | refine ai rfl ?_ | refine condT ?_ | refine condF ?_ | refine condG1 ?_ | refine condG0 ?_ | refine cD ?_ | refine dD ?_ | refine cB ?_ | refine dB ?_ | refine cN ?_ | refine dN ?_ | refine cV ?_ | refine dV ?_ | refine cE ?_ | refine dE ?_ | refine condX0 ?_ | refine condX1 ?_ | refine condNot ?_ | refine condAnd ?_ | refine condOr ?_ | refine aO ?_ | refine aB ?_ | refine aR ?_ | refine aR ?_ (by simp; omega) | refine xr (by assumption) ?_ | refine ai (by assumption) ?_ | refine kV (hk) ?_ | refine condD (fun h => ?_) (fun h => ?_) | refine condB (fun h => ?_) (fun h => ?_) | refine condN (fun h => ?_) (fun h => ?_) | refine condE (fun h => ?_) (fun h => ?_) | refine condV (fun h => ?_) (fun h => ?_))
      (first | refine ev_fin (And.intro (by first | rfl | (simp [AV.pure, pureL]; done) | fail) ?_) | refine ev_fin0 (And.intro (by first | rfl | (simp [AV.pure, pureL]; done) | fail) ?_)); simp [hq2]
  · rw [show validP ⟨x, n⟩ = false from by simp [validP]; omega]
    by_cases n0 : 0 ≤ n
    · have n1 : ¬ n ≤ 32 := by omega
      refine gives_code (F := f178) rfl rfl (W_ok 300 _ _ _ _ ?_)
      repeat' ((conv => whnf); first | refine bslP (by first | rfl | (simp [pureL, pureLL, AV.pure]; done) | fail) rfl ?_ | refine TakeC.full (by first | rfl | omega | (simp; done) | (simp; omega) | fail) ?_ | refine zBs ?_ | refine zBn ?_ | refine zBv rfl rfl ?_ | refine zN ?_ | refine zC ?_ | refine zC4 ?_ | refine zOr16 ?_ | refine zC1 ?_ | refine zByte ?_ | refine zMaxL ?_ | refine zMaxR ?_ | refine zMinL ?_ | refine zMinR ?_ | refine zShr ?_ | refine zC8 ?_ | refine zQ ?_ | refine zR ?_ | refine zS ?_ | refine zA ?_ | refine zM ?_ | refine xr rfl ?_ | refine ai rfl ?_ | refine condT ?_ | refine condF ?_ | refine condG1 ?_ | refine condG0 ?_ | refine cD ?_ | refine dD ?_ | refine cB ?_ | refine dB ?_ | refine cN ?_ | refine dN ?_ | refine cV ?_ | refine dV ?_ | refine cE ?_ | refine dE ?_ | refine condX0 ?_ | refine condX1 ?_ | refine condNot ?_ | refine condAnd ?_ | refine condOr ?_ | refine aO ?_ | refine aB ?_ | refine aR ?_ | refine aR ?_ (by simp; omega) | refine xr (by assumption) ?_ | refine ai (by assumption) ?_ | refine condD (fun h => ?_) (fun h => ?_) | refine condB (fun h => ?_) (fun h => ?_) | refine condN (fun h => ?_) (fun h => ?_) | refine condE (fun h => ?_) (fun h => ?_) | refine condV (fun h => ?_) (fun h => ?_))
      (first | refine ev_fin (And.intro (by first | rfl | (simp [AV.pure, pureL]; done) | fail) ?_) | refine ev_fin0 (And.intro (by first | rfl | (simp [AV.pure, pureL]; done) | fail) ?_)); rfl
    · refine gives_code (F := f178) rfl rfl (W_ok 300 _ _ _ _ ?_)
      repeat' ((conv => whnf); first | refine bslP (by first | rfl | (simp [pureL, pureLL, AV.pure]; done) | fail) rfl ?_ | refine TakeC.full (by first | rfl | omega | (simp; done) | (simp; omega) | fail) ?_ | refine zBs ?_ | refine zBn ?_ | refine zBv rfl rfl ?_ | refine zN ?_ | refine zC ?_ | refine zC4 ?_ | refine zOr16 ?_ | refine zC1 ?_ | refine zByte ?_ | refine zMaxL ?_ | refine zMaxR ?_ | refine zMinL ?_ | refine zMinR ?_ | refine zShr ?_ | refine zC8 ?_ | refine zQ ?_ | refine zR ?_ | refine zS ?_ | refine zA ?_ | refine zM ?_ | refine xr rfl ?_ | refine ai rfl ?_ | refine condT ?_ | refine condF ?_ | refine condG1 ?_ | refine condG0 ?_ | refine cD ?_ | refine dD ?_ | refine cB ?_ | refine dB ?_ | refine cN ?_ | refine dN ?_ | refine cV ?_ | refine dV ?_ | refine cE ?_ | refine dE ?_ | refine condX0 ?_ | refine condX1 ?_ | refine condNot ?_ | refine condAnd ?_ | refine condOr ?_ | refine aO ?_ | refine aB ?_ | refine aR ?_ | refine aR ?_ (by simp; omega) | refine xr (by assumption) ?_ | refine ai (by assumption) ?_ | refine condD (fun h => ?_) (fun h => ?_) | refine condB (fun h => ?_) (fun h => ?_) | refine condN (fun h => ?_) (fun h => ?_) | refine condE (fun h => ?_) (fun h => ?_) | refine condV (fun h => ?_) (fun h => ?_))
      (first | refine ev_fin (And.intro (by first | rfl | (simp [AV.pure, pureL]; done) | fail) ?_) | refine ev_fin0 (And.intro (by first | rfl | (simp [AV.pure, pureL]; done) | fail) ?_)); rfl
end Go.AM.IR
set_option maxHeartbeats 4000000
set_option maxRecDepth 20000
namespace Go.AM.IR
theorem valid_gives179 (p : Pfx) (h : p.ok) : Gives G 179 [.agg p.enc] [] ⟨.bool (validP p), []⟩ := by
  obtain ⟨a, n⟩ := p
  obtain ⟨x, rfl⟩ : ∃ x : Nat, a = x := ⟨a.toNat, by have := h.addr; unfold okU at this; simp only at this; omega⟩
  have hx : x < 4294967296 := by have := h.addr; unfold okU at this; simp only at this; omega
  have hk := keep_gives182 x n hx
  have hkl := keepN_le x (clampN n)
  by_cases hn : 0 ≤ n ∧ n ≤ 32
  · obtain ⟨n0, n1⟩ := hn
    have hc : clampN n = n.toNat := by unfold clampN; repeat' split <;> omega
    rw [hc] at hk hkl
    by_cases hq : keepN x n.toNat = x
    · rw [show validP ⟨x, n⟩ = true from by simp [validP, n0, n1, hq]]
      rw [hq] at hk
      refine gives_code (F := f179) rfl rfl (W_ok 300 _ _ _ _ ?_)
      repeat' ((conv => whnf); first | refine bslP (by first | rfl | (simp [pureL, pureLL, AV.pure]; done) | fail) rfl ?_ | refine TakeC.full (by first | rfl | omega | (simp; done) | (simp; omega) | fail) ?_ | refine zBs ?_ | refine zBn ?_ | refine zBv rfl rfl ?_ | refine zN ?_ | refine zC ?_ | refine zC4 ?_ | refine zOr16 ?_ | refine zC1 ?_ | refine zByte ?_ | refine zMaxL ?_ | refine zMaxR ?_ | refine zMinL ?_ | refine zMinR ?_ | refine zShr ?_ | refine zC8 ?_ | refine zQ ?_ | refine zR ?_ | refine zS ?_ | refine zA ?_ | refine zM ?_ | refine xr rfl ?_ | refine ai rfl ?_ | refine condT ?_ | refine condF ?_ | refine condG1 ?_ | refine condG0 ?_ | refine cD ?_ | refine dD ?_ | refine cB ?_ | refine dB ?_ | refine cN ?_ | refine dN ?_ | refine cV ?_ | refine dV ?_ | refine cE ?_ | refine dE ?_ | refine condX0 ?_ | refine condX1 ?_ | refine condNot ?_ | refine condAnd ?_ | refine condOr ?_ | refine aO ?_ | refine aB ?_ | refine aR ?_ | refine aR ?_ (by simp; omega) | refine xr (by assumption) ?_ | refine ai (by assumption) ?_ | refine kV (hk) ?_ | refine condD (fun h => ?_) (fun h => ?_) | refine condB (fun h => ?_) (fun h => ?_) | refine condN (fun h => ?_) (fun h => ?_) | refine condE (fun h => ?_) (fun h => ?_) | refine condV (fun h => ?_) (fun h => ?_))
      (first | refine ev_fin (And.intro (by first | rfl | (simp [AV.pure, pureL]; done) | fail) ?_) | refine ev_fin0 (And.intro (by first | rfl | (simp [AV.pure, pureL]; done) | fail) ?_)); simp
    · rw [show validP ⟨x, n⟩ = false from by simp only [validP, decide_eq_false_iff_not]; intro hh; exact hq (by have := hh.2.2; simp only [Int.toNat_natCast] at this; omega)]
      have hq2 : ¬ ((keepN x n.toNat : Nat) : Int) = (x : Int) := by omega
      generalize keepN x n.toNat = kq at *
      refine gives_code (F := f179) rfl rfl (W_ok 300 _ _ _ _ ?_)
      repeat' ((conv => whnf); first | refine bslP (by first | rfl | (simp [pureL, pureLL, AV.pure]; done) | fail) rfl ?_ | refine TakeC.full (by first | rfl | omega | (simp; done) | (simp; omega) | fail) ?_ | refine zBs ?_ | refine zBn ?_ | refine zBv rfl rfl ?_ | refine zN ?_ | refine zC ?_ | refine zC4 ?_ | refine zOr16 ?_ | refine zC1 ?_ | refine zByte ?_ | refine zMaxL ?_ | refine zMaxR ?_ | refine zMinL ?_ | refine zMinR ?_ | refine zShr ?_ | refine zC8 ?_ | refine zQ ?_ | refine zR ?_ | refine zS ?_ | refine zA ?_ | refine zM ?_ | refine xr rfl ?_ | refine ai rfl ?_ | refine condT ?_ | refine condF ?_ | refine condG1 ?_ | refine condG0 ?_ | refine cD ?_ | refine dD ?_ | refine cB ?_ | refine dB ?_ | refine cN ?_ | refine dN ?_ | refine cV ?_ | refine dV ?_ | refine cE ?_ | refine dE ?_ | refine condX0 ?_ | refine condX1 ?_ | refine condNot ?_ | refine condAnd ?_ | refine condOr ?_ | refine aO ?_ | refine aB ?_ | refine aR ?_ | refine aR ?_ (by simp; omega) | refine xr (by assumption) ?_ | refine ai (by assumption) ?_ | refine kV (hk) ?_ | refine condD (fun h => ?_) (fun h => ?_) | refine condB (fun h => ?_) (fun h => ?_) | refine condN (fun h => ?_) (fun h => ?_) | refine condE (fun h => ?_) (fun h => ?_) | refine condV (fun h => ?_) (fun h => ?_))
      (first | refine ev_fin (And.intro (by first | rfl | (simp [AV.pure, pureL]; done) | fail) ?_) | refine ev_fin0 (And.intro (by first | rfl | (simp [AV.pure, pureL]; done) | fail) ?_)); simp [hq2]
  · rw [show validP ⟨x, n⟩ = false from by simp [validP]; omega]
    by_cases n0 : 0 ≤ n
    · have n1 : ¬ n ≤ 32 := by omega
      refine gives_code (F := f179) rfl rfl (W_ok 300 _ _ _ _ ?_)
      repeat' ((conv => whnf); first | refine bslP (by first | rfl | (simp [pureL, pureLL, AV.pure]; done) | fail) rfl ?_ | refine TakeC.full (by first | rfl | omega | (simp; done) | (simp; omega) | fail) ?_ | refine zBs ?_ | refine zBn ?_ | refine zBv rfl rfl ?_ | refine zN ?_ | refine zC ?_ | refine zC4 ?_ | refine zOr16 ?_ | refine zC1 ?_ | refine zByte ?_ | refine zMaxL ?_ | refine zMaxR ?_ | refine zMinL ?_ | refine zMinR ?_ | refine zShr ?_ | refine zC8 ?_ | refine zQ ?_ | refine zR ?_ | refine zS ?_ | refine zA ?_ | refine zM ?_ | refine xr rfl ?_ | refine ai rfl ?_ | refine condT ?_ | refine condF ?_ | refine condG1 ?_ | refine condG0 ?_ | refine cD ?_ | refine dD ?_ | refine cB ?_ | refine dB ?_ | refine cN ?_ | refine dN ?_ | refine cV ?_ | refine dV ?_ | refine cE ?_ | refine dE ?_ | refine condX0 ?_ | refine condX1 ?_ | refine condNot ?_ | refine condAnd ?_ | refine condOr ?_ | refine aO ?_ | refine aB ?_ | refine aR ?_ | refine aR ?_ (by simp; omega) | refine xr (by assumption) ?_ | refine ai (by assumption) ?_ | refine condD (fun h => ?_) (fun h => ?_) | refine condB (fun h => ?_) (fun h => ?_) | refine condN (fun h => ?_) (fun h => ?_) | refine condE (fun h => ?_) (fun h => ?_) | refine condV (fun h => ?_) (fun h => ?_))
      (first | refine ev_fin (And.intro (by first | rfl | (simp [AV.pure, pureL]; done) | fail) ?_) | refine ev_fin0 (And.intro (by first | rfl | (simp [AV.pure, pureL]; done) | fail) ?_)); rfl
    · refine gives_code (F := f179) rfl rfl (W_ok 300 _ _ _ _ ?_)
      repeat' ((conv => whnf); first | refine bslP (by first | rfl | (simp [pureL, pureLL, AV.pure]; done) | fail) rfl ?_ | refine TakeC.full (by first | rfl | omega | (simp; done) | (simp; omega) | fail) ?_ | refine zBs ?_ | refine zBn ?_ | refine zBv rfl rfl ?_ | refine zN ?_ | refine zC ?_ | refine zC4 ?_ | refine zOr16 ?_ | refine zC1 ?_ | refine zByte ?_ | refine zMaxL ?_ | refine zMaxR ?_ | refine zMinL ?_ | refine zMinR ?_ | refine zShr ?_ | refine zC8 ?_ | refine zQ ?_ | refine zR ?_ | refine zS ?_ | refine zA ?_ | refine zM ?_ | refine xr rfl ?_ | refine ai rfl ?_ | refine condT ?_ | refine condF ?_ | refine condG1 ?_ | refine condG0 ?_ | refine cD ?_ | refine dD ?_ | refine cB ?_ | refine dB ?_ | refine cN ?_ | refine dN ?_ | refine cV ?_ | refine dV ?_ | refine cE ?_ | refine dE ?_ | refine condX0 ?_ | refine condX1 ?_ | refine condNot ?_ | refine condAnd ?_ | refine condOr ?_ | refine aO ?_ | refine aB ?_ | refine aR ?_ | refine aR ?_ (by simp; omega) | refine xr (by assumption) ?_ | refine ai (by assumption) ?_ | refine condD (fun h => ?_) (fun h => ?_) | refine condB (fun h => ?_) (fun h => ?_) | refine condN (fun h => ?_) (fun h => ?_) | refine condE (fun h => ?_) (fun h => ?_) | refine condV (fun h => ?_) (fun h => ?_))
      (first | refine ev_fin (And.intro (by first | rfl | (simp [AV.pure, pureL]; done) | fail) ?_) | refine ev_fin0 (And.intro (by first | rfl | (simp [AV.pure, pureL]; done) | fail) ?_)); rfl
end Go.AM.IR
namespace Go.AM.IR
end Go.AM.IR
set_option maxHeartbeats 4000000
set_option maxRecDepth 20000
namespace Go.AM.IR
theorem awake327_gives : Gives G 327 [] [] ⟨.bool true, []⟩ := gives_run 100000 rfl rfl (by kernel_rfl)
end Go.AM.IR
set_option maxHeartbeats 4000000
set_option maxRecDepth 20000
namespace Go.AM.IR
theorem nat_of {a : Int} (h : okU a) : a = (a.toNat : Nat) ∧ a.toNat < 4294967296 := by unfold okU at h; omega
end Go.AM.IR
set_option maxHeartbeats 4000000
set_option maxRecDepth 20000
namespace Go.AM.IR
theorem validP_len {p : Pfx} (h : validP p = true) : 0 ≤ p.len ∧ p.len ≤ 32 := by
  unfold validP at h; rw [decide_eq_true_eq] at h; exact ⟨h.1, h.2.1⟩
end Go.AM.IR
set_option maxHeartbeats 4000000
set_option maxRecDepth 20000
namespace Go.AM.IR
end Go.AM.IR
set_option maxHeartbeats 4000000
set_option maxRecDepth 20000
namespace Go.AM.IR
end Go.AM.IR
set_option maxHeartbeats 4000000
set_option maxRecDepth 20000
namespace Go.AM.IR
theorem validP_iff (p : Pfx) : validP p = true ↔ 0 ≤ p.len ∧ p.len ≤ 32 ∧ (keepN p.addr.toNat p.len.toNat : Int) = p.addr := by unfold validP; rw [decide_eq_true_eq]
end Go.AM.IR
set_option maxHeartbeats 4000000
set_option maxRecDepth 20000
namespace Go.AM.IR
section
variable {k : Eff → Prop} {x y : Opd} {g key : Nat} {hg : Nat → Option (Nat × Blk)}
end
end Go.AM.IR
namespace Go.AM.IR
open Go Go.AM
def dig (b : UInt8) : Bool := decide (48 ≤ b.toNat) && decide (b.toNat ≤ 57)
def dval (b : UInt8) : Nat := b.toNat - 48
def chk (n : Nat) : Bool := (itoaK n).all dig && (decide (1 ≤ (itoaK n).length) && (decide ((itoaK n).length ≤ 3) && ((itoaK n).length == 1 || (itoaK n).head? != some 48))) && (Lib.atoiAll (itoaK n) == .ok n) && ((itoaK n).foldl (fun a b => a * 10 + dval b) 0 == n)
theorem chk_all : (List.range 256).all chk = true := by decide +kernel
theorem chk_at {n : Nat} (h : n < 256) : chk n = true := List.all_eq_true.1 chk_all n (List.mem_range.2 h)
theorem itoa_dig {n : Nat} (h : n < 256) : ∀ b ∈ itoaK n, dig b = true := by
  have := chk_at h; simp only [chk, Bool.and_eq_true] at this; exact fun b hb => List.all_eq_true.1 this.1.1.1 b hb
theorem itoa_len {n : Nat} (h : n < 256) : 1 ≤ (itoaK n).length ∧ (itoaK n).length ≤ 3 := by
  have := chk_at h; simp only [chk, Bool.and_eq_true, decide_eq_true_eq] at this; exact ⟨this.1.1.2.1, this.1.1.2.2.1⟩
theorem itoa_head {n : Nat} (h : n < 256) : (itoaK n).length = 1 ∨ (itoaK n).head? ≠ some 48 := by
  have := chk_at h; simp only [chk, Bool.and_eq_true, Bool.or_eq_true, beq_iff_eq, bne_iff_ne] at this; exact this.1.1.2.2.2
theorem atoi_itoa {n : Nat} (h : n < 256) : Lib.atoiAll (itoaK n) = .ok (n : Int) := by
  have := chk_at h; simp only [chk, Bool.and_eq_true, beq_iff_eq] at this; exact this.1.2
theorem itoa_val {n : Nat} (h : n < 256) : (itoaK n).foldl (fun a b => a * 10 + dval b) 0 = n := by
  have := chk_at h; simp only [chk, Bool.and_eq_true, beq_iff_eq] at this; exact this.2
theorem dig_of {b : UInt8} (h : dig b = true) : ∃ d, d < 10 ∧ b = UInt8.ofNat (48 + d) ∧ dval b = d := by
  unfold dig at h; simp only [Bool.and_eq_true, decide_eq_true_eq] at h
  refine ⟨dval b, by unfold dval; omega, ?_, rfl⟩
  unfold dval
  rw [show 48 + (b.toNat - 48) = b.toNat by omega]; simp
theorem decK_one {f u : Nat} (h : u < 10) : decK (f + 1) u = [UInt8.ofNat (48 + u)] := by simp [decK, h]
theorem decK_more {f u : Nat} (h : ¬ u < 10) : decK (f + 1) u = decK f (u / 10) ++ [UInt8.ofNat (48 + u % 10)] := by simp [decK, h]
theorem itoaK_nat (n : Nat) : itoaK (n : Int) = decK 19 n := by unfold itoaK; rw [if_neg (by omega)]; simp
theorem itoa_1 {a : UInt8} (ha : dig a = true) : itoaK (dval a : Nat) = [a] := by
  obtain ⟨d, hd, rfl, e⟩ := dig_of ha
  rw [e, itoaK_nat, decK_one hd]
theorem itoa_2 {a b : UInt8} (ha : dig a = true) (hb : dig b = true) (h0 : a ≠ 48) : itoaK ((dval a * 10 + dval b : Nat) : Int) = [a, b] := by
  obtain ⟨d, hd, rfl, e⟩ := dig_of ha
  obtain ⟨d2, hd2, rfl, e2⟩ := dig_of hb
  have : d ≠ 0 := by rintro rfl; exact h0 rfl
  rw [e, e2, itoaK_nat, decK_more (by omega), show (d * 10 + d2) / 10 = d by omega, show (d * 10 + d2) % 10 = d2 by omega, decK_one hd]; rfl
theorem itoa_3 {a b c : UInt8} (ha : dig a = true) (hb : dig b = true) (hc : dig c = true) (h0 : a ≠ 48) : itoaK (((dval a * 10 + dval b) * 10 + dval c : Nat) : Int) = [a, b, c] := by
  obtain ⟨d, hd, rfl, e⟩ := dig_of ha
  obtain ⟨d2, hd2, rfl, e2⟩ := dig_of hb
  obtain ⟨d3, hd3, rfl, e3⟩ := dig_of hc
  have : d ≠ 0 := by rintro rfl; exact h0 rfl
  rw [e, e2, e3, itoaK_nat, decK_more (by omega), show ((d * 10 + d2) * 10 + d3) / 10 = d * 10 + d2 by omega, show ((d * 10 + d2) * 10 + d3) % 10 = d3 by omega, decK_more (by omega), show (d * 10 + d2) / 10 = d by omega, show (d * 10 + d2) % 10 = d2 by omega, decK_one hd]; rfl
theorem index_hit (c : UInt8) : ∀ (a r : List UInt8), c ∉ a → Lib.index (a ++ c :: r) [c] = a.length
  | [], r, _ => by simp [Lib.index]
  | x :: a, r, h => by
    have hx : x ≠ c := fun e => h (by simp [e])
    have ih := index_hit c a r (fun q => h (by simp [q]))
    rw [List.cons_append, Lib.index, ih]
    have h1 : ([c].isPrefixOf (x :: (a ++ c :: r))) = false := by simp [List.isPrefixOf]; exact fun e => hx e.symm
    rw [h1]
    have h2 : (((a.length : Nat) : Int) == -1) = false := by rw [beq_eq_false_iff_ne]; omega
    simp [h2]
theorem index_none (c : UInt8) : ∀ (a : List UInt8), c ∉ a → Lib.index a [c] = -1
  | [], _ => by simp [Lib.index]
  | x :: a, h => by
    have hx : x ≠ c := fun e => h (by simp [e])
    have ih := index_none c a (fun q => h (by simp [q]))
    rw [Lib.index, ih]
    have h1 : ([c].isPrefixOf (x :: a)) = false := by simp [List.isPrefixOf]; exact fun e => hx e.symm
    rw [h1]; rfl
theorem sep_cases (c : UInt8) : ∀ s : List UInt8, c ∉ s ∨ ∃ a r, c ∉ a ∧ s = a ++ c :: r
  | [] => .inl (by simp)
  | x :: s => by
    by_cases hx : x = c
    · exact .inr ⟨[], s, by simp, by simp [hx]⟩
    · rcases sep_cases c s with h | ⟨a, r, h1, rfl⟩
      · exact .inl (by simp; exact ⟨fun e => hx e.symm, h⟩)
      · exact .inr ⟨x :: a, r, by simp; exact ⟨fun e => hx e.symm, h1⟩, rfl⟩
theorem cut_hit (c : UInt8) (a r : List UInt8) (h : c ∉ a) : Lib.cut (a ++ c :: r) [c] = (a, r, true) := by
  unfold Lib.cut
  rw [index_hit c a r h, if_pos (by omega)]
  simp
theorem cut_none (c : UInt8) (s : List UInt8) (h : c ∉ s) : Lib.cut s [c] = (s, [], false) := by
  unfold Lib.cut
  rw [index_none c s h, if_neg (by omega)]
theorem split_none (c : UInt8) (s : List UInt8) (h : c ∉ s) : Lib.split s [c] = [s] := by
  unfold Lib.split
  rw [Lib.count_miss (index_none c s h)]; rfl
theorem split_hit (c : UInt8) (a r : List UInt8) (h : c ∉ a) : Lib.split (a ++ c :: r) [c] = a :: Lib.split r [c] := by
  unfold Lib.split
  have hi := index_hit c a r h
  rw [Lib.count_hit (by simp) hi, Nat.add_comm 1, Lib.splitK, hi]
  have h2 : (((a.length : Nat) : Int) == -1) = false := by rw [beq_eq_false_iff_ne]; omega
  simp [h2]
def joinC (c : UInt8) : List (List UInt8) → List UInt8
  | [] => []
  | [x] => x
  | x :: y :: r => x ++ c :: joinC c (y :: r)
theorem split_ne (c : UInt8) (s : List UInt8) : Lib.split s [c] ≠ [] := by
  rcases sep_cases c s with h | ⟨a, r, h, rfl⟩
  · rw [split_none c s h]; simp
  · rw [split_hit c a r h]; simp
theorem join_split (c : UInt8) : ∀ (n : Nat) (s : List UInt8), s.length ≤ n → joinC c (Lib.split s [c]) = s
  | n, s, hn => by
    rcases sep_cases c s with h | ⟨a, r, h, rfl⟩
    · rw [split_none c s h]; rfl
    · rw [split_hit c a r h]
      cases n with
      | zero => simp at hn
      | succ n =>
        have ih := join_split c n r (by simp at hn; omega)
        cases hs : Lib.split r [c] with
        | nil => exact absurd hs (split_ne c r)
        | cons y t => rw [hs] at ih; simp only [joinC, ih]
theorem join_dots (x y z w : List UInt8) : Lib.join [x, y, z, w] [46] = x ++ 46 :: (y ++ 46 :: (z ++ 46 :: w)) := by
  simp [Lib.join, List.intercalate]
end Go.AM.IR
set_option maxHeartbeats 4000000
set_option maxRecDepth 20000
namespace Go.AM.IR
def okRun : Option Ret → List UInt8 → Bool
  | some ⟨.str s, []⟩, l => s == l
  | _, _ => false
theorem okRun_eq {o : Option Ret} {l : List UInt8} (h : okRun o l = true) : o = some ⟨.str l, []⟩ := by
  unfold okRun at h
  split at h
  · rw [beq_iff_eq] at h; rw [h]
  · cases h
theorem num_all : (List.range 256).all (fun n => okRun (run G 200 (f248.start [.int .i64 (n : Int)] [])) (itoaK n)) = true := by kernel_rfl
theorem num_gives248 {n : Nat} (h : n < 256) : Gives G 248 [.int .i64 (n : Int)] [] ⟨.str (itoaK n), []⟩ :=
  gives_run 200 rfl rfl (okRun_eq (List.all_eq_true.1 num_all n (List.mem_range.2 h)))
theorem itoa_gives246 {n : Int} (h0 : -9223372036854775808 ≤ n) (h1 : n ≤ 9223372036854775807) : Gives G 246 [.int .i64 n] [] ⟨.str (itoaK n), []⟩ := by
  show pItoa _ _ = _
  exact if_pos ⟨h0, h1⟩
def dots (x : Nat) : List UInt8 := itoaK (x / 16777216 : Nat) ++ 46 :: (itoaK (x / 65536 % 256 : Nat) ++ 46 :: (itoaK (x / 256 % 256 : Nat) ++ 46 :: itoaK (x % 256 : Nat)))
section
variable {k : AV → Prop} {q : IntKind}
theorem zShrC (m : Nat) {x : Nat} {j : Int} (h : k (.int .u32 ((x / m : Nat) : Int))) (hm : m = 2 ^ j.toNat) (h0 : 0 ≤ j) (h1 : j ≤ 32) : ∃ v, binA .shr (.int .u32 (x : Int)) (.int q j) = some v ∧ k v := by
  subst hm
  refine ⟨_, ?_, h⟩
  show (if j < 0 then none else some (AV.int .u32 ((x : Int).fdiv (2 ^ (min j.toNat 32))))) = _
  rw [if_neg (by omega), show min j.toNat 32 = j.toNat by omega]
  congr 2
  rw [Int.fdiv_eq_ediv_of_nonneg _ (by exact Int.le_of_lt (Int.pow_pos (by omega)))]
  simp
theorem zAnd255 {x : Nat} (h : k (.int .u32 ((x % 256 : Nat) : Int))) (hx : x < 4294967296) : ∃ v, binA .and (.int .u32 (x : Int)) (.int .u32 255) = some v ∧ k v :=
  ⟨_, by
    show some (AV.int .u32 (intBits .and .u32 (x : Int) ((255 : Nat) : Int))) = _
    rw [and_u32 x 255 hx (by omega), show (255 : Nat) = 2 ^ 8 - 1 from rfl, Nat.and_two_pow_sub_one_eq_mod], h⟩
theorem zCat {a b : List UInt8} (h : k (.str (a ++ b))) (hl : a.length + b.length < 2 ^ 62 := by first | omega | (simp; omega)) : ∃ v, binA .add (.str a) (.str b) = some v ∧ k v := ⟨_, if_pos hl, h⟩
end
theorem join_gives247 (a b c d : List UInt8) (h : a.length ≤ 3 ∧ b.length ≤ 3 ∧ c.length ≤ 3 ∧ d.length ≤ 3) : Gives G 247 [.sl 1 [[.str a], [.str b], [.str c], [.str d]], .str [46]] [] ⟨.str (a ++ 46 :: (b ++ 46 :: (c ++ 46 :: d))), []⟩ := by
  have hj := join_dots a b c d
  show pJoin [.sl 1 [[.str a], [.str b], [.str c], [.str d]], .str [46]] [] = _
  show (if [a, b, c, d].length ≤ 140737488355328 ∧ (Lib.join [a, b, c, d] [46]).length ≤ 140737488355328 then some (⟨.str (Lib.join [a, b, c, d] [46]), []⟩ : Ret) else none) = _
  rw [hj, if_pos]
  simp; omega
end Go.AM.IR
set_option maxHeartbeats 4000000
set_option maxRecDepth 20000
namespace Go.AM.IR
def scanN : Nat → List UInt8 → Nat → Nat → Nat × Nat
  | 0, _, n, c => (n, c)
  | _ + 1, [], n, c => (n, c)
  | f + 1, b :: r, n, c => if dig b = true then scanN f r (n * 10 + dval b) (c + 1) else (n, c)
def finN (s : List UInt8) (a n c most : Nat) : Int × Int := if c = 0 ∨ c = 4 ∨ n > most ∨ (1 < c ∧ s[a]? = some 48) then (0, -1) else ((n : Int), ((a + c : Nat) : Int))
def prR (p : Int × Int) : Ret := ⟨.tup [.int .i64 p.1, .int .i64 p.2], []⟩
def refN (s : List UInt8) (a most : Nat) : Int × Int := finN s a (scanN 4 (s.drop a) 0 0).1 (scanN 4 (s.drop a) 0 0).2 most
section
variable {k : Eff → Prop} {x y : Opd} {g key : Nat} {hg : Nat → Option (Nat × Blk)}
theorem zIstr {q : IntKind} {j : Int} {s : List UInt8} {b : UInt8} (h : k { res := .int .u8 (b.toNat : Int) }) (hb : s[j.toNat]? = some b) (hj : 0 ≤ j) : ∃ e, aopV (.istr x y) g key [.str s, .int q j] hg = some e ∧ k e := by
  have hl : j.toNat < s.length := by
    rcases Nat.lt_or_ge j.toNat s.length with h | h
    · exact h
    · rw [List.getElem?_eq_none h] at hb; cases hb
  refine ⟨_, ?_, h⟩
  show (if 0 ≤ j ∧ j.toNat < s.length then some { res := AV.int .u8 (s.getD j.toNat 0).toNat } else none : Option Eff) = _
  rw [if_pos ⟨hj, hl⟩, List.getD_eq_getElem?_getD, hb]; rfl
theorem zSub48 {kv : AV → Prop} {b : UInt8} (h : kv (.int .u8 (dval b : Nat))) (hb : 48 ≤ b.toNat) : ∃ v, binA .sub (.int .u8 (b.toNat : Int)) (.int .u8 48) = some v ∧ kv v := by
  refine ⟨_, ?_, h⟩
  have hl := b.toNat_lt
  show some (AV.int .u8 (IntKind.wrap .u8 ((b.toNat : Int) - 48))) = _
  unfold dval
  rw [wrap_u8 (by omega) (by omega), show (b.toNat : Int) - 48 = ((b.toNat - 48 : Nat) : Int) by omega]
end
theorem exit253 (s : List UInt8) (a n c most : Nat) (N to : Int) (hN : N = n) (hto : to = a + c) (hs : s.length < 2 ^ 40) (hc : c ≤ 4) (hac : a + c ≤ s.length) (hn : n < 100000) (hm : most < 100000) (T : List (Nat × AV)) (H : Heap) (ct : Nat) :
    Ev G ⟨[.code (.seq (.seq (.region f253x7 false) (.cond (.t 68) (.seq (.region f253x8 false) .ret) .skip)) (.seq (.region f253x9 false) .ret))], ⟨(9, .int .i64 to) :: (0, .str s) :: (8, .int .i64 N) :: (1, .int .i64 (a : Int)) :: (2, .int .i64 (most : Int)) :: T, H, ct⟩, [.t 6, .t 7], 0⟩ (prR (finN s a n c most)) := by
  by_cases h0 : c = 0
  · rw [show finN s a n c most = (0, -1) from if_pos (.inl h0)]
    refine W_ok 300 _ _ _ _ ?_
    repeat' ((conv => whnf); first | refine bslP (by first | rfl | (simp [pureL, pureLL, AV.pure]; done) | fail) rfl ?_ | refine TakeC.full (by first | rfl | omega | (simp; done) | (simp; omega) | fail) ?_ | refine zBs ?_ | refine zBn ?_ | refine zBv rfl rfl ?_ | refine zN ?_ | refine zC ?_ | refine zC4 ?_ | refine zOr16 ?_ | refine zC1 ?_ | refine zByte ?_ | refine zMaxL ?_ | refine zMaxR ?_ | refine zMinL ?_ | refine zMinR ?_ | refine zShr ?_ | refine zC8 ?_ | refine zQ ?_ | refine zR ?_ | refine zS ?_ | refine zA ?_ | refine zM ?_ | refine xr rfl ?_ | refine ai rfl ?_ | refine condT ?_ | refine condF ?_ | refine condG1 ?_ | refine condG0 ?_ | refine cD ?_ | refine dD ?_ | refine cB ?_ | refine dB ?_ | refine cN ?_ | refine dN ?_ | refine cV ?_ | refine dV ?_ | refine cE ?_ | refine dE ?_ | refine condX0 ?_ | refine condX1 ?_ | refine condNot ?_ | refine condAnd ?_ | refine condOr ?_ | refine aO ?_ | refine aB ?_ | refine aR ?_ | refine aR ?_ (by simp; omega) | refine xr (by assumption) ?_ | refine ai (by assumption) ?_ | refine condD (fun h => ?_) (fun h => ?_) | refine condB (fun h => ?_) (fun h => ?_) | refine condN (fun h => ?_) (fun h => ?_) | refine condE (fun h => ?_) (fun h => ?_) | refine condV (fun h => ?_) (fun h => ?_))
    (first | refine ev_fin (And.intro (by first | rfl | (simp [AV.pure, pureL]; done) | fail) ?_) | refine ev_fin0 (And.intro (by first | rfl | (simp [AV.pure, pureL]; done) | fail) ?_)); rfl
  · by_cases h4 : c = 4
    · rw [show finN s a n c most = (0, -1) from if_pos (.inr (.inl h4))]
      refine W_ok 300 _ _ _ _ ?_
      repeat' ((conv => whnf); first | refine bslP (by first | rfl | (simp [pureL, pureLL, AV.pure]; done) | fail) rfl ?_ | refine TakeC.full (by first | rfl | omega | (simp; done) | (simp; omega) | fail) ?_ | refine zBs ?_ | refine zBn ?_ | refine zBv rfl rfl ?_ | refine zN ?_ | refine zC ?_ | refine zC4 ?_ | refine zOr16 ?_ | refine zC1 ?_ | refine zByte ?_ | refine zMaxL ?_ | refine zMaxR ?_ | refine zMinL ?_ | refine zMinR ?_ | refine zShr ?_ | refine zC8 ?_ | refine zQ ?_ | refine zR ?_ | refine zS ?_ | refine zA ?_ | refine zM ?_ | refine xr rfl ?_ | refine ai rfl ?_ | refine condT ?_ | refine condF ?_ | refine condG1 ?_ | refine condG0 ?_ | refine cD ?_ | refine dD ?_ | refine cB ?_ | refine dB ?_ | refine cN ?_ | refine dN ?_ | refine cV ?_ | refine dV ?_ | refine cE ?_ | refine dE ?_ | refine condX0 ?_ | refine condX1 ?_ | refine condNot ?_ | refine condAnd ?_ | refine condOr ?_ | refine aO ?_ | refine aB ?_ | refine aR ?_ | refine aR ?_ (by simp; omega) | refine xr (by assumption) ?_ | refine ai (by assumption) ?_ | refine condD (fun h => ?_) (fun h => ?_) | refine condB (fun h => ?_) (fun h => ?_) | refine condN (fun h => ?_) (fun h => ?_) | refine condE (fun h => ?_) (fun h => ?_) | refine condV (fun h => ?_) (fun h => ?_))
      (first | refine ev_fin (And.intro (by first | rfl | (simp [AV.pure, pureL]; done) | fail) ?_) | refine ev_fin0 (And.intro (by first | rfl | (simp [AV.pure, pureL]; done) | fail) ?_)); rfl
    · by_cases hb : n > most
      · rw [show finN s a n c most = (0, -1) from if_pos (.inr (.inr (.inl hb)))]
        refine W_ok 300 _ _ _ _ ?_
        repeat' ((conv => whnf); first | refine bslP (by first | rfl | (simp [pureL, pureLL, AV.pure]; done) | fail) rfl ?_ | refine TakeC.full (by first | rfl | omega | (simp; done) | (simp; omega) | fail) ?_ | refine zBs ?_ | refine zBn ?_ | refine zBv rfl rfl ?_ | refine zN ?_ | refine zC ?_ | refine zC4 ?_ | refine zOr16 ?_ | refine zC1 ?_ | refine zByte ?_ | refine zMaxL ?_ | refine zMaxR ?_ | refine zMinL ?_ | refine zMinR ?_ | refine zShr ?_ | refine zC8 ?_ | refine zQ ?_ | refine zR ?_ | refine zS ?_ | refine zA ?_ | refine zM ?_ | refine xr rfl ?_ | refine ai rfl ?_ | refine condT ?_ | refine condF ?_ | refine condG1 ?_ | refine condG0 ?_ | refine cD ?_ | refine dD ?_ | refine cB ?_ | refine dB ?_ | refine cN ?_ | refine dN ?_ | refine cV ?_ | refine dV ?_ | refine cE ?_ | refine dE ?_ | refine condX0 ?_ | refine condX1 ?_ | refine condNot ?_ | refine condAnd ?_ | refine condOr ?_ | refine aO ?_ | refine aB ?_ | refine aR ?_ | refine aR ?_ (by simp; omega) | refine xr (by assumption) ?_ | refine ai (by assumption) ?_ | refine condD (fun h => ?_) (fun h => ?_) | refine condB (fun h => ?_) (fun h => ?_) | refine condN (fun h => ?_) (fun h => ?_) | refine condE (fun h => ?_) (fun h => ?_) | refine condV (fun h => ?_) (fun h => ?_))
        (first | refine ev_fin (And.intro (by first | rfl | (simp [AV.pure, pureL]; done) | fail) ?_) | refine ev_fin0 (And.intro (by first | rfl | (simp [AV.pure, pureL]; done) | fail) ?_)); rfl
      · by_cases h1 : 1 < c
        · obtain ⟨b, hsb⟩ : ∃ b, s[a]? = some b := ⟨s[a]'(by omega), List.getElem?_eq_getElem (by omega)⟩
          by_cases hz : b = 48
          · subst hz
            rw [show finN s a n c most = (0, -1) from if_pos (.inr (.inr (.inr ⟨h1, hsb⟩)))]
            refine W_ok 300 _ _ _ _ ?_
            repeat' ((conv => whnf); first | refine zIstr (b := 48) ?_ (by simpa using hsb) (by omega) | refine bslP (by first | rfl | (simp [pureL, pureLL, AV.pure]; done) | fail) rfl ?_ | refine TakeC.full (by first | rfl | omega | (simp; done) | (simp; omega) | fail) ?_ | refine zBs ?_ | refine zBn ?_ | refine zBv rfl rfl ?_ | refine zN ?_ | refine zC ?_ | refine zC4 ?_ | refine zOr16 ?_ | refine zC1 ?_ | refine zByte ?_ | refine zMaxL ?_ | refine zMaxR ?_ | refine zMinL ?_ | refine zMinR ?_ | refine zShr ?_ | refine zC8 ?_ | refine zQ ?_ | refine zR ?_ | refine zS ?_ | refine zA ?_ | refine zM ?_ | refine xr rfl ?_ | refine ai rfl ?_ | refine condT ?_ | refine condF ?_ | refine condG1 ?_ | refine condG0 ?_ | refine cD ?_ | refine dD ?_ | refine cB ?_ | refine dB ?_ | refine cN ?_ | refine dN ?_ | refine cV ?_ | refine dV ?_ | refine cE ?_ | refine dE ?_ | refine condX0 ?_ | refine condX1 ?_ | refine condNot ?_ | refine condAnd ?_ | refine condOr ?_ | refine aO ?_ | refine aB ?_ | refine aR ?_ | refine aR ?_ (by simp; omega) | refine xr (by assumption) ?_ | refine ai (by assumption) ?_ | refine condD (fun h => ?_) (fun h => ?_) | refine condB (fun h => ?_) (fun h => ?_) | refine condN (fun h => ?_) (fun h => ?_) | refine condE (fun h => ?_) (fun h => ?_) | refine condV (fun h => ?_) (fun h => ?_))
            (first | refine ev_fin (And.intro (by first | rfl | (simp [AV.pure, pureL]; done) | fail) ?_) | refine ev_fin0 (And.intro (by first | rfl | (simp [AV.pure, pureL]; done) | fail) ?_)); rfl
          · have hz2 : ¬ (b.toNat : Int) = 48 := by
              intro e; apply hz
              apply UInt8.toNat_inj.1
              show b.toNat = 48
              omega
            rw [show finN s a n c most = ((n : Int), ((a + c : Nat) : Int)) from if_neg (by rintro (e | e | e | ⟨_, e⟩); exact h0 e; exact h4 e; exact hb e; exact hz (Option.some.inj (hsb.symm.trans e)))]
            refine W_ok 300 _ _ _ _ ?_
            repeat' ((conv => whnf); first | refine zIstr (b := b) ?_ (by simpa using hsb) (by omega) | refine bslP (by first | rfl | (simp [pureL, pureLL, AV.pure]; done) | fail) rfl ?_ | refine TakeC.full (by first | rfl | omega | (simp; done) | (simp; omega) | fail) ?_ | refine zBs ?_ | refine zBn ?_ | refine zBv rfl rfl ?_ | refine zN ?_ | refine zC ?_ | refine zC4 ?_ | refine zOr16 ?_ | refine zC1 ?_ | refine zByte ?_ | refine zMaxL ?_ | refine zMaxR ?_ | refine zMinL ?_ | refine zMinR ?_ | refine zShr ?_ | refine zC8 ?_ | refine zQ ?_ | refine zR ?_ | refine zS ?_ | refine zA ?_ | refine zM ?_ | refine xr rfl ?_ | refine ai rfl ?_ | refine condT ?_ | refine condF ?_ | refine condG1 ?_ | refine condG0 ?_ | refine cD ?_ | refine dD ?_ | refine cB ?_ | refine dB ?_ | refine cN ?_ | refine dN ?_ | refine cV ?_ | refine dV ?_ | refine cE ?_ | refine dE ?_ | refine condX0 ?_ | refine condX1 ?_ | refine condNot ?_ | refine condAnd ?_ | refine condOr ?_ | refine aO ?_ | refine aB ?_ | refine aR ?_ | refine aR ?_ (by simp; omega) | refine xr (by assumption) ?_ | refine ai (by assumption) ?_ | refine condD (fun h => ?_) (fun h => ?_) | refine condB (fun h => ?_) (fun h => ?_) | refine condN (fun h => ?_) (fun h => ?_) | refine condE (fun h => ?_) (fun h => ?_) | refine condV (fun h => ?_) (fun h => ?_))
            (first | refine ev_fin (And.intro (by first | rfl | (simp [AV.pure, pureL]; done) | fail) ?_) | refine ev_fin0 (And.intro (by first | rfl | (simp [AV.pure, pureL]; done) | fail) ?_))
            rw [prR, hN, hto]; rfl
        · rw [show finN s a n c most = ((n : Int), ((a + c : Nat) : Int)) from if_neg (by rintro (e | e | e | ⟨e, _⟩); exact h0 e; exact h4 e; exact hb e; exact h1 e)]
          refine W_ok 300 _ _ _ _ ?_
          repeat' ((conv => whnf); first | refine bslP (by first | rfl | (simp [pureL, pureLL, AV.pure]; done) | fail) rfl ?_ | refine TakeC.full (by first | rfl | omega | (simp; done) | (simp; omega) | fail) ?_ | refine zBs ?_ | refine zBn ?_ | refine zBv rfl rfl ?_ | refine zN ?_ | refine zC ?_ | refine zC4 ?_ | refine zOr16 ?_ | refine zC1 ?_ | refine zByte ?_ | refine zMaxL ?_ | refine zMaxR ?_ | refine zMinL ?_ | refine zMinR ?_ | refine zShr ?_ | refine zC8 ?_ | refine zQ ?_ | refine zR ?_ | refine zS ?_ | refine zA ?_ | refine zM ?_ | refine xr rfl ?_ | refine ai rfl ?_ | refine condT ?_ | refine condF ?_ | refine condG1 ?_ | refine condG0 ?_ | refine cD ?_ | refine dD ?_ | refine cB ?_ | refine dB ?_ | refine cN ?_ | refine dN ?_ | refine cV ?_ | refine dV ?_ | refine cE ?_ | refine dE ?_ | refine condX0 ?_ | refine condX1 ?_ | refine condNot ?_ | refine condAnd ?_ | refine condOr ?_ | refine aO ?_ | refine aB ?_ | refine aR ?_ | refine aR ?_ (by simp; omega) | refine xr (by assumption) ?_ | refine ai (by assumption) ?_ | refine condD (fun h => ?_) (fun h => ?_) | refine condB (fun h => ?_) (fun h => ?_) | refine condN (fun h => ?_) (fun h => ?_) | refine condE (fun h => ?_) (fun h => ?_) | refine condV (fun h => ?_) (fun h => ?_))
          (first | refine ev_fin (And.intro (by first | rfl | (simp [AV.pure, pureL]; done) | fail) ?_) | refine ev_fin0 (And.intro (by first | rfl | (simp [AV.pure, pureL]; done) | fail) ?_))
          rw [prR, hN, hto]; rfl
end Go.AM.IR
set_option maxHeartbeats 4000000
set_option maxRecDepth 20000
namespace Go.AM.IR
theorem scan_loop253 (s : List UInt8) (a most : Nat) (hs : s.length < 2 ^ 40) (hm : most < 100000) : ∀ (f u : Nat) (hfc : u + f = 4) (n : Nat) (r : List UInt8) (hr : s.drop (a + u) = r) (hac : a + u ≤ s.length) (hn : n < 10 ^ u) (N to : Int) (hN : N = n) (hto : to = a + u) (T : List (Nat × AV)) (H : Heap) (c : Nat),
   Ev G ⟨f253x6LH, ⟨(9, .int .i64 to) :: (0, .str s) :: (8, .int .i64 N) :: (1, .int .i64 (a : Int)) :: (2, .int .i64 (most : Int)) :: T, H, c⟩, [.t 6, .t 7], 0⟩ (prR (finN s a (scanN f r n u).1 (scanN f r n u).2 most))
  | 0, u, hfc, n, r, hr, hac, hn, N, to, hN, hto, T, H, c => by
    obtain rfl : u = 4 := by omega
    rw [show scanN 0 r n 4 = (n, 4) from rfl]
    have hn' : n < 100000 := by omega
    cases r with
    | nil =>
      have hl : s.length = a + 4 := by have := List.drop_eq_nil_iff.1 hr; omega
      refine ev_loop' (W_okd 1 300 _ _ _ _ ?_)
      repeat' ((conv => whnf); first | refine bslP (by first | rfl | (simp [pureL, pureLL, AV.pure]; done) | fail) rfl ?_ | refine TakeC.full (by first | rfl | omega | (simp; done) | (simp; omega) | fail) ?_ | refine zBs ?_ | refine zBn ?_ | refine zBv rfl rfl ?_ | refine zN ?_ | refine zC ?_ | refine zC4 ?_ | refine zOr16 ?_ | refine zC1 ?_ | refine zByte ?_ | refine zMaxL ?_ | refine zMaxR ?_ | refine zMinL ?_ | refine zMinR ?_ | refine zShr ?_ | refine zC8 ?_ | refine zQ ?_ | refine zR ?_ | refine zS ?_ | refine zA ?_ | refine zM ?_ | refine xr rfl ?_ | refine ai rfl ?_ | refine condT ?_ | refine condF ?_ | refine condG1 ?_ | refine condG0 ?_ | refine cD ?_ | refine dD ?_ | refine cB ?_ | refine dB ?_ | refine cN ?_ | refine dN ?_ | refine cV ?_ | refine dV ?_ | refine cE ?_ | refine dE ?_ | refine condX0 ?_ | refine condX1 ?_ | refine condNot ?_ | refine condAnd ?_ | refine condOr ?_ | refine aO ?_ | refine aB ?_ | refine aR ?_ | refine aR ?_ (by simp; omega) | refine xr (by assumption) ?_ | refine ai (by assumption) ?_ | refine condD (fun h => ?_) (fun h => ?_) | refine condB (fun h => ?_) (fun h => ?_) | refine condN (fun h => ?_) (fun h => ?_) | refine condE (fun h => ?_) (fun h => ?_) | refine condV (fun h => ?_) (fun h => ?_))
      refine ev_keep [9, 0, 8, 1, 2] [] ?_
      exact exit253 s a n 4 most N to hN hto hs (by omega) (by omega) hn' hm _ _ _
    | cons b r =>
      have hb : s[to.toNat]? = some b := by
        have : s[a + 4]? = some b := by rw [← Nat.add_zero (a + 4), ← List.getElem?_drop, hr]; rfl
        rw [show to.toNat = a + 4 by omega]; exact this
      have hl : a + 4 < s.length := by
        rcases Nat.lt_or_ge (a + 4) s.length with h | h
        · exact h
        · rw [List.drop_eq_nil_iff.2 h] at hr; cases hr
      by_cases h1 : 48 ≤ b.toNat
      · by_cases h2 : b.toNat ≤ 57
        · refine ev_loop' (W_okd 1 300 _ _ _ _ ?_)
          repeat' ((conv => whnf); first | refine zIstr ?_ hb (by omega) | refine bslP (by first | rfl | (simp [pureL, pureLL, AV.pure]; done) | fail) rfl ?_ | refine TakeC.full (by first | rfl | omega | (simp; done) | (simp; omega) | fail) ?_ | refine zBs ?_ | refine zBn ?_ | refine zBv rfl rfl ?_ | refine zN ?_ | refine zC ?_ | refine zC4 ?_ | refine zOr16 ?_ | refine zC1 ?_ | refine zByte ?_ | refine zMaxL ?_ | refine zMaxR ?_ | refine zMinL ?_ | refine zMinR ?_ | refine zShr ?_ | refine zC8 ?_ | refine zQ ?_ | refine zR ?_ | refine zS ?_ | refine zA ?_ | refine zM ?_ | refine xr rfl ?_ | refine ai rfl ?_ | refine condT ?_ | refine condF ?_ | refine condG1 ?_ | refine condG0 ?_ | refine cD ?_ | refine dD ?_ | refine cB ?_ | refine dB ?_ | refine cN ?_ | refine dN ?_ | refine cV ?_ | refine dV ?_ | refine cE ?_ | refine dE ?_ | refine condX0 ?_ | refine condX1 ?_ | refine condNot ?_ | refine condAnd ?_ | refine condOr ?_ | refine aO ?_ | refine aB ?_ | refine aR ?_ | refine aR ?_ (by simp; omega) | refine xr (by assumption) ?_ | refine ai (by assumption) ?_ | refine condD (fun h => ?_) (fun h => ?_) | refine condB (fun h => ?_) (fun h => ?_) | refine condN (fun h => ?_) (fun h => ?_) | refine condE (fun h => ?_) (fun h => ?_) | refine condV (fun h => ?_) (fun h => ?_))
          refine ev_keep [9, 0, 8, 1, 2] [] ?_
          exact exit253 s a n 4 most N to hN hto hs (by omega) (by omega) hn' hm _ _ _
        · refine ev_loop' (W_okd 1 300 _ _ _ _ ?_)
          repeat' ((conv => whnf); first | refine zIstr ?_ hb (by omega) | refine bslP (by first | rfl | (simp [pureL, pureLL, AV.pure]; done) | fail) rfl ?_ | refine TakeC.full (by first | rfl | omega | (simp; done) | (simp; omega) | fail) ?_ | refine zBs ?_ | refine zBn ?_ | refine zBv rfl rfl ?_ | refine zN ?_ | refine zC ?_ | refine zC4 ?_ | refine zOr16 ?_ | refine zC1 ?_ | refine zByte ?_ | refine zMaxL ?_ | refine zMaxR ?_ | refine zMinL ?_ | refine zMinR ?_ | refine zShr ?_ | refine zC8 ?_ | refine zQ ?_ | refine zR ?_ | refine zS ?_ | refine zA ?_ | refine zM ?_ | refine xr rfl ?_ | refine ai rfl ?_ | refine condT ?_ | refine condF ?_ | refine condG1 ?_ | refine condG0 ?_ | refine cD ?_ | refine dD ?_ | refine cB ?_ | refine dB ?_ | refine cN ?_ | refine dN ?_ | refine cV ?_ | refine dV ?_ | refine cE ?_ | refine dE ?_ | refine condX0 ?_ | refine condX1 ?_ | refine condNot ?_ | refine condAnd ?_ | refine condOr ?_ | refine aO ?_ | refine aB ?_ | refine aR ?_ | refine aR ?_ (by simp; omega) | refine xr (by assumption) ?_ | refine ai (by assumption) ?_ | refine condD (fun h => ?_) (fun h => ?_) | refine condB (fun h => ?_) (fun h => ?_) | refine condN (fun h => ?_) (fun h => ?_) | refine condE (fun h => ?_) (fun h => ?_) | refine condV (fun h => ?_) (fun h => ?_))
          refine ev_keep [9, 0, 8, 1, 2] [] ?_
          exact exit253 s a n 4 most N to hN hto hs (by omega) (by omega) hn' hm _ _ _
      · refine ev_loop' (W_okd 1 300 _ _ _ _ ?_)
        repeat' ((conv => whnf); first | refine zIstr ?_ hb (by omega) | refine bslP (by first | rfl | (simp [pureL, pureLL, AV.pure]; done) | fail) rfl ?_ | refine TakeC.full (by first | rfl | omega | (simp; done) | (simp; omega) | fail) ?_ | refine zBs ?_ | refine zBn ?_ | refine zBv rfl rfl ?_ | refine zN ?_ | refine zC ?_ | refine zC4 ?_ | refine zOr16 ?_ | refine zC1 ?_ | refine zByte ?_ | refine zMaxL ?_ | refine zMaxR ?_ | refine zMinL ?_ | refine zMinR ?_ | refine zShr ?_ | refine zC8 ?_ | refine zQ ?_ | refine zR ?_ | refine zS ?_ | refine zA ?_ | refine zM ?_ | refine xr rfl ?_ | refine ai rfl ?_ | refine condT ?_ | refine condF ?_ | refine condG1 ?_ | refine condG0 ?_ | refine cD ?_ | refine dD ?_ | refine cB ?_ | refine dB ?_ | refine cN ?_ | refine dN ?_ | refine cV ?_ | refine dV ?_ | refine cE ?_ | refine dE ?_ | refine condX0 ?_ | refine condX1 ?_ | refine condNot ?_ | refine condAnd ?_ | refine condOr ?_ | refine aO ?_ | refine aB ?_ | refine aR ?_ | refine aR ?_ (by simp; omega) | refine xr (by assumption) ?_ | refine ai (by assumption) ?_ | refine condD (fun h => ?_) (fun h => ?_) | refine condB (fun h => ?_) (fun h => ?_) | refine condN (fun h => ?_) (fun h => ?_) | refine condE (fun h => ?_) (fun h => ?_) | refine condV (fun h => ?_) (fun h => ?_))
        refine ev_keep [9, 0, 8, 1, 2] [] ?_
        exact exit253 s a n 4 most N to hN hto hs (by omega) (by omega) hn' hm _ _ _
  | f + 1, u, hfc, n, r, hr, hac, hn, N, to, hN, hto, T, H, c => by
    have hn' : n < 100000 := Nat.lt_of_lt_of_le hn (Nat.le_trans (Nat.pow_le_pow_right (by omega) (show u ≤ 4 by omega)) (by omega))
    cases r with
    | nil =>
      have hl : s.length = a + u := by have := List.drop_eq_nil_iff.1 hr; omega
      rw [show scanN (f + 1) [] n u = (n, u) from rfl]
      refine ev_loop' (W_okd 1 300 _ _ _ _ ?_)
      repeat' ((conv => whnf); first | refine bslP (by first | rfl | (simp [pureL, pureLL, AV.pure]; done) | fail) rfl ?_ | refine TakeC.full (by first | rfl | omega | (simp; done) | (simp; omega) | fail) ?_ | refine zBs ?_ | refine zBn ?_ | refine zBv rfl rfl ?_ | refine zN ?_ | refine zC ?_ | refine zC4 ?_ | refine zOr16 ?_ | refine zC1 ?_ | refine zByte ?_ | refine zMaxL ?_ | refine zMaxR ?_ | refine zMinL ?_ | refine zMinR ?_ | refine zShr ?_ | refine zC8 ?_ | refine zQ ?_ | refine zR ?_ | refine zS ?_ | refine zA ?_ | refine zM ?_ | refine xr rfl ?_ | refine ai rfl ?_ | refine condT ?_ | refine condF ?_ | refine condG1 ?_ | refine condG0 ?_ | refine cD ?_ | refine dD ?_ | refine cB ?_ | refine dB ?_ | refine cN ?_ | refine dN ?_ | refine cV ?_ | refine dV ?_ | refine cE ?_ | refine dE ?_ | refine condX0 ?_ | refine condX1 ?_ | refine condNot ?_ | refine condAnd ?_ | refine condOr ?_ | refine aO ?_ | refine aB ?_ | refine aR ?_ | refine aR ?_ (by simp; omega) | refine xr (by assumption) ?_ | refine ai (by assumption) ?_ | refine condD (fun h => ?_) (fun h => ?_) | refine condB (fun h => ?_) (fun h => ?_) | refine condN (fun h => ?_) (fun h => ?_) | refine condE (fun h => ?_) (fun h => ?_) | refine condV (fun h => ?_) (fun h => ?_))
      refine ev_keep [9, 0, 8, 1, 2] [] ?_
      exact exit253 s a n u most N to hN hto hs (by omega) (by omega) hn' hm _ _ _
    | cons b r =>
      have hb : s[to.toNat]? = some b := by
        have : s[a + u]? = some b := by rw [← Nat.add_zero (a + u), ← List.getElem?_drop, hr]; rfl
        rw [show to.toNat = a + u by omega]; exact this
      have hl : a + u < s.length := by
        rcases Nat.lt_or_ge (a + u) s.length with h | h
        · exact h
        · rw [List.drop_eq_nil_iff.2 h] at hr; cases hr
      by_cases h1 : 48 ≤ b.toNat
      · by_cases h2 : b.toNat ≤ 57
        · have hd : dig b = true := by unfold dig; simp [h1, h2]
          have hv : dval b < 10 := by unfold dval; omega
          rw [show scanN (f + 1) (b :: r) n u = scanN f r (n * 10 + dval b) (u + 1) from by rw [scanN, if_pos hd]]
          refine ev_loop' (W_ok 300 _ _ _ _ ?_)
          repeat' ((conv => whnf); first | refine zIstr ?_ hb (by omega) | refine zSub48 ?_ h1 | refine bslP (by first | rfl | (simp [pureL, pureLL, AV.pure]; done) | fail) rfl ?_ | refine TakeC.full (by first | rfl | omega | (simp; done) | (simp; omega) | fail) ?_ | refine zBs ?_ | refine zBn ?_ | refine zBv rfl rfl ?_ | refine zN ?_ | refine zC ?_ | refine zC4 ?_ | refine zOr16 ?_ | refine zC1 ?_ | refine zByte ?_ | refine zMaxL ?_ | refine zMaxR ?_ | refine zMinL ?_ | refine zMinR ?_ | refine zShr ?_ | refine zC8 ?_ | refine zQ ?_ | refine zR ?_ | refine zS ?_ | refine zA ?_ | refine zM ?_ | refine xr rfl ?_ | refine ai rfl ?_ | refine condT ?_ | refine condF ?_ | refine condG1 ?_ | refine condG0 ?_ | refine cD ?_ | refine dD ?_ | refine cB ?_ | refine dB ?_ | refine cN ?_ | refine dN ?_ | refine cV ?_ | refine dV ?_ | refine cE ?_ | refine dE ?_ | refine condX0 ?_ | refine condX1 ?_ | refine condNot ?_ | refine condAnd ?_ | refine condOr ?_ | refine aO ?_ | refine aB ?_ | refine aR ?_ | refine aR ?_ (by simp; omega) | refine xr (by assumption) ?_ | refine ai (by assumption) ?_ | refine condD (fun h => ?_) (fun h => ?_) | refine condB (fun h => ?_) (fun h => ?_) | refine condN (fun h => ?_) (fun h => ?_) | refine condE (fun h => ?_) (fun h => ?_) | refine condV (fun h => ?_) (fun h => ?_))
          refine ev_keep [9, 0, 8, 1, 2] [] ?_
          refine scan_loop253 s a most hs hm f (u + 1) (by omega) (n * 10 + dval b) r ?_ (by omega) (by rw [Nat.pow_succ]; omega) (N * 10 + (dval b : Nat)) (to + 1) (by omega) (by omega) _ _ _
          rw [← Nat.add_assoc, ← List.drop_drop, hr]; rfl
        · have hd : ¬ dig b = true := by unfold dig; simp [h2]
          rw [show scanN (f + 1) (b :: r) n u = (n, u) from by rw [scanN, if_neg hd]]
          refine ev_loop' (W_okd 1 300 _ _ _ _ ?_)
          repeat' ((conv => whnf); first | refine zIstr ?_ hb (by omega) | refine bslP (by first | rfl | (simp [pureL, pureLL, AV.pure]; done) | fail) rfl ?_ | refine TakeC.full (by first | rfl | omega | (simp; done) | (simp; omega) | fail) ?_ | refine zBs ?_ | refine zBn ?_ | refine zBv rfl rfl ?_ | refine zN ?_ | refine zC ?_ | refine zC4 ?_ | refine zOr16 ?_ | refine zC1 ?_ | refine zByte ?_ | refine zMaxL ?_ | refine zMaxR ?_ | refine zMinL ?_ | refine zMinR ?_ | refine zShr ?_ | refine zC8 ?_ | refine zQ ?_ | refine zR ?_ | refine zS ?_ | refine zA ?_ | refine zM ?_ | refine xr rfl ?_ | refine ai rfl ?_ | refine condT ?_ | refine condF ?_ | refine condG1 ?_ | refine condG0 ?_ | refine cD ?_ | refine dD ?_ | refine cB ?_ | refine dB ?_ | refine cN ?_ | refine dN ?_ | refine cV ?_ | refine dV ?_ | refine cE ?_ | refine dE ?_ | refine condX0 ?_ | refine condX1 ?_ | refine condNot ?_ | refine condAnd ?_ | refine condOr ?_ | refine aO ?_ | refine aB ?_ | refine aR ?_ | refine aR ?_ (by simp; omega) | refine xr (by assumption) ?_ | refine ai (by assumption) ?_ | refine condD (fun h => ?_) (fun h => ?_) | refine condB (fun h => ?_) (fun h => ?_) | refine condN (fun h => ?_) (fun h => ?_) | refine condE (fun h => ?_) (fun h => ?_) | refine condV (fun h => ?_) (fun h => ?_))
          refine ev_keep [9, 0, 8, 1, 2] [] ?_
          exact exit253 s a n u most N to hN hto hs (by omega) (by omega) hn' hm _ _ _
      · have hd : ¬ dig b = true := by unfold dig; simp [h1]
        rw [show scanN (f + 1) (b :: r) n u = (n, u) from by rw [scanN, if_neg hd]]
        refine ev_loop' (W_okd 1 300 _ _ _ _ ?_)
        repeat' ((conv => whnf); first | refine zIstr ?_ hb (by omega) | refine bslP (by first | rfl | (simp [pureL, pureLL, AV.pure]; done) | fail) rfl ?_ | refine TakeC.full (by first | rfl | omega | (simp; done) | (simp; omega) | fail) ?_ | refine zBs ?_ | refine zBn ?_ | refine zBv rfl rfl ?_ | refine zN ?_ | refine zC ?_ | refine zC4 ?_ | refine zOr16 ?_ | refine zC1 ?_ | refine zByte ?_ | refine zMaxL ?_ | refine zMaxR ?_ | refine zMinL ?_ | refine zMinR ?_ | refine zShr ?_ | refine zC8 ?_ | refine zQ ?_ | refine zR ?_ | refine zS ?_ | refine zA ?_ | refine zM ?_ | refine xr rfl ?_ | refine ai rfl ?_ | refine condT ?_ | refine condF ?_ | refine condG1 ?_ | refine condG0 ?_ | refine cD ?_ | refine dD ?_ | refine cB ?_ | refine dB ?_ | refine cN ?_ | refine dN ?_ | refine cV ?_ | refine dV ?_ | refine cE ?_ | refine dE ?_ | refine condX0 ?_ | refine condX1 ?_ | refine condNot ?_ | refine condAnd ?_ | refine condOr ?_ | refine aO ?_ | refine aB ?_ | refine aR ?_ | refine aR ?_ (by simp; omega) | refine xr (by assumption) ?_ | refine ai (by assumption) ?_ | refine condD (fun h => ?_) (fun h => ?_) | refine condB (fun h => ?_) (fun h => ?_) | refine condN (fun h => ?_) (fun h => ?_) | refine condE (fun h => ?_) (fun h => ?_) | refine condV (fun h => ?_) (fun h => ?_))
        refine ev_keep [9, 0, 8, 1, 2] [] ?_
        exact exit253 s a n u most N to hN hto hs (by omega) (by omega) hn' hm _ _ _
theorem number_gives253 (s : List UInt8) (a most : Nat) (at_ : Int) (ha : at_ = a) (hs : s.length < 2 ^ 40) (hm : most < 100000) (hal : a ≤ s.length) : Gives G 253 [.str s, .int .i64 at_, .int .i64 (most : Int)] [] (prR (refN s a most)) := by
  subst ha
  refine gives_code (F := f253) rfl rfl (W_ok 300 _ _ _ _ ?_)
  repeat' ((conv => whnf); first | refine bslP (by first | rfl | (simp [pureL, pureLL, AV.pure]; done) | fail) rfl ?_ | refine TakeC.full (by first | rfl | omega | (simp; done) | (simp; omega) | fail) ?_ | refine zBs ?_ | refine zBn ?_ | refine zBv rfl rfl ?_ | refine zN ?_ | refine zC ?_ | refine zC4 ?_ | refine zOr16 ?_ | refine zC1 ?_ | refine zByte ?_ | refine zMaxL ?_ | refine zMaxR ?_ | refine zMinL ?_ | refine zMinR ?_ | refine zShr ?_ | refine zC8 ?_ | refine zQ ?_ | refine zR ?_ | refine zS ?_ | refine zA ?_ | refine zM ?_ | refine xr rfl ?_ | refine ai rfl ?_ | refine condT ?_ | refine condF ?_ | refine condG1 ?_ | refine condG0 ?_ | refine cD ?_ | refine dD ?_ | refine cB ?_ | refine dB ?_ | refine cN ?_ | refine dN ?_ | refine cV ?_ | refine dV ?_ | refine cE ?_ | refine dE ?_ | refine condX0 ?_ | refine condX1 ?_ | refine condNot ?_ | refine condAnd ?_ | refine condOr ?_ | refine aO ?_ | refine aB ?_ | refine aR ?_ | refine aR ?_ (by simp; omega) | refine xr (by assumption) ?_ | refine ai (by assumption) ?_ | refine condD (fun h => ?_) (fun h => ?_) | refine condB (fun h => ?_) (fun h => ?_) | refine condN (fun h => ?_) (fun h => ?_) | refine condE (fun h => ?_) (fun h => ?_) | refine condV (fun h => ?_) (fun h => ?_))
  refine ev_keep [9, 0, 8, 1, 2] [] ?_
  exact scan_loop253 s a most hs hm 4 0 rfl 0 (s.drop a) rfl hal (by simp) 0 (a : Int) rfl (by omega) _ _ _
end Go.AM.IR
set_option maxHeartbeats 4000000
set_option maxRecDepth 20000
namespace Go.AM.IR
def val (n : Nat) (ds : List UInt8) : Nat := ds.foldl (fun a b => a * 10 + dval b) n
theorem scan_app (rest : List UInt8) (hr : rest = [] ∨ ∃ b r, rest = b :: r ∧ dig b = false) : ∀ (ds : List UInt8) (f n c : Nat), (∀ b ∈ ds, dig b = true) → ds.length < f → scanN f (ds ++ rest) n c = (val n ds, c + ds.length)
  | [], 0, n, c, _, h => by simp at h
  | [], f + 1, n, c, _, _ => by
    rcases hr with rfl | ⟨b, r, rfl, hb⟩
    · rfl
    · show scanN (f + 1) (b :: r) n c = _
      rw [scanN, if_neg (by rw [hb]; simp)]; rfl
  | d :: ds, 0, n, c, _, h => by simp at h
  | d :: ds, f + 1, n, c, hd, h => by
    show scanN (f + 1) (d :: (ds ++ rest)) n c = _
    rw [scanN, if_pos (hd d (by simp)), scan_app rest hr ds f _ _ (fun b hb => hd b (by simp [hb])) (by simpa using h)]
    simp [val]; omega
theorem scan_spec : ∀ (f : Nat) (r : List UInt8) (n c : Nat), ∃ ds rest, r = ds ++ rest ∧ (∀ b ∈ ds, dig b = true) ∧ scanN f r n c = (val n ds, c + ds.length) ∧ ds.length ≤ f
  | 0, r, n, c => ⟨[], r, rfl, by simp, rfl, by simp⟩
  | f + 1, [], n, c => ⟨[], [], rfl, by simp, rfl, by simp⟩
  | f + 1, b :: r, n, c => by
    by_cases hb : dig b = true
    · obtain ⟨ds, rest, e, hd, hs, hl⟩ := scan_spec f r (n * 10 + dval b) (c + 1)
      refine ⟨b :: ds, rest, by rw [e]; rfl, fun x hx => ?_, ?_, by simpa using hl⟩
      · rcases List.mem_cons.1 hx with rfl | hx
        · exact hb
        · exact hd x hx
      · rw [scanN, if_pos hb, hs]; simp [val]; omega
    · exact ⟨[], b :: r, rfl, by simp, by rw [scanN, if_neg hb]; rfl, by simp⟩
def endN (r : List UInt8) : Prop := r = [] ∨ ∃ b t, r = b :: t ∧ dig b = false
theorem head_drop (s : List UInt8) (a : Nat) : s[a]? = (s.drop a).head? := by rw [List.head?_drop]
theorem ref_hit {s rest : List UInt8} {a most k : Nat} (hk : k < 256) (hm : k ≤ most) (h : s.drop a = itoaK k ++ rest) (hr : endN rest) : refN s a most = ((k : Int), ((a + (itoaK k).length : Nat) : Int)) := by
  have hl := itoa_len hk
  unfold refN
  rw [h, scan_app rest hr (itoaK k) 4 0 0 (itoa_dig hk) (by omega)]
  have hv : val 0 (itoaK k) = k := itoa_val hk
  rw [hv]
  unfold finN
  rw [if_neg, Nat.zero_add]
  rintro (e | e | e | ⟨e1, e2⟩)
  · omega
  · omega
  · omega
  · rcases itoa_head hk with q | q
    · omega
    · apply q
      rw [head_drop, h] at e2
      cases hi : itoaK k with
      | nil => rw [hi] at hl; simp at hl
      | cons b t => rw [hi] at e2; simpa using e2
theorem ref_miss {s : List UInt8} {a most : Nat} : refN s a most = (0, -1) ∨ ∃ k : Nat, k ≤ most ∧ refN s a most = ((k : Int), ((a + (itoaK k).length : Nat) : Int)) ∧ s.drop a = itoaK k ++ s.drop (a + (itoaK k).length) ∧ 1 ≤ (itoaK k).length ∧ a + (itoaK k).length ≤ s.length := by
  obtain ⟨ds, rest, e, hd, hs, hl⟩ := scan_spec 4 (s.drop a) 0 0
  unfold refN
  rw [hs]
  unfold finN
  rw [Nat.zero_add]
  by_cases hc : ds.length = 0 ∨ ds.length = 4 ∨ val 0 ds > most ∨ (1 < ds.length ∧ s[a]? = some 48)
  · exact .inl (if_pos hc)
  · right
    rw [if_neg hc]
    simp only [not_or, not_and] at hc
    obtain ⟨h0, h4, hm, hz⟩ := hc
    have hi : itoaK (val 0 ds : Nat) = ds := by
      rw [head_drop, e] at hz
      match ds, hd, h0, h4, hl, hz with
      | [x], hd, _, _, _, _ => simpa [val] using itoa_1 (hd x (by simp))
      | [x, y], hd, _, _, _, hz =>
        have := itoa_2 (hd x (by simp)) (hd y (by simp)) (by have := hz (by simp); simpa using this)
        simpa [val] using this
      | [x, y, z], hd, _, _, _, hz =>
        have := itoa_3 (hd x (by simp)) (hd y (by simp)) (hd z (by simp)) (by have := hz (by simp); simpa using this)
        simpa [val] using this
      | [], _, h0, _, _, _ => exact absurd rfl h0
      | [x, y, z, w], _, _, h4, _, _ => exact absurd rfl h4
      | x :: y :: z :: w :: v :: r, _, _, _, hl, _ => simp at hl
    have hdr : s.drop (a + ds.length) = rest := by rw [← List.drop_drop, e]; simp
    have hlen : a + ds.length ≤ s.length := by
      have := congrArg List.length e
      simp at this
      omega
    refine ⟨val 0 ds, by omega, ?_, ?_, ?_, ?_⟩
    · rw [hi]
    · rw [hi, hdr]; exact e
    · rw [hi]; omega
    · rw [hi]; exact hlen
def adrN (s : List UInt8) : Nat → Nat → Nat → Nat → Int × Int
  | 0, _, x, a => ((x : Int), (a : Int))
  | f + 1, i, x, a =>
    if 0 < i ∧ ¬ s[a]? = some 46 then (0, -1)
    else if (refN s (if 0 < i then a + 1 else a) 255).2 < 0 then (0, -1)
    else adrN s f (i + 1) (x * 256 + (refN s (if 0 < i then a + 1 else a) 255).1.toNat) (refN s (if 0 < i then a + 1 else a) 255).2.toNat
theorem adr_step0 {s : List UInt8} {f x a k : Nat} {rest : List UInt8} (hk : k < 256) (h : s.drop a = itoaK k ++ rest) (hr : endN rest) : adrN s (f + 1) 0 x a = adrN s f 1 (x * 256 + k) (a + (itoaK k).length) := by
  have h1 := ref_hit (most := 255) hk (by omega) h hr
  rw [adrN, if_neg (by simp)]
  simp only [Nat.lt_irrefl, if_false, h1]
  rw [if_neg (by omega)]; rfl
theorem adr_step {s : List UInt8} {f i x a k : Nat} {rest : List UInt8} (hi : 0 < i) (hk : k < 256) (h : s.drop a = 46 :: (itoaK k ++ rest)) (hr : endN rest) : adrN s (f + 1) i x a = adrN s f (i + 1) (x * 256 + k) (a + 1 + (itoaK k).length) := by
  have hd : s.drop (a + 1) = itoaK k ++ rest := by rw [← List.drop_drop, h]; rfl
  have h1 := ref_hit (most := 255) hk (by omega) hd hr
  rw [adrN, if_neg (by rw [head_drop, h]; simp)]
  simp only [hi, if_true, h1]
  rw [if_neg (by omega)]; rfl
theorem end46 (r : List UInt8) : endN (46 :: r) := .inr ⟨46, r, rfl, rfl⟩
theorem drop_step {s t r : List UInt8} {a : Nat} (h : s.drop a = 46 :: (t ++ r)) : s.drop (a + 1 + t.length) = r := by
  rw [← List.drop_drop, ← List.drop_drop, h]; simp
theorem drop_step0 {s t r : List UInt8} {a : Nat} (h : s.drop a = t ++ r) : s.drop (a + t.length) = r := by
  rw [← List.drop_drop, h]; simp
theorem adr_hit {s rest : List UInt8} {x : Nat} (hx : x < 4294967296) (h : s = dots x ++ rest) (hr : endN rest) : adrN s 4 0 0 0 = ((x : Int), ((dots x).length : Int)) := by
  unfold dots at h
  simp only [List.append_assoc, List.cons_append] at h
  have h0 : s.drop 0 = itoaK (x / 16777216 : Nat) ++ (46 :: (itoaK (x / 65536 % 256 : Nat) ++ (46 :: (itoaK (x / 256 % 256 : Nat) ++ (46 :: (itoaK (x % 256 : Nat) ++ rest)))))) := by rw [List.drop_zero]; exact h
  have d1 := drop_step0 h0
  have d2 := drop_step d1
  have d3 := drop_step d2
  rw [adr_step0 (by omega) h0 (end46 _), adr_step (by omega) (by omega) d1 (end46 _), adr_step (by omega) (by omega) d2 (end46 _), adr_step (by omega) (by omega) d3 hr]
  unfold adrN dots
  refine Prod.ext ?_ ?_
  · simp only; omega
  · simp; omega
theorem adr_back0 {s : List UInt8} {f x a : Nat} (h : adrN s (f + 1) 0 x a ≠ (0, -1)) : ∃ k : Nat, k < 256 ∧ s.drop a = itoaK k ++ s.drop (a + (itoaK k).length) ∧ a + (itoaK k).length ≤ s.length ∧ adrN s (f + 1) 0 x a = adrN s f 1 (x * 256 + k) (a + (itoaK k).length) := by
  rw [adrN, if_neg (by simp)] at h ⊢
  simp only [Nat.lt_irrefl, if_false] at h ⊢
  rcases ref_miss (s := s) (a := a) (most := 255) with e | ⟨k, hk, e, hd, h1, hl⟩
  · rw [e] at h; exact absurd rfl h
  · refine ⟨k, by omega, hd, hl, ?_⟩
    rw [e, if_neg (by simp only; omega)]; rfl
theorem adr_back {s : List UInt8} {f i x a : Nat} (hi : 0 < i) (h : adrN s (f + 1) i x a ≠ (0, -1)) : ∃ k : Nat, k < 256 ∧ s.drop a = 46 :: (itoaK k ++ s.drop (a + 1 + (itoaK k).length)) ∧ a + 1 + (itoaK k).length ≤ s.length ∧ adrN s (f + 1) i x a = adrN s f (i + 1) (x * 256 + k) (a + 1 + (itoaK k).length) := by
  rw [adrN] at h ⊢
  by_cases hz : s[a]? = some 46
  · rw [if_neg (by simp [hz])] at h ⊢
    simp only [hi, if_true] at h ⊢
    rcases ref_miss (s := s) (a := a + 1) (most := 255) with e | ⟨k, hk, e, hd, h1, hl⟩
    · rw [e] at h; exact absurd rfl h
    · refine ⟨k, by omega, ?_, hl, ?_⟩
      · rw [← hd]
        rw [head_drop] at hz
        cases hs : s.drop a with
        | nil => rw [hs] at hz; cases hz
        | cons b t =>
          rw [hs] at hz
          obtain rfl : b = 46 := by simpa using hz
          rw [← List.drop_drop, hs]; rfl
      · rw [e, if_neg (by simp only; omega)]; rfl
  · rw [if_pos ⟨hi, hz⟩] at h; exact absurd rfl h
theorem adr_all (s : List UInt8) : adrN s 4 0 0 0 = (0, -1) ∨ ∃ x : Nat, x < 4294967296 ∧ s = dots x ++ s.drop (dots x).length ∧ (dots x).length ≤ s.length ∧ adrN s 4 0 0 0 = ((x : Int), ((dots x).length : Int)) := by
  by_cases h : adrN s 4 0 0 0 = (0, -1)
  · exact .inl h
  · right
    obtain ⟨k0, b0, d0, l0, e0⟩ := adr_back0 h
    rw [e0] at h ⊢
    obtain ⟨k1, b1, d1, l1, e1⟩ := adr_back (by omega) h
    rw [e1] at h ⊢
    obtain ⟨k2, b2, d2, l2, e2⟩ := adr_back (by omega) h
    rw [e2] at h ⊢
    obtain ⟨k3, b3, d3, l3, e3⟩ := adr_back (by omega) h
    rw [e3]
    clear e0 e1 e2 e3 h
    have hx : (((0 * 256 + k0) * 256 + k1) * 256 + k2) * 256 + k3 < 4294967296 := by omega
    have hd : dots ((((0 * 256 + k0) * 256 + k1) * 256 + k2) * 256 + k3) = itoaK k0 ++ 46 :: (itoaK k1 ++ 46 :: (itoaK k2 ++ 46 :: itoaK k3)) := by
      unfold dots
      rw [show ((((0 * 256 + k0) * 256 + k1) * 256 + k2) * 256 + k3) / 16777216 = k0 by omega, show ((((0 * 256 + k0) * 256 + k1) * 256 + k2) * 256 + k3) / 65536 % 256 = k1 by omega,
        show ((((0 * 256 + k0) * 256 + k1) * 256 + k2) * 256 + k3) / 256 % 256 = k2 by omega, show ((((0 * 256 + k0) * 256 + k1) * 256 + k2) * 256 + k3) % 256 = k3 by omega]
    have hl : (itoaK k0 ++ 46 :: (itoaK k1 ++ 46 :: (itoaK k2 ++ 46 :: itoaK k3))).length = 0 + (itoaK k0).length + 1 + (itoaK k1).length + 1 + (itoaK k2).length + 1 + (itoaK k3).length := by simp; omega
    refine ⟨_, hx, ?_, ?_, ?_⟩
    · rw [hd, hl]
      rw [List.drop_zero] at d0
      conv => lhs; rw [d0, d1, d2, d3]
      simp
    · rw [hd, hl]; exact l3
    · rw [hd, hl]; rfl
end Go.AM.IR
set_option maxHeartbeats 4000000
set_option maxRecDepth 20000
namespace Go.AM.IR
theorem zSlarr {k : Eff → Prop} {x : Opd} {g key kk gk n : Nat} {cs : List AV} {hg : Nat → Option (Nat × Blk)} (h : k { res := .vs key g n, wr := [(key, some (g, .vec 1 (cs.map fun c => [c]))), (kk, some (g, .vec 1 []))], rd := [kk] })
    (hk : hg kk = some (gk, .cells cs) := by rfl) (hn : cs.length = n := by rfl) (hne : kk ≠ key := by decide) : ∃ e, aopV (.slarr n 1 x none none none) g key [.ref kk gk 0] hg = some e ∧ k e := by
  refine ⟨_, ?_, h⟩
  simp [aopV, slarrV, hk, hn, hne]
theorem addr_gives228 (x : Nat) (hx : x < 4294967296) : Gives G 228 [.int .u32 (x : Int)] [] ⟨.str (dots x), []⟩ := by
  have n3 := num_gives248 (n := x / 16777216) (by omega)
  have n2 := num_gives248 (n := x / 65536 % 256) (by omega)
  have n1 := num_gives248 (n := x / 256 % 256) (by omega)
  have n0 := num_gives248 (n := x % 256) (by omega)
  have l3 := itoa_len (n := x / 16777216) (by omega)
  have l2 := itoa_len (n := x / 65536 % 256) (by omega)
  have l1 := itoa_len (n := x / 256 % 256) (by omega)
  have l0 := itoa_len (n := x % 256) (by omega)
  unfold dots
  generalize itoaK (x / 16777216 : Nat) = t3 at *
  generalize itoaK (x / 65536 % 256 : Nat) = t2 at *
  generalize itoaK (x / 256 % 256 : Nat) = t1 at *
  generalize itoaK (x % 256 : Nat) = t0 at *
  refine gives_code (F := f228) rfl rfl (W_ok 300 _ _ _ _ ?_)
  repeat' ((conv => whnf); first | refine zCat ?_ | refine zShrC 16777216 ?_ (by rfl) (by omega) (by omega) | refine zShrC 65536 ?_ (by rfl) (by omega) (by omega) | refine zShrC 256 ?_ (by rfl) (by omega) (by omega) | refine zAnd255 ?_ (by omega) | refine bslP (by first | rfl | (simp [pureL, pureLL, AV.pure]; done) | fail) rfl ?_ | refine TakeC.full (by first | rfl | omega | (simp; done) | (simp; omega) | fail) ?_ | refine zBs ?_ | refine zBn ?_ | refine zBv rfl rfl ?_ | refine zN ?_ | refine zC ?_ | refine zC4 ?_ | refine zOr16 ?_ | refine zC1 ?_ | refine zByte ?_ | refine zMaxL ?_ | refine zMaxR ?_ | refine zMinL ?_ | refine zMinR ?_ | refine zShr ?_ | refine zC8 ?_ | refine zQ ?_ | refine zR ?_ | refine zS ?_ | refine zA ?_ | refine zM ?_ | refine xr rfl ?_ | refine ai rfl ?_ | refine condT ?_ | refine condF ?_ | refine condG1 ?_ | refine condG0 ?_ | refine cD ?_ | refine dD ?_ | refine cB ?_ | refine dB ?_ | refine cN ?_ | refine dN ?_ | refine cV ?_ | refine dV ?_ | refine cE ?_ | refine dE ?_ | refine condX0 ?_ | refine condX1 ?_ | refine condNot ?_ | refine condAnd ?_ | refine condOr ?_ | refine aO ?_ | refine aB ?_ | refine aR ?_ | refine aR ?_ (by simp; omega) | refine xr (by assumption) ?_ | refine ai (by assumption) ?_ | refine kV (n3) ?_ | refine kV (n2) ?_ | refine kV (n1) ?_ | refine kV (n0) ?_ | refine condD (fun h => ?_) (fun h => ?_) | refine condB (fun h => ?_) (fun h => ?_) | refine condN (fun h => ?_) (fun h => ?_) | refine condE (fun h => ?_) (fun h => ?_) | refine condV (fun h => ?_) (fun h => ?_))
  (first | refine ev_fin (And.intro (by first | rfl | (simp [AV.pure, pureL]; done) | fail) ?_) | refine ev_fin0 (And.intro (by first | rfl | (simp [AV.pure, pureL]; done) | fail) ?_))
  simp
theorem addr_loop4 (x : Nat) (t3 t2 t1 t0 R : List UInt8) (hx : x < 4294967296) (n3 : Gives G 246 [.int .i64 (x / 16777216 % 256 : Nat)] [] ⟨.str t3, []⟩) (n2 : Gives G 246 [.int .i64 (x / 65536 % 256 : Nat)] [] ⟨.str t2, []⟩) (n1 : Gives G 246 [.int .i64 (x / 256 % 256 : Nat)] [] ⟨.str t1, []⟩) (n0 : Gives G 246 [.int .i64 (x / 1 % 256 : Nat)] [] ⟨.str t0, []⟩) (ej : Gives G 247 [.sl 1 [[.str t3], [.str t2], [.str t1], [.str t0]], .str [46]] [] ⟨.str R, []⟩) (T : List (Nat × AV)) (H : Heap) (c g : Nat) :
   Ev G ⟨f227x7LH, ⟨(5, .int .i64 4) :: (3, .ref 67 g 0) :: (0, .int .u32 (x : Int)) :: T, (67, some (g, .cells [.str t3, .str t2, .str t1, .str t0])) :: H, c⟩, [.t 2], 0⟩ ⟨.str R, []⟩ := by
  refine ev_loop' (W_ok 300 _ _ _ _ ?_)
  repeat' ((conv => whnf); first | refine zSlarr ?_ | refine bslP (by first | rfl | (simp [pureL, pureLL, AV.pure]; done) | fail) rfl ?_ | refine TakeC.full (by first | rfl | omega | (simp; done) | (simp; omega) | fail) ?_ | refine zBs ?_ | refine zBn ?_ | refine zBv rfl rfl ?_ | refine zN ?_ | refine zC ?_ | refine zC4 ?_ | refine zOr16 ?_ | refine zC1 ?_ | refine zByte ?_ | refine zMaxL ?_ | refine zMaxR ?_ | refine zMinL ?_ | refine zMinR ?_ | refine zShr ?_ | refine zC8 ?_ | refine zQ ?_ | refine zR ?_ | refine zS ?_ | refine zA ?_ | refine zM ?_ | refine xr rfl ?_ | refine ai rfl ?_ | refine condT ?_ | refine condF ?_ | refine condG1 ?_ | refine condG0 ?_ | refine cD ?_ | refine dD ?_ | refine cB ?_ | refine dB ?_ | refine cN ?_ | refine dN ?_ | refine cV ?_ | refine dV ?_ | refine cE ?_ | refine dE ?_ | refine condX0 ?_ | refine condX1 ?_ | refine condNot ?_ | refine condAnd ?_ | refine condOr ?_ | refine aO ?_ | refine aB ?_ | refine aR ?_ | refine aR ?_ (by simp; omega) | refine xr (by assumption) ?_ | refine ai (by assumption) ?_ | refine kZ [(83, _, _)] ⟨rfl, pz trivial⟩ (ej) ?_ | refine condD (fun h => ?_) (fun h => ?_) | refine condB (fun h => ?_) (fun h => ?_) | refine condN (fun h => ?_) (fun h => ?_) | refine condE (fun h => ?_) (fun h => ?_) | refine condV (fun h => ?_) (fun h => ?_))
  (first | refine ev_fin (And.intro (by first | rfl | (simp [AV.pure, pureL]; done) | fail) ?_) | refine ev_fin0 (And.intro (by first | rfl | (simp [AV.pure, pureL]; done) | fail) ?_)); rfl
theorem addr_loop3 (x : Nat) (t3 t2 t1 t0 R : List UInt8) (hx : x < 4294967296) (n3 : Gives G 246 [.int .i64 (x / 16777216 % 256 : Nat)] [] ⟨.str t3, []⟩) (n2 : Gives G 246 [.int .i64 (x / 65536 % 256 : Nat)] [] ⟨.str t2, []⟩) (n1 : Gives G 246 [.int .i64 (x / 256 % 256 : Nat)] [] ⟨.str t1, []⟩) (n0 : Gives G 246 [.int .i64 (x / 1 % 256 : Nat)] [] ⟨.str t0, []⟩) (ej : Gives G 247 [.sl 1 [[.str t3], [.str t2], [.str t1], [.str t0]], .str [46]] [] ⟨.str R, []⟩) (T : List (Nat × AV)) (H : Heap) (c g : Nat) :
   Ev G ⟨f227x7LH, ⟨(5, .int .i64 3) :: (3, .ref 67 g 0) :: (0, .int .u32 (x : Int)) :: T, (67, some (g, .cells [.str t3, .str t2, .str t1, .str []])) :: H, c⟩, [.t 2], 0⟩ ⟨.str R, []⟩ := by
  refine ev_loop' (W_ok 300 _ _ _ _ ?_)
  repeat' ((conv => whnf); first | refine zShrC 1 ?_ (by rfl) (by omega) (by omega) | refine zAnd255 ?_ (by omega) | refine bslP (by first | rfl | (simp [pureL, pureLL, AV.pure]; done) | fail) rfl ?_ | refine TakeC.full (by first | rfl | omega | (simp; done) | (simp; omega) | fail) ?_ | refine zBs ?_ | refine zBn ?_ | refine zBv rfl rfl ?_ | refine zN ?_ | refine zC ?_ | refine zC4 ?_ | refine zOr16 ?_ | refine zC1 ?_ | refine zByte ?_ | refine zMaxL ?_ | refine zMaxR ?_ | refine zMinL ?_ | refine zMinR ?_ | refine zShr ?_ | refine zC8 ?_ | refine zQ ?_ | refine zR ?_ | refine zS ?_ | refine zA ?_ | refine zM ?_ | refine xr rfl ?_ | refine ai rfl ?_ | refine condT ?_ | refine condF ?_ | refine condG1 ?_ | refine condG0 ?_ | refine cD ?_ | refine dD ?_ | refine cB ?_ | refine dB ?_ | refine cN ?_ | refine dN ?_ | refine cV ?_ | refine dV ?_ | refine cE ?_ | refine dE ?_ | refine condX0 ?_ | refine condX1 ?_ | refine condNot ?_ | refine condAnd ?_ | refine condOr ?_ | refine aO ?_ | refine aB ?_ | refine aR ?_ | refine aR ?_ (by simp; omega) | refine xr (by assumption) ?_ | refine ai (by assumption) ?_ | refine kV (n0) ?_ | refine condD (fun h => ?_) (fun h => ?_) | refine condB (fun h => ?_) (fun h => ?_) | refine condN (fun h => ?_) (fun h => ?_) | refine condE (fun h => ?_) (fun h => ?_) | refine condV (fun h => ?_) (fun h => ?_))
  refine ev_keep [5, 3, 0] [67] ?_
  exact addr_loop4 x t3 t2 t1 t0 R hx n3 n2 n1 n0 ej _ _ _ _
theorem addr_loop2 (x : Nat) (t3 t2 t1 t0 R : List UInt8) (hx : x < 4294967296) (n3 : Gives G 246 [.int .i64 (x / 16777216 % 256 : Nat)] [] ⟨.str t3, []⟩) (n2 : Gives G 246 [.int .i64 (x / 65536 % 256 : Nat)] [] ⟨.str t2, []⟩) (n1 : Gives G 246 [.int .i64 (x / 256 % 256 : Nat)] [] ⟨.str t1, []⟩) (n0 : Gives G 246 [.int .i64 (x / 1 % 256 : Nat)] [] ⟨.str t0, []⟩) (ej : Gives G 247 [.sl 1 [[.str t3], [.str t2], [.str t1], [.str t0]], .str [46]] [] ⟨.str R, []⟩) (T : List (Nat × AV)) (H : Heap) (c g : Nat) :
   Ev G ⟨f227x7LH, ⟨(5, .int .i64 2) :: (3, .ref 67 g 0) :: (0, .int .u32 (x : Int)) :: T, (67, some (g, .cells [.str t3, .str t2, .str [], .str []])) :: H, c⟩, [.t 2], 0⟩ ⟨.str R, []⟩ := by
  refine ev_loop' (W_ok 300 _ _ _ _ ?_)
  repeat' ((conv => whnf); first | refine zShrC 256 ?_ (by rfl) (by omega) (by omega) | refine zAnd255 ?_ (by omega) | refine bslP (by first | rfl | (simp [pureL, pureLL, AV.pure]; done) | fail) rfl ?_ | refine TakeC.full (by first | rfl | omega | (simp; done) | (simp; omega) | fail) ?_ | refine zBs ?_ | refine zBn ?_ | refine zBv rfl rfl ?_ | refine zN ?_ | refine zC ?_ | refine zC4 ?_ | refine zOr16 ?_ | refine zC1 ?_ | refine zByte ?_ | refine zMaxL ?_ | refine zMaxR ?_ | refine zMinL ?_ | refine zMinR ?_ | refine zShr ?_ | refine zC8 ?_ | refine zQ ?_ | refine zR ?_ | refine zS ?_ | refine zA ?_ | refine zM ?_ | refine xr rfl ?_ | refine ai rfl ?_ | refine condT ?_ | refine condF ?_ | refine condG1 ?_ | refine condG0 ?_ | refine cD ?_ | refine dD ?_ | refine cB ?_ | refine dB ?_ | refine cN ?_ | refine dN ?_ | refine cV ?_ | refine dV ?_ | refine cE ?_ | refine dE ?_ | refine condX0 ?_ | refine condX1 ?_ | refine condNot ?_ | refine condAnd ?_ | refine condOr ?_ | refine aO ?_ | refine aB ?_ | refine aR ?_ | refine aR ?_ (by simp; omega) | refine xr (by assumption) ?_ | refine ai (by assumption) ?_ | refine kV (n1) ?_ | refine condD (fun h => ?_) (fun h => ?_) | refine condB (fun h => ?_) (fun h => ?_) | refine condN (fun h => ?_) (fun h => ?_) | refine condE (fun h => ?_) (fun h => ?_) | refine condV (fun h => ?_) (fun h => ?_))
  refine ev_keep [5, 3, 0] [67] ?_
  exact addr_loop3 x t3 t2 t1 t0 R hx n3 n2 n1 n0 ej _ _ _ _
theorem addr_loop1 (x : Nat) (t3 t2 t1 t0 R : List UInt8) (hx : x < 4294967296) (n3 : Gives G 246 [.int .i64 (x / 16777216 % 256 : Nat)] [] ⟨.str t3, []⟩) (n2 : Gives G 246 [.int .i64 (x / 65536 % 256 : Nat)] [] ⟨.str t2, []⟩) (n1 : Gives G 246 [.int .i64 (x / 256 % 256 : Nat)] [] ⟨.str t1, []⟩) (n0 : Gives G 246 [.int .i64 (x / 1 % 256 : Nat)] [] ⟨.str t0, []⟩) (ej : Gives G 247 [.sl 1 [[.str t3], [.str t2], [.str t1], [.str t0]], .str [46]] [] ⟨.str R, []⟩) (T : List (Nat × AV)) (H : Heap) (c g : Nat) :
   Ev G ⟨f227x7LH, ⟨(5, .int .i64 1) :: (3, .ref 67 g 0) :: (0, .int .u32 (x : Int)) :: T, (67, some (g, .cells [.str t3, .str [], .str [], .str []])) :: H, c⟩, [.t 2], 0⟩ ⟨.str R, []⟩ := by
  refine ev_loop' (W_ok 300 _ _ _ _ ?_)
  repeat' ((conv => whnf); first | refine zShrC 65536 ?_ (by rfl) (by omega) (by omega) | refine zAnd255 ?_ (by omega) | refine bslP (by first | rfl | (simp [pureL, pureLL, AV.pure]; done) | fail) rfl ?_ | refine TakeC.full (by first | rfl | omega | (simp; done) | (simp; omega) | fail) ?_ | refine zBs ?_ | refine zBn ?_ | refine zBv rfl rfl ?_ | refine zN ?_ | refine zC ?_ | refine zC4 ?_ | refine zOr16 ?_ | refine zC1 ?_ | refine zByte ?_ | refine zMaxL ?_ | refine zMaxR ?_ | refine zMinL ?_ | refine zMinR ?_ | refine zShr ?_ | refine zC8 ?_ | refine zQ ?_ | refine zR ?_ | refine zS ?_ | refine zA ?_ | refine zM ?_ | refine xr rfl ?_ | refine ai rfl ?_ | refine condT ?_ | refine condF ?_ | refine condG1 ?_ | refine condG0 ?_ | refine cD ?_ | refine dD ?_ | refine cB ?_ | refine dB ?_ | refine cN ?_ | refine dN ?_ | refine cV ?_ | refine dV ?_ | refine cE ?_ | refine dE ?_ | refine condX0 ?_ | refine condX1 ?_ | refine condNot ?_ | refine condAnd ?_ | refine condOr ?_ | refine aO ?_ | refine aB ?_ | refine aR ?_ | refine aR ?_ (by simp; omega) | refine xr (by assumption) ?_ | refine ai (by assumption) ?_ | refine kV (n2) ?_ | refine condD (fun h => ?_) (fun h => ?_) | refine condB (fun h => ?_) (fun h => ?_) | refine condN (fun h => ?_) (fun h => ?_) | refine condE (fun h => ?_) (fun h => ?_) | refine condV (fun h => ?_) (fun h => ?_))
  refine ev_keep [5, 3, 0] [67] ?_
  exact addr_loop2 x t3 t2 t1 t0 R hx n3 n2 n1 n0 ej _ _ _ _
theorem addr_loop0 (x : Nat) (t3 t2 t1 t0 R : List UInt8) (hx : x < 4294967296) (n3 : Gives G 246 [.int .i64 (x / 16777216 % 256 : Nat)] [] ⟨.str t3, []⟩) (n2 : Gives G 246 [.int .i64 (x / 65536 % 256 : Nat)] [] ⟨.str t2, []⟩) (n1 : Gives G 246 [.int .i64 (x / 256 % 256 : Nat)] [] ⟨.str t1, []⟩) (n0 : Gives G 246 [.int .i64 (x / 1 % 256 : Nat)] [] ⟨.str t0, []⟩) (ej : Gives G 247 [.sl 1 [[.str t3], [.str t2], [.str t1], [.str t0]], .str [46]] [] ⟨.str R, []⟩) (T : List (Nat × AV)) (H : Heap) (c g : Nat) :
   Ev G ⟨f227x7LH, ⟨(5, .int .i64 0) :: (3, .ref 67 g 0) :: (0, .int .u32 (x : Int)) :: T, (67, some (g, .cells [.str [], .str [], .str [], .str []])) :: H, c⟩, [.t 2], 0⟩ ⟨.str R, []⟩ := by
  refine ev_loop' (W_ok 300 _ _ _ _ ?_)
  repeat' ((conv => whnf); first | refine zShrC 16777216 ?_ (by rfl) (by omega) (by omega) | refine zAnd255 ?_ (by omega) | refine bslP (by first | rfl | (simp [pureL, pureLL, AV.pure]; done) | fail) rfl ?_ | refine TakeC.full (by first | rfl | omega | (simp; done) | (simp; omega) | fail) ?_ | refine zBs ?_ | refine zBn ?_ | refine zBv rfl rfl ?_ | refine zN ?_ | refine zC ?_ | refine zC4 ?_ | refine zOr16 ?_ | refine zC1 ?_ | refine zByte ?_ | refine zMaxL ?_ | refine zMaxR ?_ | refine zMinL ?_ | refine zMinR ?_ | refine zShr ?_ | refine zC8 ?_ | refine zQ ?_ | refine zR ?_ | refine zS ?_ | refine zA ?_ | refine zM ?_ | refine xr rfl ?_ | refine ai rfl ?_ | refine condT ?_ | refine condF ?_ | refine condG1 ?_ | refine condG0 ?_ | refine cD ?_ | refine dD ?_ | refine cB ?_ | refine dB ?_ | refine cN ?_ | refine dN ?_ | refine cV ?_ | refine dV ?_ | refine cE ?_ | refine dE ?_ | refine condX0 ?_ | refine condX1 ?_ | refine condNot ?_ | refine condAnd ?_ | refine condOr ?_ | refine aO ?_ | refine aB ?_ | refine aR ?_ | refine aR ?_ (by simp; omega) | refine xr (by assumption) ?_ | refine ai (by assumption) ?_ | refine kV (n3) ?_ | refine condD (fun h => ?_) (fun h => ?_) | refine condB (fun h => ?_) (fun h => ?_) | refine condN (fun h => ?_) (fun h => ?_) | refine condE (fun h => ?_) (fun h => ?_) | refine condV (fun h => ?_) (fun h => ?_))
  refine ev_keep [5, 3, 0] [67] ?_
  exact addr_loop1 x t3 t2 t1 t0 R hx n3 n2 n1 n0 ej _ _ _ _
theorem addr_gives227 (x : Nat) (hx : x < 4294967296) : Gives G 227 [.int .u32 (x : Int)] [] ⟨.str (dots x), []⟩ := by
  have n3 := itoa_gives246 (n := (x / 16777216 : Nat)) (by omega) (by omega)
  have n2 := itoa_gives246 (n := (x / 65536 % 256 : Nat)) (by omega) (by omega)
  have n1 := itoa_gives246 (n := (x / 256 % 256 : Nat)) (by omega) (by omega)
  have n0 := itoa_gives246 (n := (x % 256 : Nat)) (by omega) (by omega)
  have l3 := itoa_len (n := x / 16777216) (by omega)
  have l2 := itoa_len (n := x / 65536 % 256) (by omega)
  have l1 := itoa_len (n := x / 256 % 256) (by omega)
  have l0 := itoa_len (n := x % 256) (by omega)
  have ej := join_gives247 _ _ _ _ ⟨l3.2, l2.2, l1.2, l0.2⟩
  have n3 : Gives G 246 [.int .i64 (x / 16777216 % 256 : Nat)] [] ⟨.str (itoaK (x / 16777216 : Nat)), []⟩ := by rw [show x / 16777216 % 256 = x / 16777216 by omega]; exact n3
  have n0 : Gives G 246 [.int .i64 (x / 1 % 256 : Nat)] [] ⟨.str (itoaK (x % 256 : Nat)), []⟩ := by rw [Nat.div_one]; exact n0
  refine gives_code (F := f227) rfl rfl (W_ok 300 _ _ _ _ ?_)
  repeat' ((conv => whnf); first | refine bslP (by first | rfl | (simp [pureL, pureLL, AV.pure]; done) | fail) rfl ?_ | refine TakeC.full (by first | rfl | omega | (simp; done) | (simp; omega) | fail) ?_ | refine zBs ?_ | refine zBn ?_ | refine zBv rfl rfl ?_ | refine zN ?_ | refine zC ?_ | refine zC4 ?_ | refine zOr16 ?_ | refine zC1 ?_ | refine zByte ?_ | refine zMaxL ?_ | refine zMaxR ?_ | refine zMinL ?_ | refine zMinR ?_ | refine zShr ?_ | refine zC8 ?_ | refine zQ ?_ | refine zR ?_ | refine zS ?_ | refine zA ?_ | refine zM ?_ | refine xr rfl ?_ | refine ai rfl ?_ | refine condT ?_ | refine condF ?_ | refine condG1 ?_ | refine condG0 ?_ | refine cD ?_ | refine dD ?_ | refine cB ?_ | refine dB ?_ | refine cN ?_ | refine dN ?_ | refine cV ?_ | refine dV ?_ | refine cE ?_ | refine dE ?_ | refine condX0 ?_ | refine condX1 ?_ | refine condNot ?_ | refine condAnd ?_ | refine condOr ?_ | refine aO ?_ | refine aB ?_ | refine aR ?_ | refine aR ?_ (by simp; omega) | refine xr (by assumption) ?_ | refine ai (by assumption) ?_ | refine condD (fun h => ?_) (fun h => ?_) | refine condB (fun h => ?_) (fun h => ?_) | refine condN (fun h => ?_) (fun h => ?_) | refine condE (fun h => ?_) (fun h => ?_) | refine condV (fun h => ?_) (fun h => ?_))
  refine ev_keep [5, 3, 0] [67] ?_
  exact addr_loop0 x _ _ _ _ _ hx n3 n2 n1 n0 ej _ _ _ _
end Go.AM.IR
set_option maxHeartbeats 4000000
set_option maxRecDepth 20000
namespace Go.AM.IR
section
variable {kv : AV → Prop} {a b : Int}
theorem zMul32 (h : kv (.int .u32 (a * b))) (h1 : 0 ≤ a * b := by omega) (h2 : a * b ≤ 4294967295 := by omega) : ∃ v, binA .mul (.int .u32 a) (.int .u32 b) = some v ∧ kv v :=
  ⟨_, by show some (AV.int .u32 (IntKind.wrap .u32 (a * b))) = _; rw [wrap_u32 h1 h2], h⟩
theorem zAdd32 (h : kv (.int .u32 (a + b))) (h1 : 0 ≤ a + b := by omega) (h2 : a + b ≤ 4294967295 := by omega) : ∃ v, binA .add (.int .u32 a) (.int .u32 b) = some v ∧ kv v :=
  ⟨_, by show some (AV.int .u32 (IntKind.wrap .u32 (a + b))) = _; rw [wrap_u32 h1 h2], h⟩
end
def adrR (p : Int × Int) : Ret := ⟨.tup [.int .u32 p.1, .int .i64 p.2], []⟩
theorem addr_loop251 (s : List UInt8) (hs : s.length < 2 ^ 40) : ∀ (f i : Nat) (hfi : i + f = 4) (x a : Nat) (hx : x < 256 ^ i) (ha : a ≤ s.length) (I X A : Int) (hI : I = i) (hX : X = x) (hA : A = a) (T : List (Nat × AV)) (H : Heap) (c : Nat),
   Ev G ⟨f251x16LH, ⟨(9, .int .i64 I) :: (4, .int .u32 X) :: (0, .str s) :: (5, .int .i64 A) :: T, H, c⟩, [.t 2, .t 3], 0⟩ (adrR (adrN s f i x a))
  | 0, i, hfi, x, a, hx, ha, I, X, A, hI, hX, hA, T, H, c => by
    refine ev_loop' (W_ok 300 _ _ _ _ ?_)
    repeat' ((conv => whnf); first | refine bslP (by first | rfl | (simp [pureL, pureLL, AV.pure]; done) | fail) rfl ?_ | refine TakeC.full (by first | rfl | omega | (simp; done) | (simp; omega) | fail) ?_ | refine zBs ?_ | refine zBn ?_ | refine zBv rfl rfl ?_ | refine zN ?_ | refine zC ?_ | refine zC4 ?_ | refine zOr16 ?_ | refine zC1 ?_ | refine zByte ?_ | refine zMaxL ?_ | refine zMaxR ?_ | refine zMinL ?_ | refine zMinR ?_ | refine zShr ?_ | refine zC8 ?_ | refine zQ ?_ | refine zR ?_ | refine zS ?_ | refine zA ?_ | refine zM ?_ | refine xr rfl ?_ | refine ai rfl ?_ | refine condT ?_ | refine condF ?_ | refine condG1 ?_ | refine condG0 ?_ | refine cD ?_ | refine dD ?_ | refine cB ?_ | refine dB ?_ | refine cN ?_ | refine dN ?_ | refine cV ?_ | refine dV ?_ | refine cE ?_ | refine dE ?_ | refine condX0 ?_ | refine condX1 ?_ | refine condNot ?_ | refine condAnd ?_ | refine condOr ?_ | refine aO ?_ | refine aB ?_ | refine aR ?_ | refine aR ?_ (by simp; omega) | refine xr (by assumption) ?_ | refine ai (by assumption) ?_ | refine condD (fun h => ?_) (fun h => ?_) | refine condB (fun h => ?_) (fun h => ?_) | refine condN (fun h => ?_) (fun h => ?_) | refine condE (fun h => ?_) (fun h => ?_) | refine condV (fun h => ?_) (fun h => ?_))
    (first | refine ev_fin (And.intro (by first | rfl | (simp [AV.pure, pureL]; done) | fail) ?_) | refine ev_fin0 (And.intro (by first | rfl | (simp [AV.pure, pureL]; done) | fail) ?_))
    rw [hX, hA]; rfl
  | f + 1, i, hfi, x, a, hx, ha, I, X, A, hI, hX, hA, T, H, c => by
    have hx4 : x < 16777216 := Nat.lt_of_lt_of_le hx (Nat.le_trans (Nat.pow_le_pow_right (by omega) (show i ≤ 3 by omega)) (by omega))
    by_cases hi : 0 < i
    · by_cases hal : a < s.length
      · obtain ⟨b, hsb⟩ : ∃ b, s[a]? = some b := ⟨s[a], List.getElem?_eq_getElem hal⟩
        have hb : s[A.toNat]? = some b := by rw [show A.toNat = a by omega]; exact hsb
        by_cases hz : b = 46
        · subst hz
          have hn := number_gives253 s (a + 1) 255 (A + 1) (by omega) hs (by omega) (by omega)
          rcases ref_miss (s := s) (a := a + 1) (most := 255) with e | ⟨k, hk, e, hd, h1, hl⟩
          · rw [show adrN s (f + 1) i x a = (0, -1) from by rw [adrN, if_neg (by simp [hsb])]; simp only [hi, if_true, e]; rw [if_pos (by decide)]]
            rw [e] at hn
            refine ev_loop' (W_ok 300 _ _ _ _ ?_)
            repeat' ((conv => whnf); first | refine zIstr (b := 46) ?_ hb (by omega) | refine bslP (by first | rfl | (simp [pureL, pureLL, AV.pure]; done) | fail) rfl ?_ | refine TakeC.full (by first | rfl | omega | (simp; done) | (simp; omega) | fail) ?_ | refine zBs ?_ | refine zBn ?_ | refine zBv rfl rfl ?_ | refine zN ?_ | refine zC ?_ | refine zC4 ?_ | refine zOr16 ?_ | refine zC1 ?_ | refine zByte ?_ | refine zMaxL ?_ | refine zMaxR ?_ | refine zMinL ?_ | refine zMinR ?_ | refine zShr ?_ | refine zC8 ?_ | refine zQ ?_ | refine zR ?_ | refine zS ?_ | refine zA ?_ | refine zM ?_ | refine xr rfl ?_ | refine ai rfl ?_ | refine condT ?_ | refine condF ?_ | refine condG1 ?_ | refine condG0 ?_ | refine cD ?_ | refine dD ?_ | refine cB ?_ | refine dB ?_ | refine cN ?_ | refine dN ?_ | refine cV ?_ | refine dV ?_ | refine cE ?_ | refine dE ?_ | refine condX0 ?_ | refine condX1 ?_ | refine condNot ?_ | refine condAnd ?_ | refine condOr ?_ | refine aO ?_ | refine aB ?_ | refine aR ?_ | refine aR ?_ (by simp; omega) | refine xr (by assumption) ?_ | refine ai (by assumption) ?_ | refine kV (hn) ?_ | refine condD (fun h => ?_) (fun h => ?_) | refine condB (fun h => ?_) (fun h => ?_) | refine condN (fun h => ?_) (fun h => ?_) | refine condE (fun h => ?_) (fun h => ?_) | refine condV (fun h => ?_) (fun h => ?_))
            (first | refine ev_fin (And.intro (by first | rfl | (simp [AV.pure, pureL]; done) | fail) ?_) | refine ev_fin0 (And.intro (by first | rfl | (simp [AV.pure, pureL]; done) | fail) ?_)); rfl
          · rw [show adrN s (f + 1) i x a = adrN s f (i + 1) (x * 256 + k) (a + 1 + (itoaK k).length) from by rw [adrN, if_neg (by simp [hsb])]; simp only [hi, if_true, e]; rw [if_neg (by first | omega | (simp only; omega))]; rfl]
            rw [e] at hn
            refine ev_loop' (W_ok 300 _ _ _ _ ?_)
            repeat' ((conv => whnf); first | refine zIstr (b := 46) ?_ hb (by omega) | refine zMul32 ?_ | refine zAdd32 ?_ | refine bslP (by first | rfl | (simp [pureL, pureLL, AV.pure]; done) | fail) rfl ?_ | refine TakeC.full (by first | rfl | omega | (simp; done) | (simp; omega) | fail) ?_ | refine zBs ?_ | refine zBn ?_ | refine zBv rfl rfl ?_ | refine zN ?_ | refine zC ?_ | refine zC4 ?_ | refine zOr16 ?_ | refine zC1 ?_ | refine zByte ?_ | refine zMaxL ?_ | refine zMaxR ?_ | refine zMinL ?_ | refine zMinR ?_ | refine zShr ?_ | refine zC8 ?_ | refine zQ ?_ | refine zR ?_ | refine zS ?_ | refine zA ?_ | refine zM ?_ | refine xr rfl ?_ | refine ai rfl ?_ | refine condT ?_ | refine condF ?_ | refine condG1 ?_ | refine condG0 ?_ | refine cD ?_ | refine dD ?_ | refine cB ?_ | refine dB ?_ | refine cN ?_ | refine dN ?_ | refine cV ?_ | refine dV ?_ | refine cE ?_ | refine dE ?_ | refine condX0 ?_ | refine condX1 ?_ | refine condNot ?_ | refine condAnd ?_ | refine condOr ?_ | refine aO ?_ | refine aB ?_ | refine aR ?_ | refine aR ?_ (by simp; omega) | refine xr (by assumption) ?_ | refine ai (by assumption) ?_ | refine kV (hn) ?_ | refine condD (fun h => ?_) (fun h => ?_) | refine condB (fun h => ?_) (fun h => ?_) | refine condN (fun h => ?_) (fun h => ?_) | refine condE (fun h => ?_) (fun h => ?_) | refine condV (fun h => ?_) (fun h => ?_))
            refine ev_keep [9, 4, 0, 5] [] ?_
            exact addr_loop251 s hs f (i + 1) (by omega) (x * 256 + k) (a + 1 + (itoaK k).length) (by rw [Nat.pow_succ]; omega) hl (I + 1) (X * 256 + (k : Nat)) ((a + 1 + (itoaK k).length : Nat) : Int) (by omega) (by omega) rfl _ _ _
        · have hz2 : ¬ (b.toNat : Int) = 46 := by
            intro e; apply hz; apply UInt8.toNat_inj.1
            show b.toNat = 46
            omega
          rw [show adrN s (f + 1) i x a = (0, -1) from by rw [adrN, if_pos ⟨hi, by rw [hsb]; simpa using hz⟩]]
          refine ev_loop' (W_ok 300 _ _ _ _ ?_)
          repeat' ((conv => whnf); first | refine zIstr (b := b) ?_ hb (by omega) | refine bslP (by first | rfl | (simp [pureL, pureLL, AV.pure]; done) | fail) rfl ?_ | refine TakeC.full (by first | rfl | omega | (simp; done) | (simp; omega) | fail) ?_ | refine zBs ?_ | refine zBn ?_ | refine zBv rfl rfl ?_ | refine zN ?_ | refine zC ?_ | refine zC4 ?_ | refine zOr16 ?_ | refine zC1 ?_ | refine zByte ?_ | refine zMaxL ?_ | refine zMaxR ?_ | refine zMinL ?_ | refine zMinR ?_ | refine zShr ?_ | refine zC8 ?_ | refine zQ ?_ | refine zR ?_ | refine zS ?_ | refine zA ?_ | refine zM ?_ | refine xr rfl ?_ | refine ai rfl ?_ | refine condT ?_ | refine condF ?_ | refine condG1 ?_ | refine condG0 ?_ | refine cD ?_ | refine dD ?_ | refine cB ?_ | refine dB ?_ | refine cN ?_ | refine dN ?_ | refine cV ?_ | refine dV ?_ | refine cE ?_ | refine dE ?_ | refine condX0 ?_ | refine condX1 ?_ | refine condNot ?_ | refine condAnd ?_ | refine condOr ?_ | refine aO ?_ | refine aB ?_ | refine aR ?_ | refine aR ?_ (by simp; omega) | refine xr (by assumption) ?_ | refine ai (by assumption) ?_ | refine condD (fun h => ?_) (fun h => ?_) | refine condB (fun h => ?_) (fun h => ?_) | refine condN (fun h => ?_) (fun h => ?_) | refine condE (fun h => ?_) (fun h => ?_) | refine condV (fun h => ?_) (fun h => ?_))
          (first | refine ev_fin (And.intro (by first | rfl | (simp [AV.pure, pureL]; done) | fail) ?_) | refine ev_fin0 (And.intro (by first | rfl | (simp [AV.pure, pureL]; done) | fail) ?_)); rfl
      · have hsn : s[a]? = none := List.getElem?_eq_none (by omega)
        rw [show adrN s (f + 1) i x a = (0, -1) from by rw [adrN, if_pos ⟨hi, by rw [hsn]; simp⟩]]
        refine ev_loop' (W_ok 300 _ _ _ _ ?_)
        repeat' ((conv => whnf); first | refine bslP (by first | rfl | (simp [pureL, pureLL, AV.pure]; done) | fail) rfl ?_ | refine TakeC.full (by first | rfl | omega | (simp; done) | (simp; omega) | fail) ?_ | refine zBs ?_ | refine zBn ?_ | refine zBv rfl rfl ?_ | refine zN ?_ | refine zC ?_ | refine zC4 ?_ | refine zOr16 ?_ | refine zC1 ?_ | refine zByte ?_ | refine zMaxL ?_ | refine zMaxR ?_ | refine zMinL ?_ | refine zMinR ?_ | refine zShr ?_ | refine zC8 ?_ | refine zQ ?_ | refine zR ?_ | refine zS ?_ | refine zA ?_ | refine zM ?_ | refine xr rfl ?_ | refine ai rfl ?_ | refine condT ?_ | refine condF ?_ | refine condG1 ?_ | refine condG0 ?_ | refine cD ?_ | refine dD ?_ | refine cB ?_ | refine dB ?_ | refine cN ?_ | refine dN ?_ | refine cV ?_ | refine dV ?_ | refine cE ?_ | refine dE ?_ | refine condX0 ?_ | refine condX1 ?_ | refine condNot ?_ | refine condAnd ?_ | refine condOr ?_ | refine aO ?_ | refine aB ?_ | refine aR ?_ | refine aR ?_ (by simp; omega) | refine xr (by assumption) ?_ | refine ai (by assumption) ?_ | refine condD (fun h => ?_) (fun h => ?_) | refine condB (fun h => ?_) (fun h => ?_) | refine condN (fun h => ?_) (fun h => ?_) | refine condE (fun h => ?_) (fun h => ?_) | refine condV (fun h => ?_) (fun h => ?_))
        (first | refine ev_fin (And.intro (by first | rfl | (simp [AV.pure, pureL]; done) | fail) ?_) | refine ev_fin0 (And.intro (by first | rfl | (simp [AV.pure, pureL]; done) | fail) ?_)); rfl
    · have hn := number_gives253 s a 255 A hA hs (by omega) ha
      rcases ref_miss (s := s) (a := a) (most := 255) with e | ⟨k, hk, e, hd, h1, hl⟩
      · rw [show adrN s (f + 1) i x a = (0, -1) from by rw [adrN, if_neg (by simp [hi])]; simp only [hi, if_false, e]; rw [if_pos (by decide)]]
        rw [e] at hn
        refine ev_loop' (W_ok 300 _ _ _ _ ?_)
        repeat' ((conv => whnf); first | refine bslP (by first | rfl | (simp [pureL, pureLL, AV.pure]; done) | fail) rfl ?_ | refine TakeC.full (by first | rfl | omega | (simp; done) | (simp; omega) | fail) ?_ | refine zBs ?_ | refine zBn ?_ | refine zBv rfl rfl ?_ | refine zN ?_ | refine zC ?_ | refine zC4 ?_ | refine zOr16 ?_ | refine zC1 ?_ | refine zByte ?_ | refine zMaxL ?_ | refine zMaxR ?_ | refine zMinL ?_ | refine zMinR ?_ | refine zShr ?_ | refine zC8 ?_ | refine zQ ?_ | refine zR ?_ | refine zS ?_ | refine zA ?_ | refine zM ?_ | refine xr rfl ?_ | refine ai rfl ?_ | refine condT ?_ | refine condF ?_ | refine condG1 ?_ | refine condG0 ?_ | refine cD ?_ | refine dD ?_ | refine cB ?_ | refine dB ?_ | refine cN ?_ | refine dN ?_ | refine cV ?_ | refine dV ?_ | refine cE ?_ | refine dE ?_ | refine condX0 ?_ | refine condX1 ?_ | refine condNot ?_ | refine condAnd ?_ | refine condOr ?_ | refine aO ?_ | refine aB ?_ | refine aR ?_ | refine aR ?_ (by simp; omega) | refine xr (by assumption) ?_ | refine ai (by assumption) ?_ | refine kV (hn) ?_ | refine condD (fun h => ?_) (fun h => ?_) | refine condB (fun h => ?_) (fun h => ?_) | refine condN (fun h => ?_) (fun h => ?_) | refine condE (fun h => ?_) (fun h => ?_) | refine condV (fun h => ?_) (fun h => ?_))
        (first | refine ev_fin (And.intro (by first | rfl | (simp [AV.pure, pureL]; done) | fail) ?_) | refine ev_fin0 (And.intro (by first | rfl | (simp [AV.pure, pureL]; done) | fail) ?_)); rfl
      · rw [show adrN s (f + 1) i x a = adrN s f (i + 1) (x * 256 + k) (a + (itoaK k).length) from by rw [adrN, if_neg (by simp [hi])]; simp only [hi, if_false, e]; rw [if_neg (by first | omega | (simp only; omega))]; rfl]
        rw [e] at hn
        refine ev_loop' (W_ok 300 _ _ _ _ ?_)
        repeat' ((conv => whnf); first | refine zMul32 ?_ | refine zAdd32 ?_ | refine bslP (by first | rfl | (simp [pureL, pureLL, AV.pure]; done) | fail) rfl ?_ | refine TakeC.full (by first | rfl | omega | (simp; done) | (simp; omega) | fail) ?_ | refine zBs ?_ | refine zBn ?_ | refine zBv rfl rfl ?_ | refine zN ?_ | refine zC ?_ | refine zC4 ?_ | refine zOr16 ?_ | refine zC1 ?_ | refine zByte ?_ | refine zMaxL ?_ | refine zMaxR ?_ | refine zMinL ?_ | refine zMinR ?_ | refine zShr ?_ | refine zC8 ?_ | refine zQ ?_ | refine zR ?_ | refine zS ?_ | refine zA ?_ | refine zM ?_ | refine xr rfl ?_ | refine ai rfl ?_ | refine condT ?_ | refine condF ?_ | refine condG1 ?_ | refine condG0 ?_ | refine cD ?_ | refine dD ?_ | refine cB ?_ | refine dB ?_ | refine cN ?_ | refine dN ?_ | refine cV ?_ | refine dV ?_ | refine cE ?_ | refine dE ?_ | refine condX0 ?_ | refine condX1 ?_ | refine condNot ?_ | refine condAnd ?_ | refine condOr ?_ | refine aO ?_ | refine aB ?_ | refine aR ?_ | refine aR ?_ (by simp; omega) | refine xr (by assumption) ?_ | refine ai (by assumption) ?_ | refine kV (hn) ?_ | refine condD (fun h => ?_) (fun h => ?_) | refine condB (fun h => ?_) (fun h => ?_) | refine condN (fun h => ?_) (fun h => ?_) | refine condE (fun h => ?_) (fun h => ?_) | refine condV (fun h => ?_) (fun h => ?_))
        refine ev_keep [9, 4, 0, 5] [] ?_
        exact addr_loop251 s hs f (i + 1) (by omega) (x * 256 + k) (a + (itoaK k).length) (by rw [Nat.pow_succ]; omega) hl (I + 1) (X * 256 + (k : Nat)) ((a + (itoaK k).length : Nat) : Int) (by omega) (by omega) rfl _ _ _
theorem address_gives251 (s : List UInt8) (hs : s.length < 2 ^ 40) : Gives G 251 [.str s] [] (adrR (adrN s 4 0 0 0)) := by
  refine gives_code (F := f251) rfl rfl (W_ok 300 _ _ _ _ ?_)
  repeat' ((conv => whnf); first | refine bslP (by first | rfl | (simp [pureL, pureLL, AV.pure]; done) | fail) rfl ?_ | refine TakeC.full (by first | rfl | omega | (simp; done) | (simp; omega) | fail) ?_ | refine zBs ?_ | refine zBn ?_ | refine zBv rfl rfl ?_ | refine zN ?_ | refine zC ?_ | refine zC4 ?_ | refine zOr16 ?_ | refine zC1 ?_ | refine zByte ?_ | refine zMaxL ?_ | refine zMaxR ?_ | refine zMinL ?_ | refine zMinR ?_ | refine zShr ?_ | refine zC8 ?_ | refine zQ ?_ | refine zR ?_ | refine zS ?_ | refine zA ?_ | refine zM ?_ | refine xr rfl ?_ | refine ai rfl ?_ | refine condT ?_ | refine condF ?_ | refine condG1 ?_ | refine condG0 ?_ | refine cD ?_ | refine dD ?_ | refine cB ?_ | refine dB ?_ | refine cN ?_ | refine dN ?_ | refine cV ?_ | refine dV ?_ | refine cE ?_ | refine dE ?_ | refine condX0 ?_ | refine condX1 ?_ | refine condNot ?_ | refine condAnd ?_ | refine condOr ?_ | refine aO ?_ | refine aB ?_ | refine aR ?_ | refine aR ?_ (by simp; omega) | refine xr (by assumption) ?_ | refine ai (by assumption) ?_ | refine condD (fun h => ?_) (fun h => ?_) | refine condB (fun h => ?_) (fun h => ?_) | refine condN (fun h => ?_) (fun h => ?_) | refine condE (fun h => ?_) (fun h => ?_) | refine condV (fun h => ?_) (fun h => ?_))
  refine ev_keep [9, 4, 0, 5] [] ?_
  exact addr_loop251 s hs 4 0 rfl 0 0 (by simp) (by omega) 0 0 0 rfl rfl rfl _ _ _
end Go.AM.IR
set_option maxHeartbeats 4000000
set_option maxRecDepth 20000
namespace Go.AM.IR
def okA (p : Int × Int) : Ret := ⟨.tup [.int .u32 p.1, .int .i64 p.2], []⟩
def numV (s : List UInt8) : Int := match Lib.atoiAll s with
  | .ok v => v
  | .range => Lib.atoiSat s
  | _ => 0
def numB (most : Int) (s : List UInt8) : Bool := match Lib.atoiAll s with
  | .ok v => decide (0 ≤ v) && (decide (v ≤ most) && (itoaK v == s))
  | _ => false
theorem num_hit {k : Nat} {most : Int} (hk : k < 256) (hm : (k : Int) ≤ most) : numB most (itoaK k) = true ∧ numV (itoaK k) = k := by
  unfold numB numV
  rw [atoi_itoa hk]
  simp; omega
theorem num_back {most : Int} {s : List UInt8} (h : numB most s = true) : ∃ k : Nat, (k : Int) ≤ most ∧ s = itoaK k ∧ numV s = k := by
  unfold numB at h
  unfold numV
  cases hr : Lib.atoiAll s
  · rename_i v
    rw [hr] at h
    simp at h
    exact ⟨v.toNat, by omega, by rw [Int.toNat_of_nonneg h.1]; exact h.2.2.symm, by simp; omega⟩
  · rw [hr] at h; cases h
  · rw [hr] at h; cases h
def paL : List (List UInt8) → Nat → Int × Int
  | [], a => ((a : Int), 0)
  | w :: r, a => if numB 255 w = true then paL r (a * 256 + (numV w).toNat) else (0, 2)
def paP (s : List UInt8) : Int × Int := if (Lib.split s [46]).length = 4 then paL (Lib.split s [46]) 0 else (0, 2)
theorem not_dot {k : Nat} (hk : k < 256) (c : UInt8) (hc : dig c = false) : c ∉ itoaK k := fun h => by
  have := itoa_dig hk c h
  rw [hc] at this; cases this
theorem paP_hit {x : Nat} (hx : x < 4294967296) : paP (dots x) = ((x : Int), 0) := by
  have e : Lib.split (dots x) [46] = [itoaK (x / 16777216 : Nat), itoaK (x / 65536 % 256 : Nat), itoaK (x / 256 % 256 : Nat), itoaK (x % 256 : Nat)] := by
    unfold dots
    rw [split_hit 46 _ _ (not_dot (by omega) _ rfl), split_hit 46 _ _ (not_dot (by omega) _ rfl), split_hit 46 _ _ (not_dot (by omega) _ rfl), split_none 46 _ (not_dot (by omega) _ rfl)]
  unfold paP
  rw [e, if_pos (show [itoaK (x / 16777216 : Nat), itoaK (x / 65536 % 256 : Nat), itoaK (x / 256 % 256 : Nat), itoaK (x % 256 : Nat)].length = 4 from rfl)]
  have q3 := num_hit (k := x / 16777216) (most := 255) (by omega) (by omega)
  have q2 := num_hit (k := x / 65536 % 256) (most := 255) (by omega) (by omega)
  have q1 := num_hit (k := x / 256 % 256) (most := 255) (by omega) (by omega)
  have q0 := num_hit (k := x % 256) (most := 255) (by omega) (by omega)
  rw [paL, if_pos q3.1, paL, if_pos q2.1, paL, if_pos q1.1, paL, if_pos q0.1, paL, q3.2, q2.2, q1.2, q0.2]
  simp only [Int.toNat_natCast]
  refine Prod.ext ?_ rfl
  simp only; omega
theorem paL_all : ∀ (l : List (List UInt8)) (a : Nat), paL l a = (0, 2) ∨ ∃ ks : List Nat, (∀ k ∈ ks, k < 256) ∧ l = ks.map (fun k : Nat => itoaK (k : Int)) ∧ paL l a = (((ks.foldl (fun a k => a * 256 + k) a : Nat) : Int), 0)
  | [], a => .inr ⟨[], by simp, rfl, rfl⟩
  | w :: r, a => by
    by_cases h : numB 255 w = true
    · obtain ⟨k, hk, e, hv⟩ := num_back (most := 255) h
      rw [paL, if_pos h, hv, Int.toNat_natCast]
      rcases paL_all r (a * 256 + k) with q | ⟨ks, h1, h2, h3⟩
      · exact .inl q
      · exact .inr ⟨k :: ks, by intro j hj; rcases List.mem_cons.1 hj with rfl | hj; omega; exact h1 j hj, by rw [h2, e]; rfl, by rw [h3]; rfl⟩
    · left; rw [paL, if_neg h]
theorem paP_all (s : List UInt8) : paP s = (0, 2) ∨ ∃ x : Nat, x < 4294967296 ∧ s = dots x ∧ paP s = ((x : Int), 0) := by
  by_cases hl : (Lib.split s [46]).length = 4
  · unfold paP
    rw [if_pos hl]
    rcases paL_all (Lib.split s [46]) 0 with q | ⟨ks, h1, h2, h3⟩
    · exact .inl q
    · right
      rw [h3]
      have hj := join_split 46 s.length s (Nat.le_refl _)
      rw [h2] at hl hj
      match ks, h1, hl, hj with
      | [k0, k1, k2, k3], h1, _, hj =>
        have b0 := h1 k0 (by simp)
        have b1 := h1 k1 (by simp)
        have b2 := h1 k2 (by simp)
        have b3 := h1 k3 (by simp)
        have hx : (((0 * 256 + k0) * 256 + k1) * 256 + k2) * 256 + k3 < 4294967296 := by omega
        refine ⟨_, hx, ?_, rfl⟩
        rw [← hj]
        unfold dots
        rw [show ((((0 * 256 + k0) * 256 + k1) * 256 + k2) * 256 + k3) / 16777216 = k0 by omega, show ((((0 * 256 + k0) * 256 + k1) * 256 + k2) * 256 + k3) / 65536 % 256 = k1 by omega,
          show ((((0 * 256 + k0) * 256 + k1) * 256 + k2) * 256 + k3) / 256 % 256 = k2 by omega, show ((((0 * 256 + k0) * 256 + k1) * 256 + k2) * 256 + k3) % 256 = k3 by omega]
        rfl
      | [], _, hl, _ => simp at hl
      | [_], _, hl, _ => simp at hl
      | [_, _], _, hl, _ => simp at hl
      | [_, _, _], _, hl, _ => simp at hl
      | _ :: _ :: _ :: _ :: _ :: _, _, hl, _ => simp at hl
  · left; unfold paP; rw [if_neg hl]
def psV (x : Nat) (n : Int) : Pfx × Int := if validP ⟨(x : Int), n⟩ = true then (⟨(x : Int), n⟩, 0) else (⟨0, 0⟩, 1)
def psR (s : List UInt8) : Pfx × Int :=
  if (adrN s 4 0 0 0).2 < 0 ∨ (adrN s 4 0 0 0).2 ≥ s.length ∨ ¬ s[(adrN s 4 0 0 0).2.toNat]? = some 47 then (⟨0, 0⟩, 2)
  else if ¬ (refN s ((adrN s 4 0 0 0).2.toNat + 1) 32).2 = s.length then (⟨0, 0⟩, 2)
  else psV (adrN s 4 0 0 0).1.toNat (refN s ((adrN s 4 0 0 0).2.toNat + 1) 32).1
def psP (s : List UInt8) : Pfx × Int :=
  if (Lib.cut s [47]).2.2 = false ∨ ¬ (paP (Lib.cut s [47]).1).2 = 0 ∨ numB 32 (Lib.cut s [47]).2.1 = false then (⟨0, 0⟩, 2)
  else psV (paP (Lib.cut s [47]).1).1.toNat (numV (Lib.cut s [47]).2.1)
theorem not_slash {x : Nat} (hx : x < 4294967296) : (47 : UInt8) ∉ dots x := by
  unfold dots
  have h3 := not_dot (k := x / 16777216) (by omega) 47 rfl
  have h2 := not_dot (k := x / 65536 % 256) (by omega) 47 rfl
  have h1 := not_dot (k := x / 256 % 256) (by omega) 47 rfl
  have h0 := not_dot (k := x % 256) (by omega) 47 rfl
  simp only [List.mem_append, List.mem_cons, not_or]
  exact ⟨h3, by decide, h2, by decide, h1, by decide, h0⟩
def ptext (x n : Nat) : List UInt8 := dots x ++ 47 :: itoaK n
theorem psP_hit {x n : Nat} (hx : x < 4294967296) (hn : n ≤ 32) : psP (ptext x n) = psV x n := by
  unfold psP ptext
  have q := num_hit (k := n) (most := 32) (by omega) (by omega)
  rw [cut_hit 47 _ _ (not_slash hx), if_neg]
  · simp only
    rw [paP_hit hx, q.2]; simp
  · simp only
    rw [paP_hit hx]
    rintro (e | e | e)
    · cases e
    · exact e rfl
    · rw [q.1] at e; cases e
theorem psP_all (s : List UInt8) : psP s = (⟨0, 0⟩, 2) ∨ ∃ x n : Nat, x < 4294967296 ∧ n ≤ 32 ∧ s = ptext x n ∧ psP s = psV x n := by
  rcases sep_cases 47 s with h | ⟨a, r, h, e⟩
  · left; unfold psP; rw [cut_none 47 s h, if_pos (.inl rfl)]
  · rcases paP_all a with q | ⟨x, hx, ea, q⟩
    · left; unfold psP; rw [e, cut_hit 47 a r h, if_pos (.inr (.inl (by simp only; rw [q]; decide)))]
    · cases hb : numB 32 r
      · left; unfold psP; rw [e, cut_hit 47 a r h, if_pos (.inr (.inr hb))]
      · obtain ⟨n, hn, er, hv⟩ := num_back (most := 32) hb
        right
        refine ⟨x, n, hx, by omega, by rw [e, ea, er]; rfl, ?_⟩
        rw [e, ea, er]; exact psP_hit hx (by omega)
theorem psR_hit {x n : Nat} (hx : x < 4294967296) (hn : n ≤ 32) : psR (ptext x n) = psV x n := by
  have ha := adr_hit (s := ptext x n) (rest := 47 :: itoaK n) hx rfl (.inr ⟨47, _, rfl, rfl⟩)
  have hd : (ptext x n).drop (dots x).length = 47 :: itoaK n := by unfold ptext; rw [List.drop_left]
  have hl := itoa_len (n := n) (by omega)
  have hlen : (ptext x n).length = (dots x).length + 1 + (itoaK n).length := by unfold ptext; simp; omega
  have hr := ref_hit (s := ptext x n) (a := (dots x).length + 1) (most := 32) (k := n) (rest := []) (by omega) hn (by rw [← List.drop_drop, hd]; simp) (.inl rfl)
  unfold psR
  rw [ha]
  simp only [Int.toNat_natCast]
  rw [hr, if_neg, if_neg]
  · simp only; omega
  · rintro (e | e | e)
    · omega
    · omega
    · apply e; rw [head_drop, hd]; rfl
theorem psR_all (s : List UInt8) : psR s = (⟨0, 0⟩, 2) ∨ ∃ x n : Nat, x < 4294967296 ∧ n ≤ 32 ∧ s = ptext x n ∧ psR s = psV x n := by
  rcases adr_all s with e | ⟨x, hx, es, hl, ea⟩
  · left; unfold psR; rw [e, if_pos (.inl (by decide))]
  · by_cases hc : (adrN s 4 0 0 0).2 < 0 ∨ (adrN s 4 0 0 0).2 ≥ s.length ∨ ¬ s[(adrN s 4 0 0 0).2.toNat]? = some 47
    · left; unfold psR; rw [if_pos hc]
    · have hcc := hc
      rw [ea] at hc
      simp only [not_or, Classical.not_not, Int.toNat_natCast] at hc
      obtain ⟨_, _, h47⟩ := hc
      rw [head_drop] at h47
      cases hd : s.drop (dots x).length with
      | nil => rw [hd] at h47; cases h47
      | cons b t =>
        rw [hd] at h47
        obtain rfl : b = 47 := by simpa using h47
        have ht : s.drop ((dots x).length + 1) = t := by rw [← List.drop_drop, hd]; rfl
        rcases ref_miss (s := s) (a := (dots x).length + 1) (most := 32) with q | ⟨n, hn, q, hdn, h1, hln⟩
        · left; unfold psR; rw [if_neg hcc, ea]; simp only [Int.toNat_natCast]; rw [q, if_pos (by simp only; omega)]
        · by_cases hz : (dots x).length + 1 + (itoaK n).length = s.length
          · right
            have hs : s = ptext x n := by
              rw [hz, List.drop_length, List.append_nil, ht] at hdn
              rw [hd, hdn] at es; exact es
            exact ⟨x, n, hx, hn, hs, by rw [hs]; exact psR_hit hx hn⟩
          · left; unfold psR; rw [if_neg hcc, ea]; simp only [Int.toNat_natCast]; rw [q, if_pos (by simp only; omega)]
theorem psV_ne (x : Nat) (n : Int) : psV x n ≠ (⟨0, 0⟩, 2) := by
  unfold psV; split
  · intro h; have := congrArg Prod.snd h; cases this
  · intro h; have := congrArg Prod.snd h; cases this
theorem ps_eq (s : List UInt8) : psP s = psR s := by
  rcases psP_all s with h | ⟨x, n, hx, hn, rfl, h⟩
  · rcases psR_all s with q | ⟨x, n, hx, hn, rfl, q⟩
    · rw [h, q]
    · rw [psP_hit hx hn] at h; exact absurd h (psV_ne _ _)
  · rw [h, psR_hit hx hn]
end Go.AM.IR
set_option maxHeartbeats 4000000
set_option maxRecDepth 20000
namespace Go.AM.IR
section
variable {k : Eff → Prop} {x y : Opd} {g key : Nat} {hg : Nat → Option (Nat × Blk)} {ka kb : IntKind} {a b : Int} {kv : AV → Prop}
theorem zSameI (h : kv (.bool true)) : ∃ v, binA .eql (.int ka a) (.int ka a) = some v ∧ kv v := ⟨_, by simp [binA], h⟩
end
end Go.AM.IR
set_option maxHeartbeats 4000000
set_option maxRecDepth 20000
namespace Go.AM.IR
section
variable {kv : AV → Prop}
theorem zEqT {a : List UInt8} (h : kv (.bool true)) : ∃ v, binA .eql (.str a) (.str a) = some v ∧ kv v := ⟨.bool true, by show some (AV.bool (a == a)) = _; simp, h⟩
theorem zEqS {a b : List UInt8} (h : kv (.bool (a == b))) : ∃ v, binA .eql (.str a) (.str b) = some v ∧ kv v := ⟨_, rfl, h⟩
end
theorem dots_len {x : Nat} (hx : x < 4294967296) : (dots x).length ≤ 15 := by
  have l3 := itoa_len (n := x / 16777216) (by omega)
  have l2 := itoa_len (n := x / 65536 % 256) (by omega)
  have l1 := itoa_len (n := x / 256 % 256) (by omega)
  have l0 := itoa_len (n := x % 256) (by omega)
  unfold dots
  simp only [List.length_append, List.length_cons]
  omega
theorem atoi_gives263 (s : List UInt8) (hs : s.length < 2 ^ 40) : Gives G 263 [.str s] [] (atoiR errT s) := by
  show pAtoi errT [.str s] [] = _
  exact if_pos (by omega)
theorem number_gives250 (s : List UInt8) (most : Int) (hs : s.length < 2 ^ 40) : Gives G 250 [.str s, .int .i64 most] [] ⟨.tup [.int .i64 (numV s), .bool (numB most s)], []⟩ := by
  have ha := atoi_gives263 s hs
  unfold atoiR at ha
  unfold numV numB
  cases hr : Lib.atoiAll s
  · rename_i v
    rw [hr] at ha
    simp only at ha ⊢
    obtain ⟨b0, b1⟩ := Lib.atoiAll_bounds hr
    have hi := itoa_gives246 b0 b1
    generalize itoaK v = t at *
    by_cases h0 : 0 ≤ v
    · by_cases h1 : v ≤ most
      · refine gives_code (F := f250) rfl rfl (W_ok 300 _ _ _ _ ?_)
        repeat' ((conv => whnf); first | refine zEqS ?_ | refine bslP (by first | rfl | (simp [pureL, pureLL, AV.pure]; done) | fail) rfl ?_ | refine TakeC.full (by first | rfl | omega | (simp; done) | (simp; omega) | fail) ?_ | refine zBs ?_ | refine zBn ?_ | refine zBv rfl rfl ?_ | refine zN ?_ | refine zC ?_ | refine zC4 ?_ | refine zOr16 ?_ | refine zC1 ?_ | refine zByte ?_ | refine zMaxL ?_ | refine zMaxR ?_ | refine zMinL ?_ | refine zMinR ?_ | refine zShr ?_ | refine zC8 ?_ | refine zQ ?_ | refine zR ?_ | refine zS ?_ | refine zA ?_ | refine zM ?_ | refine xr rfl ?_ | refine ai rfl ?_ | refine condT ?_ | refine condF ?_ | refine condG1 ?_ | refine condG0 ?_ | refine cD ?_ | refine dD ?_ | refine cB ?_ | refine dB ?_ | refine cN ?_ | refine dN ?_ | refine cV ?_ | refine dV ?_ | refine cE ?_ | refine dE ?_ | refine condX0 ?_ | refine condX1 ?_ | refine condNot ?_ | refine condAnd ?_ | refine condOr ?_ | refine aO ?_ | refine aB ?_ | refine aR ?_ | refine aR ?_ (by simp; omega) | refine xr (by assumption) ?_ | refine ai (by assumption) ?_ | refine callW (ha) ?_ | refine kV (hi) ?_ | refine condD (fun h => ?_) (fun h => ?_) | refine condB (fun h => ?_) (fun h => ?_) | refine condN (fun h => ?_) (fun h => ?_) | refine condE (fun h => ?_) (fun h => ?_) | refine condV (fun h => ?_) (fun h => ?_))
        (first | refine ev_fin (And.intro (by first | rfl | (simp [AV.pure, pureL]; done) | fail) ?_) | refine ev_fin0 (And.intro (by first | rfl | (simp [AV.pure, pureL]; done) | fail) ?_)); simp [h0, h1]
      · refine gives_code (F := f250) rfl rfl (W_ok 300 _ _ _ _ ?_)
        repeat' ((conv => whnf); first | refine zEqS ?_ | refine bslP (by first | rfl | (simp [pureL, pureLL, AV.pure]; done) | fail) rfl ?_ | refine TakeC.full (by first | rfl | omega | (simp; done) | (simp; omega) | fail) ?_ | refine zBs ?_ | refine zBn ?_ | refine zBv rfl rfl ?_ | refine zN ?_ | refine zC ?_ | refine zC4 ?_ | refine zOr16 ?_ | refine zC1 ?_ | refine zByte ?_ | refine zMaxL ?_ | refine zMaxR ?_ | refine zMinL ?_ | refine zMinR ?_ | refine zShr ?_ | refine zC8 ?_ | refine zQ ?_ | refine zR ?_ | refine zS ?_ | refine zA ?_ | refine zM ?_ | refine xr rfl ?_ | refine ai rfl ?_ | refine condT ?_ | refine condF ?_ | refine condG1 ?_ | refine condG0 ?_ | refine cD ?_ | refine dD ?_ | refine cB ?_ | refine dB ?_ | refine cN ?_ | refine dN ?_ | refine cV ?_ | refine dV ?_ | refine cE ?_ | refine dE ?_ | refine condX0 ?_ | refine condX1 ?_ | refine condNot ?_ | refine condAnd ?_ | refine condOr ?_ | refine aO ?_ | refine aB ?_ | refine aR ?_ | refine aR ?_ (by simp; omega) | refine xr (by assumption) ?_ | refine ai (by assumption) ?_ | refine callW (ha) ?_ | refine kV (hi) ?_ | refine condD (fun h => ?_) (fun h => ?_) | refine condB (fun h => ?_) (fun h => ?_) | refine condN (fun h => ?_) (fun h => ?_) | refine condE (fun h => ?_) (fun h => ?_) | refine condV (fun h => ?_) (fun h => ?_))
        (first | refine ev_fin (And.intro (by first | rfl | (simp [AV.pure, pureL]; done) | fail) ?_) | refine ev_fin0 (And.intro (by first | rfl | (simp [AV.pure, pureL]; done) | fail) ?_)); simp [h0, h1]
    · refine gives_code (F := f250) rfl rfl (W_ok 300 _ _ _ _ ?_)
      repeat' ((conv => whnf); first | refine zEqS ?_ | refine bslP (by first | rfl | (simp [pureL, pureLL, AV.pure]; done) | fail) rfl ?_ | refine TakeC.full (by first | rfl | omega | (simp; done) | (simp; omega) | fail) ?_ | refine zBs ?_ | refine zBn ?_ | refine zBv rfl rfl ?_ | refine zN ?_ | refine zC ?_ | refine zC4 ?_ | refine zOr16 ?_ | refine zC1 ?_ | refine zByte ?_ | refine zMaxL ?_ | refine zMaxR ?_ | refine zMinL ?_ | refine zMinR ?_ | refine zShr ?_ | refine zC8 ?_ | refine zQ ?_ | refine zR ?_ | refine zS ?_ | refine zA ?_ | refine zM ?_ | refine xr rfl ?_ | refine ai rfl ?_ | refine condT ?_ | refine condF ?_ | refine condG1 ?_ | refine condG0 ?_ | refine cD ?_ | refine dD ?_ | refine cB ?_ | refine dB ?_ | refine cN ?_ | refine dN ?_ | refine cV ?_ | refine dV ?_ | refine cE ?_ | refine dE ?_ | refine condX0 ?_ | refine condX1 ?_ | refine condNot ?_ | refine condAnd ?_ | refine condOr ?_ | refine aO ?_ | refine aB ?_ | refine aR ?_ | refine aR ?_ (by simp; omega) | refine xr (by assumption) ?_ | refine ai (by assumption) ?_ | refine callW (ha) ?_ | refine kV (hi) ?_ | refine condD (fun h => ?_) (fun h => ?_) | refine condB (fun h => ?_) (fun h => ?_) | refine condN (fun h => ?_) (fun h => ?_) | refine condE (fun h => ?_) (fun h => ?_) | refine condV (fun h => ?_) (fun h => ?_))
      (first | refine ev_fin (And.intro (by first | rfl | (simp [AV.pure, pureL]; done) | fail) ?_) | refine ev_fin0 (And.intro (by first | rfl | (simp [AV.pure, pureL]; done) | fail) ?_)); simp [h0]
  · rw [hr] at ha
    simp only at ha ⊢
    refine gives_code (F := f250) rfl rfl (W_ok 300 _ _ _ _ ?_)
    repeat' ((conv => whnf); first | refine bslP (by first | rfl | (simp [pureL, pureLL, AV.pure]; done) | fail) rfl ?_ | refine TakeC.full (by first | rfl | omega | (simp; done) | (simp; omega) | fail) ?_ | refine zBs ?_ | refine zBn ?_ | refine zBv rfl rfl ?_ | refine zN ?_ | refine zC ?_ | refine zC4 ?_ | refine zOr16 ?_ | refine zC1 ?_ | refine zByte ?_ | refine zMaxL ?_ | refine zMaxR ?_ | refine zMinL ?_ | refine zMinR ?_ | refine zShr ?_ | refine zC8 ?_ | refine zQ ?_ | refine zR ?_ | refine zS ?_ | refine zA ?_ | refine zM ?_ | refine xr rfl ?_ | refine ai rfl ?_ | refine condT ?_ | refine condF ?_ | refine condG1 ?_ | refine condG0 ?_ | refine cD ?_ | refine dD ?_ | refine cB ?_ | refine dB ?_ | refine cN ?_ | refine dN ?_ | refine cV ?_ | refine dV ?_ | refine cE ?_ | refine dE ?_ | refine condX0 ?_ | refine condX1 ?_ | refine condNot ?_ | refine condAnd ?_ | refine condOr ?_ | refine aO ?_ | refine aB ?_ | refine aR ?_ | refine aR ?_ (by simp; omega) | refine xr (by assumption) ?_ | refine ai (by assumption) ?_ | refine callW (ha) ?_ | refine condD (fun h => ?_) (fun h => ?_) | refine condB (fun h => ?_) (fun h => ?_) | refine condN (fun h => ?_) (fun h => ?_) | refine condE (fun h => ?_) (fun h => ?_) | refine condV (fun h => ?_) (fun h => ?_))
    (first | refine ev_fin (And.intro (by first | rfl | (simp [AV.pure, pureL]; done) | fail) ?_) | refine ev_fin0 (And.intro (by first | rfl | (simp [AV.pure, pureL]; done) | fail) ?_)); rfl
  · rw [hr] at ha
    simp only at ha ⊢
    refine gives_code (F := f250) rfl rfl (W_ok 300 _ _ _ _ ?_)
    repeat' ((conv => whnf); first | refine bslP (by first | rfl | (simp [pureL, pureLL, AV.pure]; done) | fail) rfl ?_ | refine TakeC.full (by first | rfl | omega | (simp; done) | (simp; omega) | fail) ?_ | refine zBs ?_ | refine zBn ?_ | refine zBv rfl rfl ?_ | refine zN ?_ | refine zC ?_ | refine zC4 ?_ | refine zOr16 ?_ | refine zC1 ?_ | refine zByte ?_ | refine zMaxL ?_ | refine zMaxR ?_ | refine zMinL ?_ | refine zMinR ?_ | refine zShr ?_ | refine zC8 ?_ | refine zQ ?_ | refine zR ?_ | refine zS ?_ | refine zA ?_ | refine zM ?_ | refine xr rfl ?_ | refine ai rfl ?_ | refine condT ?_ | refine condF ?_ | refine condG1 ?_ | refine condG0 ?_ | refine cD ?_ | refine dD ?_ | refine cB ?_ | refine dB ?_ | refine cN ?_ | refine dN ?_ | refine cV ?_ | refine dV ?_ | refine cE ?_ | refine dE ?_ | refine condX0 ?_ | refine condX1 ?_ | refine condNot ?_ | refine condAnd ?_ | refine condOr ?_ | refine aO ?_ | refine aB ?_ | refine aR ?_ | refine aR ?_ (by simp; omega) | refine xr (by assumption) ?_ | refine ai (by assumption) ?_ | refine callW (ha) ?_ | refine condD (fun h => ?_) (fun h => ?_) | refine condB (fun h => ?_) (fun h => ?_) | refine condN (fun h => ?_) (fun h => ?_) | refine condE (fun h => ?_) (fun h => ?_) | refine condV (fun h => ?_) (fun h => ?_))
    (first | refine ev_fin (And.intro (by first | rfl | (simp [AV.pure, pureL]; done) | fail) ?_) | refine ev_fin0 (And.intro (by first | rfl | (simp [AV.pure, pureL]; done) | fail) ?_)); rfl
theorem text_gives229 (p : Pfx) (h : p.ok) : Gives G 229 [.agg p.enc] [] ⟨.str (if validP p = true then ptext p.addr.toNat p.len.toNat else []), []⟩ := by
  obtain ⟨e, hx⟩ := nat_of h.addr
  have hv := valid_gives178 p h
  have ha := addr_gives227 p.addr.toNat hx
  have hd := dots_len hx
  rw [← e] at ha
  cases hvp : validP p
  · rw [hvp] at hv
    rw [if_neg (by simp)]
    refine gives_code (F := f229) rfl rfl (W_ok 300 _ _ _ _ ?_)
    repeat' ((conv => whnf); first | refine bslP (by first | rfl | (simp [pureL, pureLL, AV.pure]; done) | fail) rfl ?_ | refine TakeC.full (by first | rfl | omega | (simp; done) | (simp; omega) | fail) ?_ | refine zBs ?_ | refine zBn ?_ | refine zBv rfl rfl ?_ | refine zN ?_ | refine zC ?_ | refine zC4 ?_ | refine zOr16 ?_ | refine zC1 ?_ | refine zByte ?_ | refine zMaxL ?_ | refine zMaxR ?_ | refine zMinL ?_ | refine zMinR ?_ | refine zShr ?_ | refine zC8 ?_ | refine zQ ?_ | refine zR ?_ | refine zS ?_ | refine zA ?_ | refine zM ?_ | refine xr rfl ?_ | refine ai rfl ?_ | refine condT ?_ | refine condF ?_ | refine condG1 ?_ | refine condG0 ?_ | refine cD ?_ | refine dD ?_ | refine cB ?_ | refine dB ?_ | refine cN ?_ | refine dN ?_ | refine cV ?_ | refine dV ?_ | refine cE ?_ | refine dE ?_ | refine condX0 ?_ | refine condX1 ?_ | refine condNot ?_ | refine condAnd ?_ | refine condOr ?_ | refine aO ?_ | refine aB ?_ | refine aR ?_ | refine aR ?_ (by simp; omega) | refine xr (by assumption) ?_ | refine ai (by assumption) ?_ | refine kV (hv) ?_ | refine condD (fun h => ?_) (fun h => ?_) | refine condB (fun h => ?_) (fun h => ?_) | refine condN (fun h => ?_) (fun h => ?_) | refine condE (fun h => ?_) (fun h => ?_) | refine condV (fun h => ?_) (fun h => ?_))
    (first | refine ev_fin (And.intro (by first | rfl | (simp [AV.pure, pureL]; done) | fail) ?_) | refine ev_fin0 (And.intro (by first | rfl | (simp [AV.pure, pureL]; done) | fail) ?_)); rfl
  · rw [hvp] at hv
    obtain ⟨n0, n1⟩ := validP_len hvp
    have hi := itoa_gives246 (n := p.len) (by omega) (by omega)
    have hil := itoa_len (n := p.len.toNat) (by omega)
    rw [Int.toNat_of_nonneg n0] at hil
    rw [if_pos rfl, ptext, Int.toNat_of_nonneg n0]
    generalize itoaK p.len = t at *
    generalize dots p.addr.toNat = d at *
    refine gives_code (F := f229) rfl rfl (W_ok 300 _ _ _ _ ?_)
    repeat' ((conv => whnf); first | refine zCat ?_ | refine bslP (by first | rfl | (simp [pureL, pureLL, AV.pure]; done) | fail) rfl ?_ | refine TakeC.full (by first | rfl | omega | (simp; done) | (simp; omega) | fail) ?_ | refine zBs ?_ | refine zBn ?_ | refine zBv rfl rfl ?_ | refine zN ?_ | refine zC ?_ | refine zC4 ?_ | refine zOr16 ?_ | refine zC1 ?_ | refine zByte ?_ | refine zMaxL ?_ | refine zMaxR ?_ | refine zMinL ?_ | refine zMinR ?_ | refine zShr ?_ | refine zC8 ?_ | refine zQ ?_ | refine zR ?_ | refine zS ?_ | refine zA ?_ | refine zM ?_ | refine xr rfl ?_ | refine ai rfl ?_ | refine condT ?_ | refine condF ?_ | refine condG1 ?_ | refine condG0 ?_ | refine cD ?_ | refine dD ?_ | refine cB ?_ | refine dB ?_ | refine cN ?_ | refine dN ?_ | refine cV ?_ | refine dV ?_ | refine cE ?_ | refine dE ?_ | refine condX0 ?_ | refine condX1 ?_ | refine condNot ?_ | refine condAnd ?_ | refine condOr ?_ | refine aO ?_ | refine aB ?_ | refine aR ?_ | refine aR ?_ (by simp; omega) | refine xr (by assumption) ?_ | refine ai (by assumption) ?_ | refine kV (hv) ?_ | refine kV (ha) ?_ | refine kV (hi) ?_ | refine condD (fun h => ?_) (fun h => ?_) | refine condB (fun h => ?_) (fun h => ?_) | refine condN (fun h => ?_) (fun h => ?_) | refine condE (fun h => ?_) (fun h => ?_) | refine condV (fun h => ?_) (fun h => ?_))
    (first | refine ev_fin (And.intro (by first | rfl | (simp [AV.pure, pureL]; done) | fail) ?_) | refine ev_fin0 (And.intro (by first | rfl | (simp [AV.pure, pureL]; done) | fail) ?_)); simp
theorem text_gives230 (p : Pfx) (h : p.ok) : Gives G 230 [.agg p.enc] [] ⟨.str (if validP p = true then ptext p.addr.toNat p.len.toNat else []), []⟩ := by
  obtain ⟨e, hx⟩ := nat_of h.addr
  have hv := valid_gives179 p h
  have ha := addr_gives228 p.addr.toNat hx
  have hd := dots_len hx
  rw [← e] at ha
  cases hvp : validP p
  · rw [hvp] at hv
    rw [if_neg (by simp)]
    refine gives_code (F := f230) rfl rfl (W_ok 300 _ _ _ _ ?_)
    repeat' ((conv => whnf); first | refine bslP (by first | rfl | (simp [pureL, pureLL, AV.pure]; done) | fail) rfl ?_ | refine TakeC.full (by first | rfl | omega | (simp; done) | (simp; omega) | fail) ?_ | refine zBs ?_ | refine zBn ?_ | refine zBv rfl rfl ?_ | refine zN ?_ | refine zC ?_ | refine zC4 ?_ | refine zOr16 ?_ | refine zC1 ?_ | refine zByte ?_ | refine zMaxL ?_ | refine zMaxR ?_ | refine zMinL ?_ | refine zMinR ?_ | refine zShr ?_ | refine zC8 ?_ | refine zQ ?_ | refine zR ?_ | refine zS ?_ | refine zA ?_ | refine zM ?_ | refine xr rfl ?_ | refine ai rfl ?_ | refine condT ?_ | refine condF ?_ | refine condG1 ?_ | refine condG0 ?_ | refine cD ?_ | refine dD ?_ | refine cB ?_ | refine dB ?_ | refine cN ?_ | refine dN ?_ | refine cV ?_ | refine dV ?_ | refine cE ?_ | refine dE ?_ | refine condX0 ?_ | refine condX1 ?_ | refine condNot ?_ | refine condAnd ?_ | refine condOr ?_ | refine aO ?_ | refine aB ?_ | refine aR ?_ | refine aR ?_ (by simp; omega) | refine xr (by assumption) ?_ | refine ai (by assumption) ?_ | refine kV (hv) ?_ | refine condD (fun h => ?_) (fun h => ?_) | refine condB (fun h => ?_) (fun h => ?_) | refine condN (fun h => ?_) (fun h => ?_) | refine condE (fun h => ?_) (fun h => ?_) | refine condV (fun h => ?_) (fun h => ?_))
    (first | refine ev_fin (And.intro (by first | rfl | (simp [AV.pure, pureL]; done) | fail) ?_) | refine ev_fin0 (And.intro (by first | rfl | (simp [AV.pure, pureL]; done) | fail) ?_)); rfl
  · rw [hvp] at hv
    obtain ⟨n0, n1⟩ := validP_len hvp
    have hi := num_gives248 (n := p.len.toNat) (by omega)
    have hil := itoa_len (n := p.len.toNat) (by omega)
    rw [Int.toNat_of_nonneg n0] at hil hi
    rw [if_pos rfl, ptext, Int.toNat_of_nonneg n0]
    generalize itoaK p.len = t at *
    generalize dots p.addr.toNat = d at *
    refine gives_code (F := f230) rfl rfl (W_ok 300 _ _ _ _ ?_)
    repeat' ((conv => whnf); first | refine zCat ?_ | refine bslP (by first | rfl | (simp [pureL, pureLL, AV.pure]; done) | fail) rfl ?_ | refine TakeC.full (by first | rfl | omega | (simp; done) | (simp; omega) | fail) ?_ | refine zBs ?_ | refine zBn ?_ | refine zBv rfl rfl ?_ | refine zN ?_ | refine zC ?_ | refine zC4 ?_ | refine zOr16 ?_ | refine zC1 ?_ | refine zByte ?_ | refine zMaxL ?_ | refine zMaxR ?_ | refine zMinL ?_ | refine zMinR ?_ | refine zShr ?_ | refine zC8 ?_ | refine zQ ?_ | refine zR ?_ | refine zS ?_ | refine zA ?_ | refine zM ?_ | refine xr rfl ?_ | refine ai rfl ?_ | refine condT ?_ | refine condF ?_ | refine condG1 ?_ | refine condG0 ?_ | refine cD ?_ | refine dD ?_ | refine cB ?_ | refine dB ?_ | refine cN ?_ | refine dN ?_ | refine cV ?_ | refine dV ?_ | refine cE ?_ | refine dE ?_ | refine condX0 ?_ | refine condX1 ?_ | refine condNot ?_ | refine condAnd ?_ | refine condOr ?_ | refine aO ?_ | refine aB ?_ | refine aR ?_ | refine aR ?_ (by simp; omega) | refine xr (by assumption) ?_ | refine ai (by assumption) ?_ | refine kV (hv) ?_ | refine kV (ha) ?_ | refine kV (hi) ?_ | refine condD (fun h => ?_) (fun h => ?_) | refine condB (fun h => ?_) (fun h => ?_) | refine condN (fun h => ?_) (fun h => ?_) | refine condE (fun h => ?_) (fun h => ?_) | refine condV (fun h => ?_) (fun h => ?_))
    (first | refine ev_fin (And.intro (by first | rfl | (simp [AV.pure, pureL]; done) | fail) ?_) | refine ev_fin0 (And.intro (by first | rfl | (simp [AV.pure, pureL]; done) | fail) ?_)); simp
end Go.AM.IR
set_option maxHeartbeats 4000000
set_option maxRecDepth 20000
namespace Go.AM.IR
theorem pvalid (p : Pfx) (h : p.ok) (v : validP p = true) : psP (ptext p.addr.toNat p.len.toNat) = (p, 0) := by
  obtain ⟨e, hx⟩ := nat_of h.addr
  obtain ⟨n0, n1⟩ := validP_len v
  rw [psP_hit hx (by omega), psV, ← e, Int.toNat_of_nonneg n0, if_pos v]
theorem ptext_len {x n : Nat} (hx : x < 4294967296) (hn : n ≤ 32) : (ptext x n).length ≤ 19 := by
  have := dots_len hx
  have := itoa_len (n := n) (by omega)
  unfold ptext
  simp only [List.length_append, List.length_cons]; omega
structure PRule where
  permit : Bool
  pfx : Pfx
  min : Int
  max : Int
  deriving DecidableEq
def PRule.enc (r : PRule) : List AV := [.bool r.permit, .int .u32 r.pfx.addr, .int .i64 r.pfx.len, .int .i64 r.min, .int .i64 r.max]
structure PRule.ok (r : PRule) : Prop where
  pfx : r.pfx.ok
  min : okI r.min
  max : okI r.max
def chkS (r : PRule) : Int := if validP r.pfx = true then (if r.min < r.pfx.len ∨ r.max < r.min ∨ r.max > 32 then 5 else 0) else 1
theorem chk_zero {r : PRule} (h : chkS r = 0) : validP r.pfx = true ∧ r.pfx.len ≤ r.min ∧ r.min ≤ r.max ∧ r.max ≤ 32 ∧ 0 ≤ r.pfx.len := by
  unfold chkS at h
  split at h
  · rename_i v
    obtain ⟨a, b⟩ := (validP_iff r.pfx).1 v
    split at h
    · cases h
    · exact ⟨v, by omega, by omega, by omega, a⟩
  · cases h
def wPermit : List UInt8 := [112, 101, 114, 109, 105, 116]
def wDeny : List UInt8 := [100, 101, 110, 121]
def verb (b : Bool) : List UInt8 := bif b then wPermit else wDeny
def rng (a b : Int) : List UInt8 := itoaK a ++ 45 :: itoaK b
def rtail (r : PRule) : List UInt8 := if r.min ≠ r.pfx.len ∨ r.max ≠ r.pfx.len then 32 :: rng r.min r.max else []
def rtext (r : PRule) : List UInt8 := verb r.permit ++ 32 :: (ptext r.pfx.addr.toNat r.pfx.len.toNat ++ rtail r)
def zeroR : PRule := ⟨false, ⟨0, 0⟩, 0, 0⟩
def canon (s : List UInt8) : Bool := match s with
  | [] => false
  | b :: r => !(decide (r ≠ []) && decide (b = 48)) && (b :: r).all dig
def foldN : List UInt8 → Nat → Option Nat
  | [], n => some n
  | b :: r, n => if n > (9223372036854775807 - dval b) / 10 then none else foldN r (10 * n + dval b)
def fNum (most : Int) (s : List UInt8) : Int × Int := if canon s = true then (match foldN s 0 with
  | none => (0, 5)
  | some n => if (n : Int) > most then (0, 5) else ((n : Int), 0)) else (0, 2)
def chkF (n : Nat) : Bool := canon (itoaK n) && (foldN (itoaK n) 0 == some n)
theorem chkF_all : (List.range 256).all chkF = true := by decide +kernel
theorem fNum_hit {k : Nat} {most : Int} (hk : k < 256) (hm : (k : Int) ≤ most) : fNum most (itoaK k) = ((k : Int), 0) := by
  have := List.all_eq_true.1 chkF_all k (List.mem_range.2 hk)
  simp only [chkF, Bool.and_eq_true, beq_iff_eq] at this
  unfold fNum
  rw [if_pos this.1, this.2]
  exact if_neg (by omega)
def lenS (s : List UInt8) : Int × Int × Bool :=
  if 45 ∈ s then ((fNum 32 (s.takeWhile (· != 45))).1, (fNum 32 ((s.dropWhile (· != 45)).drop 1)).1, (fNum 32 (s.takeWhile (· != 45))).2 == 0 && (fNum 32 ((s.dropWhile (· != 45)).drop 1)).2 == 0)
  else (0, 0, false)
theorem takeW {c : UInt8} : ∀ {a r : List UInt8}, c ∉ a → (a ++ c :: r).takeWhile (· != c) = a ∧ (a ++ c :: r).dropWhile (· != c) = c :: r
  | [], r, _ => by simp
  | x :: a, r, h => by
    have hx : (x != c) = true := by simp; exact fun e => h (by simp [e])
    have ih := takeW (c := c) (a := a) (r := r) (fun q => h (by simp [q]))
    simp only [List.cons_append, List.takeWhile_cons, List.dropWhile_cons, hx, if_true, ih.1, ih.2, and_self]
theorem takeW_all {c : UInt8} : ∀ {a : List UInt8}, c ∉ a → a.takeWhile (· != c) = a
  | [], _ => rfl
  | x :: a, h => by
    have hx : (x != c) = true := by simp; exact fun e => h (by simp [e])
    rw [List.takeWhile_cons, if_pos hx, takeW_all (fun q => h (by simp [q]))]
theorem lenS_hit {a b : Nat} (ha : a ≤ 32) (hb : b ≤ 32) : lenS (rng a b) = ((a : Int), (b : Int), true) := by
  have hn := not_dot (k := a) (by omega) 45 rfl
  obtain ⟨e1, e2⟩ := takeW (r := itoaK (b : Int)) hn
  unfold lenS rng
  rw [if_pos (by simp), e1, e2, fNum_hit (by omega) (by omega), List.drop_one, List.tail_cons, fNum_hit (by omega) (by omega)]; rfl
def wordsS (s : List UInt8) : Option (List (List UInt8)) := if s = [] then some [] else if 10 ∈ s then none else if [] ∈ Lib.split s [32] then none else some (Lib.split s [32])
def plW (ws : List (List UInt8)) : Option PRule := match ws with
  | [v, p] => if (psP p).2 = 0 then some ⟨v == wPermit, (psP p).1, (psP p).1.len, (psP p).1.len⟩ else none
  | [v, p, l] => if (psP p).2 = 0 then (if (lenS l).2.2 = true then some ⟨v == wPermit, (psP p).1, (lenS l).1, (lenS l).2.1⟩ else none) else none
  | _ => none
def plP (s : List UInt8) : PRule × Int := match (wordsS s).bind plW with
  | some r => if chkS r = 0 ∧ rtext r = s then (r, 0) else (zeroR, 2)
  | none => (zeroR, 2)
theorem psP_ok {s : List UInt8} (h : (psP s).2 = 0) : (psP s).1.ok := by
  rcases psP_all s with e | ⟨x, n, hx, hn, _, e⟩
  · rw [e] at h; cases h
  · rw [e] at h ⊢
    unfold psV at h ⊢
    split at h
    · rename_i v
      rw [if_pos v]; exact ⟨by unfold okU; simp only; omega, by unfold okI; simp only; omega⟩
    · cases h
theorem plW_ok {ws : List (List UInt8)} {r : PRule} (h : plW ws = some r) : r.pfx.ok := by
  unfold plW at h
  split at h
  · split at h
    · rename_i hz; obtain rfl := Option.some.inj h; exact psP_ok hz
    · cases h
  · split at h
    · rename_i hz
      split at h
      · obtain rfl := Option.some.inj h; exact psP_ok hz
      · cases h
    · cases h
  · cases h
theorem plP_all (s : List UInt8) : plP s = (zeroR, 2) ∨ ∃ r, r.pfx.ok ∧ chkS r = 0 ∧ s = rtext r ∧ plP s = (r, 0) := by
  unfold plP
  cases hw : (wordsS s).bind plW with
  | none => exact .inl rfl
  | some r =>
    by_cases h : chkS r = 0 ∧ rtext r = s
    · obtain ⟨ws, _, h2⟩ := Option.bind_eq_some_iff.1 hw
      exact .inr ⟨r, plW_ok h2, h.1, h.2.symm, if_pos h⟩
    · exact .inl (if_neg h)
def low (b : UInt8) : Bool := b != 32 && b != 10
theorem low_dig {b : UInt8} (h : dig b = true) : low b = true := by
  obtain ⟨d, hd, rfl, _⟩ := dig_of h
  have : ∀ d, d < 10 → low (UInt8.ofNat (48 + d)) = true := by decide
  exact this d hd
theorem low_itoa {k : Nat} (h : k < 256) : (itoaK k).all low = true := List.all_eq_true.2 fun b hb => low_dig (itoa_dig h b hb)
theorem low_dots {x : Nat} (hx : x < 4294967296) : (dots x).all low = true := by
  unfold dots
  simp only [List.all_append, List.all_cons, low_itoa (show x / 16777216 < 256 by omega), low_itoa (show x / 65536 % 256 < 256 by omega), low_itoa (show x / 256 % 256 < 256 by omega), low_itoa (show x % 256 < 256 by omega)]
  decide
theorem low_ptext {x n : Nat} (hx : x < 4294967296) (hn : n ≤ 32) : (ptext x n).all low = true := by
  unfold ptext
  simp only [List.all_append, List.all_cons, low_dots hx, low_itoa (show n < 256 by omega)]
  decide
theorem low_rng {a b : Nat} (ha : a ≤ 32) (hb : b ≤ 32) : (rng a b).all low = true := by
  unfold rng
  simp only [List.all_append, List.all_cons, low_itoa (show a < 256 by omega), low_itoa (show b < 256 by omega)]
  decide
theorem low_verb (b : Bool) : (verb b).all low = true := by cases b <;> decide
theorem low_not {s : List UInt8} (h : s.all low = true) : (32 : UInt8) ∉ s ∧ (10 : UInt8) ∉ s := by
  refine ⟨fun q => ?_, fun q => ?_⟩
  · have := List.all_eq_true.1 h _ q; simp [low] at this
  · have := List.all_eq_true.1 h _ q; simp [low] at this
theorem verb_permit (b : Bool) : (verb b == wPermit) = b := by cases b <;> decide
theorem verb_ne (b : Bool) : verb b ≠ [] := by cases b <;> decide
theorem ptext_ne (x n : Nat) : ptext x n ≠ [] := by unfold ptext; simp
theorem rng_ne (a b : Int) : rng a b ≠ [] := by unfold rng; simp
theorem plP_hit {r : PRule} (hr : r.pfx.ok) (h : chkS r = 0) : plP (rtext r) = (r, 0) := by
  obtain ⟨v, m1, m2, m3, m0⟩ := chk_zero h
  obtain ⟨pe, hx⟩ := nat_of hr.addr
  have hp := low_ptext (n := r.pfx.len.toNat) hx (by omega)
  have hv := pvalid r.pfx hr v
  have hne := ptext_ne r.pfx.addr.toNat r.pfx.len.toNat
  obtain ⟨perm, pf, mn, mx⟩ := r
  simp only at *
  obtain ⟨a, rfl⟩ : ∃ a : Nat, mn = a := ⟨mn.toNat, by omega⟩
  obtain ⟨b, rfl⟩ : ∃ b : Nat, mx = b := ⟨mx.toNat, by omega⟩
  have hl := low_rng (a := a) (b := b) (by omega) (by omega)
  have hw : (wordsS (rtext ⟨perm, pf, a, b⟩)).bind plW = some ⟨perm, pf, a, b⟩ := by
    unfold rtext rtail
    simp only
    by_cases hc : (a : Int) ≠ pf.len ∨ (b : Int) ≠ pf.len
    · rw [if_pos hc]
      have e : Lib.split (verb perm ++ 32 :: (ptext pf.addr.toNat pf.len.toNat ++ 32 :: rng a b)) [32] = [verb perm, ptext pf.addr.toNat pf.len.toNat, rng a b] := by
        rw [split_hit 32 _ _ (low_not (low_verb perm)).1, split_hit 32 _ _ (low_not hp).1, split_none 32 _ (low_not hl).1]
      unfold wordsS
      rw [if_neg (by simp), if_neg, e, if_neg]
      · simp only [Option.bind_some, plW, hv, if_true, lenS_hit (show a ≤ 32 by omega) (show b ≤ 32 by omega), verb_permit]
      · simp only [List.mem_cons, not_or]
        exact ⟨fun q => verb_ne _ q.symm, fun q => hne q.symm, fun q => rng_ne _ _ q.symm, by simp⟩
      · simp only [List.mem_append, List.mem_cons, not_or]
        exact ⟨(low_not (low_verb perm)).2, by decide, (low_not hp).2, by decide, (low_not hl).2⟩
    · rw [if_neg hc, List.append_nil]
      have e : Lib.split (verb perm ++ 32 :: ptext pf.addr.toNat pf.len.toNat) [32] = [verb perm, ptext pf.addr.toNat pf.len.toNat] := by
        rw [split_hit 32 _ _ (low_not (low_verb perm)).1, split_none 32 _ (low_not hp).1]
      have ea : (a : Int) = pf.len := by omega
      have eb : (b : Int) = pf.len := by omega
      unfold wordsS
      rw [if_neg (by simp), if_neg, e, if_neg]
      · simp only [Option.bind_some, plW, hv, if_true, verb_permit, ea, eb]
      · simp only [List.mem_cons, not_or]
        exact ⟨fun q => verb_ne _ q.symm, fun q => hne q.symm, by simp⟩
      · simp only [List.mem_append, List.mem_cons, not_or]
        exact ⟨(low_not (low_verb perm)).2, by decide, (low_not hp).2⟩
  unfold plP
  rw [hw]
  exact if_pos ⟨h, rfl⟩
theorem rtext_inj {r q : PRule} (hr : r.pfx.ok) (hq : q.pfx.ok) (h1 : chkS r = 0) (h2 : chkS q = 0) (e : rtext r = rtext q) : r = q := by
  have := plP_hit hr h1
  rw [e, plP_hit hq h2] at this
  exact (congrArg Prod.fst this).symm
end Go.AM.IR
set_option maxHeartbeats 4000000
set_option maxRecDepth 20000
namespace Go.AM.IR
end Go.AM.IR
set_option maxHeartbeats 4000000
set_option maxRecDepth 20000
namespace Go.AM.IR
theorem chk_gives325 (r : PRule) (h : r.ok) : Gives G 325 [.agg r.enc] [] ⟨.int .i64 (chkS r), []⟩ := by
  have hv := valid_gives178 r.pfx h.pfx
  unfold chkS
  cases hvp : validP r.pfx
  · rw [hvp] at hv
    rw [if_neg (by simp)]
    refine gives_code (F := f325) rfl rfl (W_ok 300 _ _ _ _ ?_)
    repeat' ((conv => whnf); first | refine bslP (by first | rfl | (simp [pureL, pureLL, AV.pure]; done) | fail) rfl ?_ | refine TakeC.full (by first | rfl | omega | (simp; done) | (simp; omega) | fail) ?_ | refine zBs ?_ | refine zBn ?_ | refine zBv rfl rfl ?_ | refine zN ?_ | refine zC ?_ | refine zC4 ?_ | refine zOr16 ?_ | refine zC1 ?_ | refine zByte ?_ | refine zMaxL ?_ | refine zMaxR ?_ | refine zMinL ?_ | refine zMinR ?_ | refine zShr ?_ | refine zC8 ?_ | refine zQ ?_ | refine zR ?_ | refine zS ?_ | refine zA ?_ | refine zM ?_ | refine xr rfl ?_ | refine ai rfl ?_ | refine condT ?_ | refine condF ?_ | refine condG1 ?_ | refine condG0 ?_ | refine cD ?_ | refine dD ?_ | refine cB ?_ | refine dB ?_ | refine cN ?_ | refine dN ?_ | refine cV ?_ | refine dV ?_ | refine cE ?_ | refine dE ?_ | refine condX0 ?_ | refine condX1 ?_ | refine condNot ?_ | refine condAnd ?_ | refine condOr ?_ | refine aO ?_ | refine aB ?_ | refine aR ?_ | refine aR ?_ (by simp; omega) | refine xr (by assumption) ?_ | refine ai (by assumption) ?_ | refine kV (hv) ?_ | refine condD (fun h => ?_) (fun h => ?_) | refine condB (fun h => ?_) (fun h => ?_) | refine condN (fun h => ?_) (fun h => ?_) | refine condE (fun h => ?_) (fun h => ?_) | refine condV (fun h => ?_) (fun h => ?_))
    (first | refine ev_fin (And.intro (by first | rfl | (simp [AV.pure, pureL]; done) | fail) ?_) | refine ev_fin0 (And.intro (by first | rfl | (simp [AV.pure, pureL]; done) | fail) ?_)); rfl
  · rw [hvp] at hv
    rw [if_pos rfl]
    by_cases h1 : r.min < r.pfx.len
    · rw [if_pos (.inl h1)]
      refine gives_code (F := f325) rfl rfl (W_ok 300 _ _ _ _ ?_)
      repeat' ((conv => whnf); first | refine bslP (by first | rfl | (simp [pureL, pureLL, AV.pure]; done) | fail) rfl ?_ | refine TakeC.full (by first | rfl | omega | (simp; done) | (simp; omega) | fail) ?_ | refine zBs ?_ | refine zBn ?_ | refine zBv rfl rfl ?_ | refine zN ?_ | refine zC ?_ | refine zC4 ?_ | refine zOr16 ?_ | refine zC1 ?_ | refine zByte ?_ | refine zMaxL ?_ | refine zMaxR ?_ | refine zMinL ?_ | refine zMinR ?_ | refine zShr ?_ | refine zC8 ?_ | refine zQ ?_ | refine zR ?_ | refine zS ?_ | refine zA ?_ | refine zM ?_ | refine xr rfl ?_ | refine ai rfl ?_ | refine condT ?_ | refine condF ?_ | refine condG1 ?_ | refine condG0 ?_ | refine cD ?_ | refine dD ?_ | refine cB ?_ | refine dB ?_ | refine cN ?_ | refine dN ?_ | refine cV ?_ | refine dV ?_ | refine cE ?_ | refine dE ?_ | refine condX0 ?_ | refine condX1 ?_ | refine condNot ?_ | refine condAnd ?_ | refine condOr ?_ | refine aO ?_ | refine aB ?_ | refine aR ?_ | refine aR ?_ (by simp; omega) | refine xr (by assumption) ?_ | refine ai (by assumption) ?_ | refine kV (hv) ?_ | refine condD (fun h => ?_) (fun h => ?_) | refine condB (fun h => ?_) (fun h => ?_) | refine condN (fun h => ?_) (fun h => ?_) | refine condE (fun h => ?_) (fun h => ?_) | refine condV (fun h => ?_) (fun h => ?_))
      (first | refine ev_fin (And.intro (by first | rfl | (simp [AV.pure, pureL]; done) | fail) ?_) | refine ev_fin0 (And.intro (by first | rfl | (simp [AV.pure, pureL]; done) | fail) ?_)); rfl
    · by_cases h2 : r.max < r.min
      · rw [if_pos (.inr (.inl h2))]
        refine gives_code (F := f325) rfl rfl (W_ok 300 _ _ _ _ ?_)
        repeat' ((conv => whnf); first | refine bslP (by first | rfl | (simp [pureL, pureLL, AV.pure]; done) | fail) rfl ?_ | refine TakeC.full (by first | rfl | omega | (simp; done) | (simp; omega) | fail) ?_ | refine zBs ?_ | refine zBn ?_ | refine zBv rfl rfl ?_ | refine zN ?_ | refine zC ?_ | refine zC4 ?_ | refine zOr16 ?_ | refine zC1 ?_ | refine zByte ?_ | refine zMaxL ?_ | refine zMaxR ?_ | refine zMinL ?_ | refine zMinR ?_ | refine zShr ?_ | refine zC8 ?_ | refine zQ ?_ | refine zR ?_ | refine zS ?_ | refine zA ?_ | refine zM ?_ | refine xr rfl ?_ | refine ai rfl ?_ | refine condT ?_ | refine condF ?_ | refine condG1 ?_ | refine condG0 ?_ | refine cD ?_ | refine dD ?_ | refine cB ?_ | refine dB ?_ | refine cN ?_ | refine dN ?_ | refine cV ?_ | refine dV ?_ | refine cE ?_ | refine dE ?_ | refine condX0 ?_ | refine condX1 ?_ | refine condNot ?_ | refine condAnd ?_ | refine condOr ?_ | refine aO ?_ | refine aB ?_ | refine aR ?_ | refine aR ?_ (by simp; omega) | refine xr (by assumption) ?_ | refine ai (by assumption) ?_ | refine kV (hv) ?_ | refine condD (fun h => ?_) (fun h => ?_) | refine condB (fun h => ?_) (fun h => ?_) | refine condN (fun h => ?_) (fun h => ?_) | refine condE (fun h => ?_) (fun h => ?_) | refine condV (fun h => ?_) (fun h => ?_))
        (first | refine ev_fin (And.intro (by first | rfl | (simp [AV.pure, pureL]; done) | fail) ?_) | refine ev_fin0 (And.intro (by first | rfl | (simp [AV.pure, pureL]; done) | fail) ?_)); rfl
      · by_cases h3 : r.max > 32
        · rw [if_pos (.inr (.inr h3))]
          refine gives_code (F := f325) rfl rfl (W_ok 300 _ _ _ _ ?_)
          repeat' ((conv => whnf); first | refine bslP (by first | rfl | (simp [pureL, pureLL, AV.pure]; done) | fail) rfl ?_ | refine TakeC.full (by first | rfl | omega | (simp; done) | (simp; omega) | fail) ?_ | refine zBs ?_ | refine zBn ?_ | refine zBv rfl rfl ?_ | refine zN ?_ | refine zC ?_ | refine zC4 ?_ | refine zOr16 ?_ | refine zC1 ?_ | refine zByte ?_ | refine zMaxL ?_ | refine zMaxR ?_ | refine zMinL ?_ | refine zMinR ?_ | refine zShr ?_ | refine zC8 ?_ | refine zQ ?_ | refine zR ?_ | refine zS ?_ | refine zA ?_ | refine zM ?_ | refine xr rfl ?_ | refine ai rfl ?_ | refine condT ?_ | refine condF ?_ | refine condG1 ?_ | refine condG0 ?_ | refine cD ?_ | refine dD ?_ | refine cB ?_ | refine dB ?_ | refine cN ?_ | refine dN ?_ | refine cV ?_ | refine dV ?_ | refine cE ?_ | refine dE ?_ | refine condX0 ?_ | refine condX1 ?_ | refine condNot ?_ | refine condAnd ?_ | refine condOr ?_ | refine aO ?_ | refine aB ?_ | refine aR ?_ | refine aR ?_ (by simp; omega) | refine xr (by assumption) ?_ | refine ai (by assumption) ?_ | refine kV (hv) ?_ | refine condD (fun h => ?_) (fun h => ?_) | refine condB (fun h => ?_) (fun h => ?_) | refine condN (fun h => ?_) (fun h => ?_) | refine condE (fun h => ?_) (fun h => ?_) | refine condV (fun h => ?_) (fun h => ?_))
          (first | refine ev_fin (And.intro (by first | rfl | (simp [AV.pure, pureL]; done) | fail) ?_) | refine ev_fin0 (And.intro (by first | rfl | (simp [AV.pure, pureL]; done) | fail) ?_)); rfl
        · rw [if_neg (by omega)]
          refine gives_code (F := f325) rfl rfl (W_ok 300 _ _ _ _ ?_)
          repeat' ((conv => whnf); first | refine bslP (by first | rfl | (simp [pureL, pureLL, AV.pure]; done) | fail) rfl ?_ | refine TakeC.full (by first | rfl | omega | (simp; done) | (simp; omega) | fail) ?_ | refine zBs ?_ | refine zBn ?_ | refine zBv rfl rfl ?_ | refine zN ?_ | refine zC ?_ | refine zC4 ?_ | refine zOr16 ?_ | refine zC1 ?_ | refine zByte ?_ | refine zMaxL ?_ | refine zMaxR ?_ | refine zMinL ?_ | refine zMinR ?_ | refine zShr ?_ | refine zC8 ?_ | refine zQ ?_ | refine zR ?_ | refine zS ?_ | refine zA ?_ | refine zM ?_ | refine xr rfl ?_ | refine ai rfl ?_ | refine condT ?_ | refine condF ?_ | refine condG1 ?_ | refine condG0 ?_ | refine cD ?_ | refine dD ?_ | refine cB ?_ | refine dB ?_ | refine cN ?_ | refine dN ?_ | refine cV ?_ | refine dV ?_ | refine cE ?_ | refine dE ?_ | refine condX0 ?_ | refine condX1 ?_ | refine condNot ?_ | refine condAnd ?_ | refine condOr ?_ | refine aO ?_ | refine aB ?_ | refine aR ?_ | refine aR ?_ (by simp; omega) | refine xr (by assumption) ?_ | refine ai (by assumption) ?_ | refine kV (hv) ?_ | refine condD (fun h => ?_) (fun h => ?_) | refine condB (fun h => ?_) (fun h => ?_) | refine condN (fun h => ?_) (fun h => ?_) | refine condE (fun h => ?_) (fun h => ?_) | refine condV (fun h => ?_) (fun h => ?_))
          (first | refine ev_fin (And.intro (by first | rfl | (simp [AV.pure, pureL]; done) | fail) ?_) | refine ev_fin0 (And.intro (by first | rfl | (simp [AV.pure, pureL]; done) | fail) ?_)); rfl
theorem chk_gives326 (r : PRule) (h : r.ok) : Gives G 326 [.agg r.enc] [] ⟨.int .i64 (chkS r), []⟩ := by
  have hv := valid_gives179 r.pfx h.pfx
  unfold chkS
  cases hvp : validP r.pfx
  · rw [hvp] at hv
    rw [if_neg (by simp)]
    refine gives_code (F := f326) rfl rfl (W_ok 300 _ _ _ _ ?_)
    repeat' ((conv => whnf); first | refine bslP (by first | rfl | (simp [pureL, pureLL, AV.pure]; done) | fail) rfl ?_ | refine TakeC.full (by first | rfl | omega | (simp; done) | (simp; omega) | fail) ?_ | refine zBs ?_ | refine zBn ?_ | refine zBv rfl rfl ?_ | refine zN ?_ | refine zC ?_ | refine zC4 ?_ | refine zOr16 ?_ | refine zC1 ?_ | refine zByte ?_ | refine zMaxL ?_ | refine zMaxR ?_ | refine zMinL ?_ | refine zMinR ?_ | refine zShr ?_ | refine zC8 ?_ | refine zQ ?_ | refine zR ?_ | refine zS ?_ | refine zA ?_ | refine zM ?_ | refine xr rfl ?_ | refine ai rfl ?_ | refine condT ?_ | refine condF ?_ | refine condG1 ?_ | refine condG0 ?_ | refine cD ?_ | refine dD ?_ | refine cB ?_ | refine dB ?_ | refine cN ?_ | refine dN ?_ | refine cV ?_ | refine dV ?_ | refine cE ?_ | refine dE ?_ | refine condX0 ?_ | refine condX1 ?_ | refine condNot ?_ | refine condAnd ?_ | refine condOr ?_ | refine aO ?_ | refine aB ?_ | refine aR ?_ | refine aR ?_ (by simp; omega) | refine xr (by assumption) ?_ | refine ai (by assumption) ?_ | refine kV (hv) ?_ | refine condD (fun h => ?_) (fun h => ?_) | refine condB (fun h => ?_) (fun h => ?_) | refine condN (fun h => ?_) (fun h => ?_) | refine condE (fun h => ?_) (fun h => ?_) | refine condV (fun h => ?_) (fun h => ?_))
    (first | refine ev_fin (And.intro (by first | rfl | (simp [AV.pure, pureL]; done) | fail) ?_) | refine ev_fin0 (And.intro (by first | rfl | (simp [AV.pure, pureL]; done) | fail) ?_)); rfl
  · rw [hvp] at hv
    rw [if_pos rfl]
    by_cases h1 : r.min < r.pfx.len
    · rw [if_pos (.inl h1)]
      refine gives_code (F := f326) rfl rfl (W_ok 300 _ _ _ _ ?_)
      repeat' ((conv => whnf); first | refine bslP (by first | rfl | (simp [pureL, pureLL, AV.pure]; done) | fail) rfl ?_ | refine TakeC.full (by first | rfl | omega | (simp; done) | (simp; omega) | fail) ?_ | refine zBs ?_ | refine zBn ?_ | refine zBv rfl rfl ?_ | refine zN ?_ | refine zC ?_ | refine zC4 ?_ | refine zOr16 ?_ | refine zC1 ?_ | refine zByte ?_ | refine zMaxL ?_ | refine zMaxR ?_ | refine zMinL ?_ | refine zMinR ?_ | refine zShr ?_ | refine zC8 ?_ | refine zQ ?_ | refine zR ?_ | refine zS ?_ | refine zA ?_ | refine zM ?_ | refine xr rfl ?_ | refine ai rfl ?_ | refine condT ?_ | refine condF ?_ | refine condG1 ?_ | refine condG0 ?_ | refine cD ?_ | refine dD ?_ | refine cB ?_ | refine dB ?_ | refine cN ?_ | refine dN ?_ | refine cV ?_ | refine dV ?_ | refine cE ?_ | refine dE ?_ | refine condX0 ?_ | refine condX1 ?_ | refine condNot ?_ | refine condAnd ?_ | refine condOr ?_ | refine aO ?_ | refine aB ?_ | refine aR ?_ | refine aR ?_ (by simp; omega) | refine xr (by assumption) ?_ | refine ai (by assumption) ?_ | refine kV (hv) ?_ | refine condD (fun h => ?_) (fun h => ?_) | refine condB (fun h => ?_) (fun h => ?_) | refine condN (fun h => ?_) (fun h => ?_) | refine condE (fun h => ?_) (fun h => ?_) | refine condV (fun h => ?_) (fun h => ?_))
      (first | refine ev_fin (And.intro (by first | rfl | (simp [AV.pure, pureL]; done) | fail) ?_) | refine ev_fin0 (And.intro (by first | rfl | (simp [AV.pure, pureL]; done) | fail) ?_)); rfl
    · by_cases h2 : r.max < r.min
      · rw [if_pos (.inr (.inl h2))]
        refine gives_code (F := f326) rfl rfl (W_ok 300 _ _ _ _ ?_)
        repeat' ((conv => whnf); first | refine bslP (by first | rfl | (simp [pureL, pureLL, AV.pure]; done) | fail) rfl ?_ | refine TakeC.full (by first | rfl | omega | (simp; done) | (simp; omega) | fail) ?_ | refine zBs ?_ | refine zBn ?_ | refine zBv rfl rfl ?_ | refine zN ?_ | refine zC ?_ | refine zC4 ?_ | refine zOr16 ?_ | refine zC1 ?_ | refine zByte ?_ | refine zMaxL ?_ | refine zMaxR ?_ | refine zMinL ?_ | refine zMinR ?_ | refine zShr ?_ | refine zC8 ?_ | refine zQ ?_ | refine zR ?_ | refine zS ?_ | refine zA ?_ | refine zM ?_ | refine xr rfl ?_ | refine ai rfl ?_ | refine condT ?_ | refine condF ?_ | refine condG1 ?_ | refine condG0 ?_ | refine cD ?_ | refine dD ?_ | refine cB ?_ | refine dB ?_ | refine cN ?_ | refine dN ?_ | refine cV ?_ | refine dV ?_ | refine cE ?_ | refine dE ?_ | refine condX0 ?_ | refine condX1 ?_ | refine condNot ?_ | refine condAnd ?_ | refine condOr ?_ | refine aO ?_ | refine aB ?_ | refine aR ?_ | refine aR ?_ (by simp; omega) | refine xr (by assumption) ?_ | refine ai (by assumption) ?_ | refine kV (hv) ?_ | refine condD (fun h => ?_) (fun h => ?_) | refine condB (fun h => ?_) (fun h => ?_) | refine condN (fun h => ?_) (fun h => ?_) | refine condE (fun h => ?_) (fun h => ?_) | refine condV (fun h => ?_) (fun h => ?_))
        (first | refine ev_fin (And.intro (by first | rfl | (simp [AV.pure, pureL]; done) | fail) ?_) | refine ev_fin0 (And.intro (by first | rfl | (simp [AV.pure, pureL]; done) | fail) ?_)); rfl
      · by_cases h3 : r.max > 32
        · rw [if_pos (.inr (.inr h3))]
          refine gives_code (F := f326) rfl rfl (W_ok 300 _ _ _ _ ?_)
          repeat' ((conv => whnf); first | refine bslP (by first | rfl | (simp [pureL, pureLL, AV.pure]; done) | fail) rfl ?_ | refine TakeC.full (by first | rfl | omega | (simp; done) | (simp; omega) | fail) ?_ | refine zBs ?_ | refine zBn ?_ | refine zBv rfl rfl ?_ | refine zN ?_ | refine zC ?_ | refine zC4 ?_ | refine zOr16 ?_ | refine zC1 ?_ | refine zByte ?_ | refine zMaxL ?_ | refine zMaxR ?_ | refine zMinL ?_ | refine zMinR ?_ | refine zShr ?_ | refine zC8 ?_ | refine zQ ?_ | refine zR ?_ | refine zS ?_ | refine zA ?_ | refine zM ?_ | refine xr rfl ?_ | refine ai rfl ?_ | refine condT ?_ | refine condF ?_ | refine condG1 ?_ | refine condG0 ?_ | refine cD ?_ | refine dD ?_ | refine cB ?_ | refine dB ?_ | refine cN ?_ | refine dN ?_ | refine cV ?_ | refine dV ?_ | refine cE ?_ | refine dE ?_ | refine condX0 ?_ | refine condX1 ?_ | refine condNot ?_ | refine condAnd ?_ | refine condOr ?_ | refine aO ?_ | refine aB ?_ | refine aR ?_ | refine aR ?_ (by simp; omega) | refine xr (by assumption) ?_ | refine ai (by assumption) ?_ | refine kV (hv) ?_ | refine condD (fun h => ?_) (fun h => ?_) | refine condB (fun h => ?_) (fun h => ?_) | refine condN (fun h => ?_) (fun h => ?_) | refine condE (fun h => ?_) (fun h => ?_) | refine condV (fun h => ?_) (fun h => ?_))
          (first | refine ev_fin (And.intro (by first | rfl | (simp [AV.pure, pureL]; done) | fail) ?_) | refine ev_fin0 (And.intro (by first | rfl | (simp [AV.pure, pureL]; done) | fail) ?_)); rfl
        · rw [if_neg (by omega)]
          refine gives_code (F := f326) rfl rfl (W_ok 300 _ _ _ _ ?_)
          repeat' ((conv => whnf); first | refine bslP (by first | rfl | (simp [pureL, pureLL, AV.pure]; done) | fail) rfl ?_ | refine TakeC.full (by first | rfl | omega | (simp; done) | (simp; omega) | fail) ?_ | refine zBs ?_ | refine zBn ?_ | refine zBv rfl rfl ?_ | refine zN ?_ | refine zC ?_ | refine zC4 ?_ | refine zOr16 ?_ | refine zC1 ?_ | refine zByte ?_ | refine zMaxL ?_ | refine zMaxR ?_ | refine zMinL ?_ | refine zMinR ?_ | refine zShr ?_ | refine zC8 ?_ | refine zQ ?_ | refine zR ?_ | refine zS ?_ | refine zA ?_ | refine zM ?_ | refine xr rfl ?_ | refine ai rfl ?_ | refine condT ?_ | refine condF ?_ | refine condG1 ?_ | refine condG0 ?_ | refine cD ?_ | refine dD ?_ | refine cB ?_ | refine dB ?_ | refine cN ?_ | refine dN ?_ | refine cV ?_ | refine dV ?_ | refine cE ?_ | refine dE ?_ | refine condX0 ?_ | refine condX1 ?_ | refine condNot ?_ | refine condAnd ?_ | refine condOr ?_ | refine aO ?_ | refine aB ?_ | refine aR ?_ | refine aR ?_ (by simp; omega) | refine xr (by assumption) ?_ | refine ai (by assumption) ?_ | refine kV (hv) ?_ | refine condD (fun h => ?_) (fun h => ?_) | refine condB (fun h => ?_) (fun h => ?_) | refine condN (fun h => ?_) (fun h => ?_) | refine condE (fun h => ?_) (fun h => ?_) | refine condV (fun h => ?_) (fun h => ?_))
          (first | refine ev_fin (And.intro (by first | rfl | (simp [AV.pure, pureL]; done) | fail) ?_) | refine ev_fin0 (And.intro (by first | rfl | (simp [AV.pure, pureL]; done) | fail) ?_)); rfl
end Go.AM.IR
set_option maxHeartbeats 4000000
set_option maxRecDepth 20000
namespace Go.AM.IR
def rtOk (s : List UInt8) (r : PRule) : Prop := chkS r = 0 ∧ rtext r = s
instance (s : List UInt8) (r : PRule) : Decidable (rtOk s r) := by unfold rtOk; infer_instance
def scanI (s : List UInt8) (v : Bool) (p : Pfx) (mn : Int) : Nat → Int → Option Int
  | 0, _ => none
  | f + 1, mx => if 32 < mx then none else if rtOk s ⟨v, p, mn, mx⟩ then some mx else scanI s v p mn f (mx + 1)
def scanO (s : List UInt8) (v : Bool) (p : Pfx) : Nat → Int → Option (Int × Int)
  | 0, _ => none
  | f + 1, mn => if 32 < mn then none else match scanI s v p mn 40 mn with
    | some mx => some (mn, mx)
    | none => scanO s v p f (mn + 1)
theorem scanI_all (s : List UInt8) (v : Bool) (p : Pfx) (mn : Int) : ∀ (f : Nat) (mx : Int), 32 - mx < f → (scanI s v p mn f mx = none ∧ ∀ m, mx ≤ m → m ≤ 32 → ¬ rtOk s ⟨v, p, mn, m⟩) ∨ ∃ m, scanI s v p mn f mx = some m ∧ rtOk s ⟨v, p, mn, m⟩
  | 0, mx, h => .inl ⟨rfl, fun m h1 h2 => by omega⟩
  | f + 1, mx, h => by
    rw [scanI]
    by_cases h1 : 32 < mx
    · rw [if_pos h1]; exact .inl ⟨rfl, fun m h1 h2 => by omega⟩
    · rw [if_neg h1]
      by_cases h2 : rtOk s ⟨v, p, mn, mx⟩
      · rw [if_pos h2]; exact .inr ⟨mx, rfl, h2⟩
      · rw [if_neg h2]
        rcases scanI_all s v p mn f (mx + 1) (by omega) with ⟨q, hq⟩ | q
        · refine .inl ⟨q, fun m h3 h4 => ?_⟩
          by_cases e : m = mx
          · rw [e]; exact h2
          · exact hq m (by omega) h4
        · exact .inr q
theorem scanO_all (s : List UInt8) (v : Bool) (p : Pfx) : ∀ (f : Nat) (mn : Int), 32 - mn < f → 0 ≤ mn → (scanO s v p f mn = none ∧ ∀ a m, mn ≤ a → a ≤ m → m ≤ 32 → ¬ rtOk s ⟨v, p, a, m⟩) ∨ ∃ a m, scanO s v p f mn = some (a, m) ∧ rtOk s ⟨v, p, a, m⟩
  | 0, mn, h, _ => .inl ⟨rfl, fun a m h1 h2 h3 => by omega⟩
  | f + 1, mn, h, h0 => by
    rw [scanO]
    by_cases h1 : 32 < mn
    · rw [if_pos h1]; exact .inl ⟨rfl, fun a m h1 h2 h3 => by omega⟩
    · rw [if_neg h1]
      rcases scanI_all s v p mn 40 mn (by omega) with ⟨q, hq⟩ | ⟨m, q, hq⟩
      · rw [q]
        rcases scanO_all s v p f (mn + 1) (by omega) (by omega) with ⟨q2, hq2⟩ | ⟨a, m, q2, hq2⟩
        · refine .inl ⟨q2, fun a m h3 h4 h5 => ?_⟩
          by_cases e : a = mn
          · rw [e]; rw [e] at h4; exact hq m h4 h5
          · exact hq2 a m (by omega) h4 h5
        · exact .inr ⟨a, m, q2, hq2⟩
      · rw [q]; exact .inr ⟨mn, m, rfl, hq⟩
def headS (s : List UInt8) : Option (Bool × List UInt8) :=
  if 7 < s.length ∧ s.take 7 = wPermit ++ [32] then some (true, s.drop 7) else if 5 < s.length ∧ s.take 5 = wDeny ++ [32] then some (false, s.drop 5) else none
def refB (s : List UInt8) (v : Bool) (rest : List UInt8) : PRule × Int :=
  if (psR (rest.takeWhile (· != 32))).2 = 0 then (match scanO s v (psR (rest.takeWhile (· != 32))).1 40 (psR (rest.takeWhile (· != 32))).1.len with
    | some (a, m) => (⟨v, (psR (rest.takeWhile (· != 32))).1, a, m⟩, 0)
    | none => (zeroR, 2)) else (zeroR, 2)
def refP (s : List UInt8) : PRule × Int := match headS s with
  | some (v, rest) => refB s v rest
  | none => (zeroR, 2)
theorem psR_ok {s : List UInt8} (h : (psR s).2 = 0) : (psR s).1.ok ∧ validP (psR s).1 = true := by
  rw [← ps_eq] at h ⊢
  refine ⟨psP_ok h, ?_⟩
  rcases psP_all s with e | ⟨x, n, hx, hn, _, e⟩
  · rw [e] at h; cases h
  · rw [e] at h ⊢
    unfold psV at h ⊢
    split at h
    · rename_i v
      rw [if_pos v]; exact v
    · cases h
theorem refP_all (s : List UInt8) : refP s = (zeroR, 2) ∨ ∃ r : PRule, r.pfx.ok ∧ chkS r = 0 ∧ s = rtext r ∧ refP s = (r, 0) := by
  unfold refP
  cases headS s with
  | none => exact .inl rfl
  | some q =>
    obtain ⟨v, rest⟩ := q
    simp only
    unfold refB
    by_cases h : (psR (rest.takeWhile (· != 32))).2 = 0
    · rw [if_pos h]
      obtain ⟨ho, hv⟩ := psR_ok h
      have h0 := (validP_len hv).1
      rcases scanO_all s v _ 40 _ (by omega) h0 with ⟨e, _⟩ | ⟨a, m, e, hr⟩
      · rw [e]; exact .inl rfl
      · rw [e]; exact .inr ⟨_, ho, hr.1, hr.2.symm, rfl⟩
    · rw [if_neg h]; exact .inl rfl
theorem headS_hit (v : Bool) (r : List UInt8) (hr : r ≠ []) : headS (verb v ++ 32 :: r) = some (v, r) := by
  obtain ⟨x, t, rfl⟩ : ∃ x t, r = x :: t := by cases r with
    | nil => exact absurd rfl hr
    | cons x t => exact ⟨x, t, rfl⟩
  unfold headS
  cases v
  · rw [if_neg, if_pos]
    · simp [verb, wDeny]
    · simp [verb, wDeny]
    · rintro ⟨_, h⟩
      simp [verb, wDeny, wPermit] at h
  · rw [if_pos]
    · simp [verb, wPermit]
    · simp [verb, wPermit]
theorem refP_hit {r : PRule} (hr : r.pfx.ok) (h : chkS r = 0) : refP (rtext r) = (r, 0) := by
  obtain ⟨v, m1, m2, m3, m0⟩ := chk_zero h
  obtain ⟨pe, hx⟩ := nat_of hr.addr
  have hp := low_ptext (n := r.pfx.len.toNat) hx (by omega)
  have hv : psR (ptext r.pfx.addr.toNat r.pfx.len.toNat) = (r.pfx, 0) := by rw [← ps_eq]; exact pvalid r.pfx hr v
  have hne := ptext_ne r.pfx.addr.toNat r.pfx.len.toNat
  have hw : (ptext r.pfx.addr.toNat r.pfx.len.toNat ++ rtail r).takeWhile (· != 32) = ptext r.pfx.addr.toNat r.pfx.len.toNat := by
    unfold rtail
    split
    · exact (takeW (low_not hp).1).1
    · rw [List.append_nil]; exact takeW_all (low_not hp).1
  have hs : headS (rtext r) = some (r.permit, ptext r.pfx.addr.toNat r.pfx.len.toNat ++ rtail r) := headS_hit _ _ (by simp [hne])
  unfold refP
  rw [hs]
  simp only
  unfold refB
  rw [hw, hv, if_pos rfl]
  simp only
  rcases scanO_all (rtext r) r.permit r.pfx 40 r.pfx.len (by omega) m0 with ⟨e, hno⟩ | ⟨a, m, e, hq⟩
  · exact absurd ⟨h, rfl⟩ (hno r.min r.max m1 m2 m3)
  · rw [e]
    have := rtext_inj (r := ⟨r.permit, r.pfx, a, m⟩) (q := r) hr hr hq.1 h hq.2
    show ((⟨r.permit, r.pfx, a, m⟩ : PRule), (0 : Int)) = _
    rw [this]
theorem pl_eq (s : List UInt8) : plP s = refP s := by
  rcases plP_all s with h | ⟨r, ho, hc, e, h⟩
  · rcases refP_all s with q | ⟨r, ho, hc, e, q⟩
    · rw [h, q]
    · rw [e, plP_hit ho hc] at h
      have := congrArg Prod.snd h
      cases this
  · rw [h, e, refP_hit ho hc]
end Go.AM.IR
set_option maxHeartbeats 4000000
set_option maxRecDepth 20000
namespace Go.AM.IR
theorem shl8 {x : Nat} (hx : x < 16777216) {kv : AV → Prop} (h : kv (.int .u32 ((x * 256 : Nat) : Int))) : ∃ v, binA .shl (.int .u32 (x : Int)) (.int .u64 8) = some v ∧ kv v := by
  refine ⟨_, ?_, h⟩
  show some (AV.int .u32 (IntKind.wrap .u32 ((x : Int) * 2 ^ (min (8 : Int).toNat 32)))) = _
  rw [show (x : Int) * 2 ^ (min (8 : Int).toNat 32) = ((x * 256 : Nat) : Int) from by simp [show min (8 : Int).toNat 32 = 8 from rfl], wrapU32 _ (by omega)]
theorem or8 {x n : Nat} (hx : x < 16777216) (hn : n < 256) {kv : AV → Prop} (h : kv (.int .u32 ((x * 256 + n : Nat) : Int))) : ∃ v, binA .or (.int .u32 ((x * 256 : Nat) : Int)) (.int .u32 (n : Int)) = some v ∧ kv v := by
  refine ⟨_, ?_, h⟩
  show some (AV.int .u32 (intBits .or .u32 _ _)) = _
  rw [or_u32 _ _ (by omega) (by omega), or_add hn]
abbrev Bs := List UInt8
def encS (w : List UInt8) : List AV := [.str w]
theorem pa_loop231 (l : List Bs) (h4 : l.length = 4) (hw : ∀ w ∈ l, w.length < 2 ^ 40) (hl : l.length < 2 ^ 40) (ln : Int) (hln : ln = l.length) : ∀ (rest done : List Bs) (a : Nat) (T : List (Nat × AV)) (H : Heap) (c : Nat) (n : Int) (e : l = done ++ rest) (hn : n = done.length) (ha : a < 256 ^ done.length), Ev G ⟨f231x13LH, ⟨(15, .sl 1 (l.map encS)) :: (16, .int .i64 ln) :: (17, .int .i64 n) :: (5, .int .u32 (a : Int)) :: T, H, c⟩, [.t 2, .t 3], 0⟩ (okA (paL rest a))
  | [], done, a, T, H, c, n, e, hn, ha => by
    have hd : l.length = done.length := by simp [e]
    have hll : (l.map encS).length = l.length := by simp
    refine ev_loop' (W_ok 300 _ _ _ _ ?_)
    repeat' ((conv => whnf); first | refine bslP (by first | rfl | (simp [pureL, pureLL, AV.pure]; done) | fail) rfl ?_ | refine TakeC.full (by first | rfl | omega | (simp; done) | (simp; omega) | fail) ?_ | refine zBs ?_ | refine zBn ?_ | refine zBv rfl rfl ?_ | refine zN ?_ | refine zC ?_ | refine zC4 ?_ | refine zOr16 ?_ | refine zC1 ?_ | refine zByte ?_ | refine zMaxL ?_ | refine zMaxR ?_ | refine zMinL ?_ | refine zMinR ?_ | refine zShr ?_ | refine zC8 ?_ | refine zQ ?_ | refine zR ?_ | refine zS ?_ | refine zA ?_ | refine zM ?_ | refine xr rfl ?_ | refine ai rfl ?_ | refine condT ?_ | refine condF ?_ | refine condG1 ?_ | refine condG0 ?_ | refine cD ?_ | refine dD ?_ | refine cB ?_ | refine dB ?_ | refine cN ?_ | refine dN ?_ | refine cV ?_ | refine dV ?_ | refine cE ?_ | refine dE ?_ | refine condX0 ?_ | refine condX1 ?_ | refine condNot ?_ | refine condAnd ?_ | refine condOr ?_ | refine aO ?_ | refine aB ?_ | refine aR ?_ | refine aR ?_ (by simp; omega) | refine xr (by assumption) ?_ | refine ai (by assumption) ?_ | refine condD (fun h => ?_) (fun h => ?_) | refine condB (fun h => ?_) (fun h => ?_) | refine condN (fun h => ?_) (fun h => ?_) | refine condE (fun h => ?_) (fun h => ?_) | refine condV (fun h => ?_) (fun h => ?_))
    (first | refine ev_fin (And.intro (by first | rfl | (simp [AV.pure, pureL]; done) | fail) ?_) | refine ev_fin0 (And.intro (by first | rfl | (simp [AV.pure, pureL]; done) | fail) ?_)); rfl
  | x :: r, done, a, T, H, c, n, e, hn, ha => by
    have hd : l.length = done.length + (r.length + 1) := by simp [e]
    have hll : (l.map encS).length = l.length := by simp
    have hx : (l.map encS)[n.toNat]? = some (encS x) := by simp [e, hn]
    have ha4 : a < 16777216 := Nat.lt_of_lt_of_le ha (Nat.le_trans (Nat.pow_le_pow_right (by omega) (show done.length ≤ 3 by omega)) (by omega))
    have hn := number_gives250 x 255 (hw x (by simp [e]))
    by_cases hb : numB 255 x = true
    · obtain ⟨k, hk, ek, hv⟩ := num_back hb
      rw [hb, hv] at hn
      rw [paL, if_pos hb, hv, Int.toNat_natCast]
      refine ev_loop' (W_ok 300 _ _ _ _ ?_)
      repeat' ((conv => whnf); first | refine shl8 ha4 ?_ | refine or8 ha4 (by omega) ?_ | refine bslP (by first | rfl | (simp [pureL, pureLL, AV.pure]; done) | fail) rfl ?_ | refine TakeC.full (by first | rfl | omega | (simp; done) | (simp; omega) | fail) ?_ | refine zBs ?_ | refine zBn ?_ | refine zBv rfl rfl ?_ | refine zN ?_ | refine zC ?_ | refine zC4 ?_ | refine zOr16 ?_ | refine zC1 ?_ | refine zByte ?_ | refine zMaxL ?_ | refine zMaxR ?_ | refine zMinL ?_ | refine zMinR ?_ | refine zShr ?_ | refine zC8 ?_ | refine zQ ?_ | refine zR ?_ | refine zS ?_ | refine zA ?_ | refine zM ?_ | refine xr rfl ?_ | refine ai rfl ?_ | refine condT ?_ | refine condF ?_ | refine condG1 ?_ | refine condG0 ?_ | refine cD ?_ | refine dD ?_ | refine cB ?_ | refine dB ?_ | refine cN ?_ | refine dN ?_ | refine cV ?_ | refine dV ?_ | refine cE ?_ | refine dE ?_ | refine condX0 ?_ | refine condX1 ?_ | refine condNot ?_ | refine condAnd ?_ | refine condOr ?_ | refine aO ?_ | refine aB ?_ | refine aR ?_ | refine aR ?_ (by simp; omega) | refine xr (by assumption) ?_ | refine ai (by assumption) ?_ | refine kV (hn) ?_ | refine condD (fun h => ?_) (fun h => ?_) | refine condB (fun h => ?_) (fun h => ?_) | refine condN (fun h => ?_) (fun h => ?_) | refine condE (fun h => ?_) (fun h => ?_) | refine condV (fun h => ?_) (fun h => ?_))
      refine ev_keep [15, 16, 17, 5] [] ?_; exact pa_loop231 l h4 hw hl ln hln r (done ++ [x]) (a * 256 + k) _ _ _ (n + 1) (by simp [e]) (by simp [hn] <;> omega) (by rw [List.length_append, List.length_singleton, Nat.pow_succ]; omega)
    · have hb2 : numB 255 x = false := by simpa using hb
      rw [hb2] at hn
      rw [paL, if_neg hb]
      refine ev_loop' (W_ok 300 _ _ _ _ ?_)
      repeat' ((conv => whnf); first | refine bslP (by first | rfl | (simp [pureL, pureLL, AV.pure]; done) | fail) rfl ?_ | refine TakeC.full (by first | rfl | omega | (simp; done) | (simp; omega) | fail) ?_ | refine zBs ?_ | refine zBn ?_ | refine zBv rfl rfl ?_ | refine zN ?_ | refine zC ?_ | refine zC4 ?_ | refine zOr16 ?_ | refine zC1 ?_ | refine zByte ?_ | refine zMaxL ?_ | refine zMaxR ?_ | refine zMinL ?_ | refine zMinR ?_ | refine zShr ?_ | refine zC8 ?_ | refine zQ ?_ | refine zR ?_ | refine zS ?_ | refine zA ?_ | refine zM ?_ | refine xr rfl ?_ | refine ai rfl ?_ | refine condT ?_ | refine condF ?_ | refine condG1 ?_ | refine condG0 ?_ | refine cD ?_ | refine dD ?_ | refine cB ?_ | refine dB ?_ | refine cN ?_ | refine dN ?_ | refine cV ?_ | refine dV ?_ | refine cE ?_ | refine dE ?_ | refine condX0 ?_ | refine condX1 ?_ | refine condNot ?_ | refine condAnd ?_ | refine condOr ?_ | refine aO ?_ | refine aB ?_ | refine aR ?_ | refine aR ?_ (by simp; omega) | refine xr (by assumption) ?_ | refine ai (by assumption) ?_ | refine kV (hn) ?_ | refine condD (fun h => ?_) (fun h => ?_) | refine condB (fun h => ?_) (fun h => ?_) | refine condN (fun h => ?_) (fun h => ?_) | refine condE (fun h => ?_) (fun h => ?_) | refine condV (fun h => ?_) (fun h => ?_))
      (first | refine ev_fin (And.intro (by first | rfl | (simp [AV.pure, pureL]; done) | fail) ?_) | refine ev_fin0 (And.intro (by first | rfl | (simp [AV.pure, pureL]; done) | fail) ?_)); rfl
theorem split_gives249 (s : List UInt8) (hs : s.length < 4294967281) : Gives G 249 [.str s, .str [46]] [] ⟨.sl 1 ((Lib.split s [46]).map encS), []⟩ := by
  show pSplit [.str s, .str [46]] [] = _
  exact if_pos ⟨hs, by simp⟩
end Go.AM.IR
