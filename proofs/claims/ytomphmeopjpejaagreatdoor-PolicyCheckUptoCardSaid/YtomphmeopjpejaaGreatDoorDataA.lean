/- What the functions of this program give, on the abstract machine. -/
import Derived.Test.YtomphmeopjpejaaGreatDoorMachineC
import Derived.Test.YtomphmeopjpejaaGreatDoorLibraryA
import Derived.KernelRfl
set_option linter.unusedVariables false
set_option linter.unusedSimpArgs false
set_option maxRecDepth 100000
namespace Go.AM.IR
open Go Go.AM
abbrev LO := List AOper
abbrev LI := List AItem
abbrev Rg (a : LO) : ACode := .region a false
abbrev Rd (a : LO) : ACode := .region a true
abbrev Sq := ACode.seq
abbrev Sk := ACode.skip
abbrev Rt := ACode.ret
abbrev Cn (n : Nat) (a b : ACode) : ACode := .cond (.t n) a b
abbrev Bk := ACode.block
abbrev Xt := ACode.exit
abbrev Rr (a : LO) : ACode := .seq (.region a false) .ret
abbrev Cx (n e : Nat) : ACode := .cond (.t n) .skip (.exit e)
abbrev Ci (n : Nat) (a : ACode) : ACode := .cond (.t n) a .skip
abbrev Sr (a : LO) (b : ACode) : ACode := .seq (.region a false) b
abbrev Bl (n : Nat) (a : ACode) : ACode := .block n (.loop a)
abbrev zz0:List AV:=[.int .i64 0, .int .i64 0, .int .i64 0, .con (.slice none 0 0)]
abbrev zz1:List AV:=[.str [], .con (.slice none 0 0)]
abbrev zz2:List AV:=[.int .i64 0, .int .i64 0, .int .i64 0, .int .u32 0, .int .u32 0]
abbrev zz3:List AV:=[.str [], .con (.slice none 0 0), .int .i64 0]
abbrev zz4:List AV:=[.con (.slice none 0 0), .con (.slice none 0 0), .con (.slice none 0 0), .con (.slice none 0 0)]
abbrev zz5:List AV:=[.str [], .con (.slice none 0 0), .con (.slice none 0 0), .int .i64 0]
abbrev zz6:List AV:=[.bool false, .int .u32 0, .int .i64 0, .int .i64 0, .int .i64 0]
abbrev zz7:List AV:=[.int .i64 0, .str [], .int .i64 0, .int .u32 0, .int .i64 0, .bool false]
abbrev zz8:List AV:=[.int .u32 0, .int .i64 0]
abbrev zz9:List AV:=[.bool false, .int .i64 0, .int .i64 0]
abbrev Dx:List AV:=[.bool false, .str []]
def ZR:LO:=[Op 1 (.box (.t 0)),Mc 2 (.bool false)]
def ZP:LO:=[Ls 3 4 1,Ct 4 668 [3]]
def ZO:LO:=[Ct 5 669 [],Mv 2 5]
def ZN:LO:=[Ls 6 4 1,Af [0] (Ct 7 451 [6]),Ls 8 4 1,Af [2, 1, 0] (Ct 9 444 [8]),Bi 10 .eql 7 9,Mv 11 10,Af [3, 2, 1, 0] (Gt 11 (Ct 12 669 [])),Pa 13 11 12,Mv 2 13]
def f662 : AFunc := ⟨14, 1, false, [.t 2], (Sr ZR (Sq (Sr ZP (Ci 4 (Rr ZO))) (Sq (Rd ZN) Rt)))⟩
def ZM:LO:=[Op 1 (.box (.t 0)),Mc 2 (.bool false)]
def ZL:LO:=[Ls 3 4 1,Ct 4 435 [3],Bc 5 .gtr 4 400,Mv 2 5]
def f668 : AFunc := ⟨6, 1, false, [.t 2], (Sr ZM (Rr ZL))⟩
def ZK:LO:=[Mc 0 (.bool false)]
def ZH:LO:=[
 Ca 20 418 [(.c (.str [112, 114, 101, 102, 105, 120, 45, 108, 105, 115, 116, 32, 111, 119, 110, 10, 112, 101, 114, 109, 105, 116, 32, 49, 48, 46, 48, 46, 48, 46, 48, 47, 56, 32, 56, 45, 50, 52, 10, 99, 111, 109, 109, 117, 110, 105, 116, 121, 45, 108, 105, 115, 116, 32, 98, 108, 117, 101, 10, 112, 101, 114, 109, 105, 116, 32, 54, 53, 48, 48, 48, 58, 42, 10, 112, 111, 108, 105, 99, 121, 32, 105, 109, 112, 111, 114, 116, 10, 116, 101, 114, 109, 32, 102, 105, 114, 115, 116, 10, 109, 97, 116, 99, 104, 32, 110, 111, 116, 32, 112, 114, 101, 102, 105, 120, 45, 108, 105, 115, 116, 32, 111, 119, 110, 10, 115, 101, 116, 32, 112, 114, 101, 102, 32, 50, 48, 48, 10, 97, 99, 99, 101, 112, 116, 10, 100, 101, 102, 97, 117, 108, 116, 32, 114, 101, 106, 101, 99, 116, 10]))],
 Mv 19 20,Ex 21 19 0,Ex 22 19 1,Ex 23 19 2,Op 1 (.alloc (.agg zz4)),St 4 1 21,Mv 2 22,Mv 3 23]
def ZF:LO:=[Ls 25 4 1,Ct 26 405 [25],Mv 24 26,Ex 27 24 0,Ex 28 24 1,Mv 4 27,Mv 5 28]
def ZE:LO:=[Ls 30 4 1,Ca 31 566 [(.t 30), (.c (.str [105, 109, 112, 111, 114, 116]))],Mv 29 31,Ex 32 29 0,Ex 33 29 1,Op 6 (.alloc (.agg zz3)),St 3 6 32,Mv 7 33]
def ZC:LO:=[Ls 35 4 1,Ca 36 566 [(.t 35), (.c (.str [101, 120, 112, 111, 114, 116]))],Mv 34 36,Ex 37 34 0,Ex 38 34 1,Op 8 (.alloc (.agg zz3)),St 3 8 37,Mv 9 38]
def Zy:LO:=[Mv 39 3,Bc 40 .neq 39 0,Mv 41 40,Gf 41 (Mv 42 2),Gf 41 (Bc 43 .neq 42 0),Po 44 41 43,Mv 45 44,Gf 45 (Mv 46 5),Gf 45 (Bc 47 .neq 46 0),Po 48 45 47,Mv 49 48,Gf 49 (Mv 50 4),
 Gf 49 (Op 51 (.bin .neq (.t 50) (.c (.str [112, 114, 101, 102, 105, 120, 45, 108, 105, 115, 116, 32, 111, 119, 110, 10, 112, 101, 114, 109, 105, 116, 32, 49, 48, 46, 48, 46, 48, 46, 48, 47, 56, 32, 56, 45, 50, 52, 10, 99, 111, 109, 109, 117, 110, 105, 116, 121, 45, 108, 105, 115, 116, 32, 98, 108, 117, 101, 10, 112, 101, 114, 109, 105, 116, 32, 54, 53, 48, 48, 48, 58, 42, 10, 112, 111, 108, 105, 99, 121, 32, 105, 109, 112, 111, 114, 116, 10, 116, 101, 114, 109, 32, 102, 105, 114, 115, 116, 10, 109, 97, 116, 99, 104, 32, 110, 111, 116, 32, 112, 114, 101, 102, 105, 120, 45, 108, 105, 115, 116, 32, 111, 119, 110, 10, 115, 101, 116, 32, 112, 114, 101, 102, 32, 50, 48, 48, 10, 97, 99, 99, 101, 112, 116, 10, 100, 101, 102, 97, 117, 108, 116, 32, 114, 101, 106, 101, 99, 116, 10])))),
 Po 52 49 51,Mv 53 52,Gf 53 (Mv 54 7),Gf 53 (Un 55 .not 54),Po 56 53 55,Mv 57 56,Gf 57 (Mv 58 9),Po 59 57 58,Mv 60 59,Gf 60 (Fa 61 1 6),Gf 60 (Ld 62 61),Gf 60 (Ln 63 0 62),Gf 60 (Bc 64 .neq 63 1),Po 65 60 64,Mv 66 65,Gf 66 (Fa 67 2 6),Gf 66 (Ld 68 67),Gf 66 (Bc 69 .neq 68 2),Po 70 66 69,Mv 71 70,Gf 71 (Ls 72 4 1),Gf 71 (Ct 73 451 [72]),Gf 71 (Bc 74 .neq 73 0),Po 75 71 74,Mv 76 75,Gf 76 (Ls 77 4 1),
 Gf 76 (Ls 78 4 1),Gf 76 (Ct 79 670 [77, 78]),Gf 76 (Un 80 .not 79),Po 81 76 80,Mv 82 81,Gf 82 (Ls 83 4 1),Gf 82 (Op 84 (.build zz4 [] [])),Gf 82 (Ct 85 670 [83, 84]),Po 86 82 85]
def Zx:LO:=[Mc 0 (.bool false)]
def Zw:LO:=[Ca 88 418 [(.c (.str [112, 111, 108, 105, 99, 121, 32, 97, 10, 116, 101, 114, 109, 32, 98, 10, 97, 99, 99, 101, 112, 116, 10, 116, 101, 114, 109, 32, 98, 10]))],Mv 87 88,Ex 89 87 0,Ex 90 87 1,Ex 91 87 2,Op 10 (.alloc (.agg zz4)),St 4 10 89,Mv 11 90,Mv 12 91]
def Zu:LO:=[Ca 93 418 [(.c (.str [112, 111, 108, 105, 99, 121, 32, 97, 10, 116, 101, 114, 109, 32, 98, 10, 109, 97, 116, 99, 104, 32, 112, 114, 101, 102, 105, 120, 45, 108, 105, 115, 116, 32, 99, 10]))],Mv 92 93,Ex 94 92 0,Ex 95 92 1,Ex 96 92 2,Op 13 (.alloc (.agg zz4)),St 4 13 94,Mv 14 95,Mv 15 96]
def Zt:LO:=[Ca 98 418 [(.c (.str [112, 111, 108, 105, 99, 121, 32, 97, 10, 116, 101, 114, 109, 32, 98, 10]))],Mv 97 98,Ex 99 97 0,Ex 100 97 1,Ex 101 97 2,Op 16 (.alloc (.agg zz4)),St 4 16 99,Mv 17 100,Mv 18 101]
def LR:LO:=[Mv 102 11,Bc 103 .eql 102 4,Mv 104 103,Gt 104 (Mv 105 12),Gt 104 (Bc 106 .eql 105 7),Pa 107 104 106,Mv 108 107,Gt 108 (Mv 109 14),Gt 108 (Bc 110 .eql 109 3),Pa 111 108 110,Mv 112 111,Gt 112 (Mv 113 15),Gt 112 (Bc 114 .eql 113 6),Pa 115 112 114,Mv 116 115,Gt 116 (Mv 117 17),Gt 116 (Bc 118 .eql 117 3),Pa 119 116 118,Mv 120 119,Gt 120 (Mv 121 18),Gt 120 (Bc 122 .eql 121 3),Pa 123 120 122,Mv 0 123]
def f669 : AFunc := ⟨124, 0, false, [.t 0], (Sr ZK (Sr ZH (Sr ZF (Sr ZE (Sr ZC (Sq (Sr Zy (Ci 86 (Rr Zx))) (Sr Zw (Sr Zu (Sr Zt (Rr LR))))))))))⟩
def GV:LO:=[Op 1 (.box (.t 0)),Mc 2 (.int .i64 0)]
def wC:LO:=[Ls 5 4 1,Ct 6 507 [5],Op 3 (.alloc (.agg zz4)),St 4 3 6]
def ajZ:LO:=[Op 7 (.iarr 4 1 (.t 3) (.c (.int .i64 0))),Ld 8 7,Op 9 (.mkfn 509 [(.t 1)]),Op 10 (.mkfn 510 [(.t 1)]),Ct 11 508 [8, 9, 10],Mv 4 11]
def ajY:LO:=[Mv 12 4,Bc 13 .neq 12 0]
def ajX:LO:=[Mv 14 4,Mv 2 14]
def ajW:LO:=[Op 15 (.iarr 4 1 (.t 3) (.c (.int .i64 1))),Ld 16 15,Op 17 (.mkfn 513 [(.t 1)]),Op 18 (.mkfn 514 [(.t 1)]),Ct 19 508 [16, 17, 18],Mv 4 19]
def ajV:LO:=[Mv 20 4,Bc 21 .neq 20 0]
def ajU:LO:=[Mv 22 4,Mv 2 22]
def ajT:LO:=[Op 23 (.iarr 4 1 (.t 3) (.c (.int .i64 2))),Ld 24 23,Op 25 (.mkfn 517 [(.t 1)]),Op 26 (.mkfn 518 [(.t 1)]),Ct 27 508 [24, 25, 26],Mv 4 27]
def ajS:LO:=[Mv 28 4,Bc 29 .neq 28 0]
def T8:LO:=[Mv 30 4,Mv 2 30]
def T7:LO:=[Op 31 (.iarr 4 1 (.t 3) (.c (.int .i64 3))),Ld 32 31,Op 33 (.mkfn 521 [(.t 1)]),Op 34 (.mkfn 522 [(.t 3), (.t 1)]),Ct 35 508 [32, 33, 34],Mv 2 35]
def f451 : AFunc := ⟨36, 1, false, [.t 2], (Sr GV (Sr wC (Sr ajZ (Sq (Sr ajY (Ci 13 (Rr ajX))) (Sr ajW (Sq (Sr ajV (Ci 21 (Rr ajU))) (Sr ajT (Sq (Sr ajS (Ci 29 (Rr T8))) (Rr T7)))))))))⟩
def aj9:LO:=[Op 1 (.box (.t 0)),Mc 2 (.int .i64 0)]
def aj8:LO:=[Fa 12 0 1,Ld 13 12,Ct 14 497 [13],Mv 3 14]
def aj7:LO:=[Mv 15 3,Bc 16 .neq 15 0]
def aj6:LO:=[Mv 17 3,Mv 2 17]
def aj5:LO:=[Fa 18 1 1,Ld 19 18,Ct 20 498 [19],Mv 4 20]
def aj4:LO:=[Mv 21 4,Bc 22 .neq 21 0]
def aj3:LO:=[Mv 23 4,Mv 2 23]
def aj2:LO:=[Fa 24 2 1,Ld 25 24,Ct 26 499 [25],Mv 5 26]
def aj1:LO:=[Mv 27 5,Bc 28 .neq 27 0]
def aj0:LO:=[Mv 29 5,Mv 2 29]
def Ut:LO:=[Fa 30 3 1,Ld 31 30,Ln 32 0 31,Bc 33 .gtr 32 64]
def Ur:LO:=[Mc 2 (.int .i64 4)]
def Uq:LO:=[Mc 6 (.str [])]
def Uo:LO:=[Fa 34 3 1,Ld 35 34,Ln 36 0 35,Mc 37 (.int .i64 0)]
def Um:LO:=[Bi 38 .lss 37 36]
def Ul:LO:=[Mv 39 37,Ia 40 3 35 37,Ls 41 3 40,Op 8 (.alloc (.agg zz3)),Mv 7 39,St 3 8 41]
def Uk:LO:=[Fa 42 0 8,Ld 43 42,Mv 44 6,Mv 45 7,Bc 46 .eql 45 0,Fa 47 1 8,Ld 48 47,Ln 49 0 48,Ct 50 500 [43, 44, 46, 49],Mv 9 50]
def Uj:LO:=[Mv 51 9,Bc 52 .neq 51 0]
def Ui:LO:=[Mv 53 9,Mv 2 53]
def Uh:LO:=[Fa 54 0 8,Ld 55 54,Mv 6 55]
def Ug:LO:=[Fa 56 1 8,Ld 57 56,Ln 58 0 57,Mc 59 (.int .i64 0)]
def Uf:LO:=[Bi 60 .lss 59 58]
def Ue:LO:=[Mv 61 59,Mv 10 61]
def Ud:LO:=[Ls 62 4 1,Ls 63 3 8,Mv 64 10,Ct 65 501 [62, 63, 64],Mv 11 65]
def Uc:LO:=[Mv 66 11,Bc 67 .neq 66 0]
def Ub:LO:=[Mv 68 11,Mv 2 68]
def Ua:LO:=[Bc 69 .add 59 1,Mv 59 69]
def wD:ACode:=(Sr Uf (Sq (Cx 60 2) (Sq (Bk 3 (Sr Ue (Sr Ud (Sr Uc (Ci 67 (Rr Ub)))))) (Rg Ua))))
def Cy:LO:=[Fa 70 2 8,Ld 71 70,Bc 72 .neq 71 1,Mv 73 72,Gt 73 (Fa 74 2 8),Gt 73 (Ld 75 74),Gt 73 (Bc 76 .neq 75 2),Pa 77 73 76]
def Cw:LO:=[Mc 2 (.int .i64 15)]
def Cu:LO:=[Bc 78 .add 37 1,Mv 37 78]
def oT:ACode:=(Sr Um (Sq (Cx 38 0) (Sq (Bk 1 (Sr Ul (Sq (Sr Uk (Sr Uj (Ci 52 (Rr Ui)))) (Sr Uh (Sq (Sr Ug (Bl 2 wD)) (Sr Cy (Ci 77 (Rr Cw)))))))) (Rg Cu))))
def sc:LO:=[Mc 2 (.int .i64 0)]
def f444 : AFunc := ⟨79, 1, false, [.t 2], (Sr aj9 (Sq (Sr aj8 (Sr aj7 (Ci 16 (Rr aj6)))) (Sq (Sr aj5 (Sr aj4 (Ci 22 (Rr aj3)))) (Sq (Sr aj2 (Sr aj1 (Ci 28 (Rr aj0)))) (Sq (Sr Ut (Ci 33 (Rr Ur))) (Sr Uq (Sq (Sr Uo (Bl 0 oT)) (Rr sc))))))))⟩
def tr:LI:=[.inLoop oT, .inBlock 0, .code (Rr sc)]
def GW:LI:=[.inLoop wD, .inBlock 2, .code (Sr Cy (Ci 77 (Rr Cw))), .inBlock 1, .code (Rg Cu), .inLoop oT, .inBlock 0, .code (Rr sc)]
def akB:LO:=[Op 1 (.box (.t 0)),Mc 2 (.str []),Mc 3 (.int .i64 0)]
def akA:LO:=[Ls 22 4 1,Ct 23 451 [22],Mv 4 23]
def akz:LO:=[Mv 24 4,Bc 25 .neq 24 0]
def aky:LO:=[Mv 26 4,Mc 2 (.str []),Mv 3 26]
def akx:LO:=[Mc 5 (.str [])]
def akw:LO:=[Fa 27 0 1,Ld 28 27,Ln 29 0 28,Mc 30 (.int .i64 0)]
def akv:LO:=[Bi 31 .lss 30 29]
def aku:LO:=[Ia 32 2 28 30,Ls 33 2 32,Op 7 (.alloc (.agg zz1)),St 2 7 33]
def akt:LO:=[Mv 34 5,Fa 35 0 7,Ld 36 35,Op 37 (.bin .add (.c (.str [112, 114, 101, 102, 105, 120, 45, 108, 105, 115, 116, 32])) (.t 36)),Op 38 (.bin .add (.t 37) (.c (.str [10]))),Bi 39 .add 34 38,Mv 5 39]
def aks:LO:=[Fa 40 1 7,Ld 41 40,Ln 42 0 41,Mc 43 (.int .i64 0)]
def Vp:LO:=[Bi 44 .lss 43 42]
def Vo:LO:=[Ia 45 5 41 43,Ls 46 5 45,Op 9 (.alloc (.agg zz6)),St 5 9 46]
def Vn:LO:=[Ls 48 5 9,Ct 49 332 [48],Mv 47 49,Ex 50 47 0,Ex 51 47 1,Mv 10 50,Mv 11 51]
def Vm:LO:=[Mv 52 5,Mv 53 10,Op 54 (.bin .add (.t 53) (.c (.str [10]))),Bi 55 .add 52 54,Mv 5 55]
def Vl:LO:=[Bc 56 .add 43 1,Mv 43 56]
def wM:ACode:=(Sr Vp (Sq (Cx 44 2) (Sq (Bk 3 (Sr Vo (Sr Vn (Rg Vm)))) (Rg Vl))))
def CN:LO:=[Bc 57 .add 30 1,Mv 30 57]
def oV:ACode:=(Sr akv (Sq (Cx 31 0) (Sq (Bk 1 (Sr aku (Sr akt (Sr aks (Bl 2 wM))))) (Rg CN))))
def se:LO:=[Fa 58 1 1,Ld 59 58,Ln 60 0 59,Mc 61 (.int .i64 0)]
def Vk:LO:=[Bi 62 .lss 61 60]
def Vj:LO:=[Ia 63 2 59 61,Ls 64 2 63,Op 13 (.alloc (.agg zz1)),St 2 13 64]
def Vi:LO:=[Mv 65 5,Fa 66 0 13,Ld 67 66,Op 68 (.bin .add (.c (.str [112, 97, 116, 104, 45, 108, 105, 115, 116, 32])) (.t 67)),Op 69 (.bin .add (.t 68) (.c (.str [10]))),Bi 70 .add 65 69,Mv 5 70]
def Vh:LO:=[Fa 71 1 13,Ld 72 71,Ln 73 0 72,Mc 74 (.int .i64 0)]
def Vg:LO:=[Bi 75 .lss 74 73]
def Ve:LO:=[Ia 76 2 72 74,Ls 77 2 76,Op 15 (.alloc (.agg Dx)),St 2 15 77]
def Vd:LO:=[Mv 78 5,Fa 79 0 15,Ld 80 79,Af [2] (Ct 81 452 [80]),Fa 82 1 15,Ld 83 82,Bi 84 .add 81 83,Op 85 (.bin .add (.t 84) (.c (.str [10]))),Bi 86 .add 78 85,Mv 5 86]
def Vc:LO:=[Bc 87 .add 74 1,Mv 74 87]
def wL:ACode:=(Sr Vg (Sq (Cx 75 6) (Sq (Bk 7 (Sr Ve (Rd Vd))) (Rg Vc))))
def CM:LO:=[Bc 88 .add 61 1,Mv 61 88]
def jC:ACode:=(Sr Vk (Sq (Cx 62 4) (Sq (Bk 5 (Sr Vj (Sr Vi (Sr Vh (Bl 6 wL))))) (Rg CM))))
def kD:LO:=[Fa 89 2 1,Ld 90 89,Ln 91 0 90,Mc 92 (.int .i64 0)]
def Vb:LO:=[Bi 93 .lss 92 91]
def Va:LO:=[Ia 94 2 90 92,Ls 95 2 94,Op 17 (.alloc (.agg zz1)),St 2 17 95]
def U9:LO:=[Mv 96 5,Fa 97 0 17,Ld 98 97,Op 99 (.bin .add (.c (.str [99, 111, 109, 109, 117, 110, 105, 116, 121, 45, 108, 105, 115, 116, 32])) (.t 98)),Op 100 (.bin .add (.t 99) (.c (.str [10]))),Bi 101 .add 96 100,Mv 5 101]
def U7:LO:=[Fa 102 1 17,Ld 103 102,Ln 104 0 103,Mc 105 (.int .i64 0)]
def U6:LO:=[Bi 106 .lss 105 104]
def U5:LO:=[Ia 107 3 103 105,Ls 108 3 107,Op 19 (.alloc (.agg zz9)),St 3 19 108]
def UZ:LO:=[Mv 109 5,Fa 110 0 19,Ld 111 110,Af [2] (Ct 112 452 [111]),Fa 113 1 19,Ld 114 113,Af [5, 3, 2] (Ct 115 453 [114]),Bi 116 .add 112 115,Op 117 (.bin .add (.t 116) (.c (.str [58]))),Fa 118 2 19,Ld 119 118,Af [10, 6, 5, 3, 2] (Ct 120 453 [119]),Bi 121 .add 117 120,Op 122 (.bin .add (.t 121) (.c (.str [10]))),Bi 123 .add 109 122,Mv 5 123]
def UY:LO:=[Bc 124 .add 105 1,Mv 105 124]
def wH:ACode:=(Sr U6 (Sq (Cx 106 10) (Sq (Bk 11 (Sr U5 (Rd UZ))) (Rg UY))))
def CK:LO:=[Bc 125 .add 92 1,Mv 92 125]
def fY:ACode:=(Sr Vb (Sq (Cx 93 8) (Sq (Bk 9 (Sr Va (Sr U9 (Sr U7 (Bl 10 wH))))) (Rg CK))))
def gX:LO:=[Fa 126 3 1,Ld 127 126,Ln 128 0 127,Mc 129 (.int .i64 0)]
def UX:LO:=[Bi 130 .lss 129 128]
def UW:LO:=[Ia 131 3 127 129,Ls 132 3 131,Op 21 (.alloc (.agg zz3)),St 3 21 132]
def UV:LO:=[Mv 133 5,Ls 134 3 21,Ct 135 454 [134],Bi 136 .add 133 135,Mv 5 136]
def UT:LO:=[Mv 137 5,Ln 138 1 137,Bc 139 .gtr 138 65536]
def UR:LO:=[Bc 140 .add 129 1,Mv 129 140]
def ff:ACode:=(Sr UX (Sq (Cx 130 12) (Sq (Bk 13 (Sr UW (Sr UV (Sr UT (Cn 139 (Xt 12) Sk))))) (Rg UR))))
def f7:LO:=[Mv 141 5,Ln 142 1 141,Bc 143 .gtr 142 65536]
def f6:LO:=[Mc 2 (.str []),Mc 3 (.int .i64 4)]
def f5:LO:=[Mv 144 5,Mv 2 144,Mc 3 (.int .i64 0)]
def f405 : AFunc := ⟨145, 1, false, [.t 2, .t 3], (Sr akB (Sq (Sr akA (Sr akz (Ci 25 (Rr aky)))) (Sr akx (Sq (Sr akw (Bl 0 oV)) (Sq (Sr se (Bl 4 jC)) (Sq (Sr kD (Bl 8 fY)) (Sq (Sr gX (Bl 12 ff)) (Sq (Sr f7 (Ci 143 (Rr f6))) (Rr f5)))))))))⟩
def akr:LO:=[Op 2 (.alloc (.agg zz4)),Mc 3 (.int .i64 0),Mc 4 (.int .i64 0)]
def akq:LO:=[Mv 10 0,Ln 11 1 10,Bc 12 .gtr 11 65536]
def akp:LO:=[Op 13 (.build zz4 [] []),St 4 2 13,Mc 3 (.int .i64 0),Mc 4 (.int .i64 4)]
def ako:LO:=[Op 14 (.build [.con (.slice none 0 0), .con (.slice none 0 0), .con (.slice none 0 0), .con (.slice none 0 0), .con (.slice none 0 0), .con (.slice none 0 0), .con (.slice none 0 0), .con (.slice none 0 0), .int .i64 0, .bool false, .bool false] [] []),Op 15 (.box (.t 14)),Mv 5 15]
def akn:LO:=[Mc 6 (.int .i64 0),Mc 7 (.int .i64 0)]
def akm:LO:=[Mv 16 0,Ln 17 1 16,Mc 18 (.int .i64 0)]
def akl:LO:=[Bi 19 .lss 18 17]
def akk:LO:=[Mv 20 18,Mv 8 20]
def akj:LO:=[Mv 21 0,Mv 22 8,Op 23 (.istr (.t 21) (.t 22)),Op 24 (.bin .neq (.t 23) (.c (.int .u8 10)))]
def aki:LO:=[Mv 25 7,Bc 26 .add 25 1,Mv 7 26]
def UQ:LO:=[Mv 27 5,Mv 28 0,Mv 29 6,Mv 30 8,Op 31 (.slstr (.t 28) (some (.t 29)) (some (.t 30))),Ct 32 466 [27, 31],Mv 9 32]
def UO:LO:=[Mv 33 9,Bc 34 .neq 33 0]
def UM:LO:=[Op 35 (.build zz4 [] []),Mv 36 7,Mv 37 9,St 4 2 35,Mv 3 36,Mv 4 37]
def UL:LO:=[Mv 38 8,Bc 39 .add 38 1,Mv 6 39]
def UK:LO:=[Bc 40 .add 18 1,Mv 18 40]
def wG:ACode:=(Sr akl (Sq (Cx 19 0) (Sq (Bk 1 (Sr akk (Sq (Sr akj (Cn 24 (Xt 1) Sk)) (Sr aki (Sq (Sr UQ (Sr UO (Ci 34 (Rr UM)))) (Rg UL)))))) (Rg UK))))
def CJ:LO:=[Mv 42 6,Mv 43 0,Ln 44 1 43,Bi 45 .lss 42 44,Mv 41 45]
def CI:LO:=[Op 46 (.build zz4 [] []),Mv 47 7,Bc 48 .add 47 1,St 4 2 46,Mv 3 48,Mc 4 (.int .i64 2)]
def CH:LO:=[Mv 50 5,Nc 51 50,Fa 52 9 51,Ld 53 52,Mv 49 53]
def CG:LO:=[Op 54 (.build zz4 [] []),Mv 55 7,Bc 56 .add 55 1,St 4 2 54,Mv 3 56,Mc 4 (.int .i64 3)]
def CE:LO:=[Mv 57 5,Nc 58 57,Fa 59 0 58,Ls 60 4 59,St 4 2 60,Mc 3 (.int .i64 0),Mc 4 (.int .i64 0)]
def f418 : AFunc := ⟨61, 1, false, [.cell 2 (some 4), .t 3, .t 4], (Sr akr (Sq (Sr akq (Ci 12 (Rr akp))) (Sr ako (Sr akn (Sq (Sr akm (Bl 0 wG)) (Sq (Bk 2 (Sr CJ (Cn 41 (Rr CI) (Sr CH (Ci 49 (Rr CG)))))) (Rr CE)))))))⟩
def agv:LO:=[Op 2 (.box (.t 0)),Op 4 (.alloc (.agg zz3)),Mc 5 (.bool false)]
def agu:LO:=[Fa 11 3 2,Ld 12 11,Ln 13 0 12,Mc 14 (.int .i64 0)]
def agt:LO:=[Bi 15 .lss 14 13]
def ags:LO:=[Ia 16 3 12 14,Ls 17 3 16,Op 7 (.alloc (.agg zz3)),St 3 7 17]
def agr:LO:=[Fa 18 0 7,Ld 19 18,Mv 20 1,Bi 21 .neq 19 20]
def agq:LO:=[Fa 22 0 7,Ld 23 22,Fa 24 2 7,Ld 25 24,Op 26 (.build zz3 [(0, 1), (2, 1)] [(.t 23), (.t 25)]),Op 8 (.alloc (.agg zz3)),St 3 8 26]
def agp:LO:=[Fa 27 1 7,Ld 28 27,Ln 29 0 28,Mc 30 (.int .i64 0)]
def ago:LO:=[Bi 31 .lss 30 29]
def agn:LO:=[Ia 32 4 28 30,Ls 33 4 32,Op 10 (.alloc (.agg zz5)),St 4 10 33]
def agm:LO:=[Fa 34 1 8,Ld 35 34,Fa 36 0 10,Ld 37 36,Op 38 (.bsl 6 zz7 0 [] []),Fa 39 1 10,Ld 40 39,Af [4, 6] (Ap 41 6 56 38 40),Op 42 (.bsl 5 zz2 0 [] []),Fa 43 2 10,Ld 44 43,Af [8, 10, 7, 4, 6] (Ap 45 5 32 42 44),Fa 46 3 10,Ld 47 46,Op 48 (.build zz5 [(0, 1), (1, 1), (2, 1), (3, 1)] [(.t 37), (.t 41), (.t 45), (.t 47)]),Af [3, 11, 13, 8, 10, 7, 4, 6] (Op 49 (.bsl 4 zz5 1 [0] [(.t 48)])),
 Af [1, 15, 3, 11, 13, 8, 10, 7, 4, 6] (Ap 50 4 72 35 49),Fa 51 1 8,Af [16, 1, 15, 3, 11, 13, 8, 10, 7, 4, 6] (St 1 51 50)]
def Rl:LO:=[Bc 52 .add 30 1,Mv 30 52]
def wq:ACode:=(Sr ago (Sq (Cx 31 2) (Sq (Bk 3 (Sr agn (Rd agm))) (Rg Rl))))
def BR:LO:=[Ls 53 3 8,St 3 4 53,Mc 5 (.bool true)]
def BQ:LO:=[Bc 54 .add 14 1,Mv 14 54]
def oC:ACode:=(Sr agt (Sq (Cx 15 0) (Sq (Bk 1 (Sr ags (Sq (Sr agr (Cn 21 (Xt 1) Sk)) (Sr agq (Sq (Sr agp (Bl 2 wq)) (Rr BR)))))) (Rg BQ))))
def r0:LO:=[Op 55 (.build zz3 [] []),St 3 4 55,Mc 5 (.bool false)]
def f566 : AFunc := ⟨56, 2, false, [.cell 4 (some 3), .t 5], (Sr agv (Sq (Sr agu (Bl 0 oC)) (Rr r0)))⟩
def aiG:LO:=[Op 2 (.box (.t 0)),Op 4 (.alloc (.agg zz3)),Mc 5 (.bool false)]
def aiF:LO:=[Fa 8 3 2,Ld 9 8,Ln 10 0 9,Mc 11 (.int .i64 0)]
def aiE:LO:=[Bi 12 .lss 11 10]
def aiD:LO:=[Ia 13 3 9 11,Ls 14 3 13,Op 7 (.alloc (.agg zz3)),St 3 7 14]
def aiC:LO:=[Fa 15 0 7,Ld 16 15,Mv 17 1,Bi 18 .eql 16 17]
def aiB:LO:=[Ls 19 3 7,St 3 4 19,Mc 5 (.bool true)]
def aiA:LO:=[Bc 20 .add 11 1,Mv 11 20]
def Ch:ACode:=(Sr aiE (Sq (Cx 12 0) (Sq (Bk 1 (Sr aiD (Sr aiC (Ci 18 (Rr aiB))))) (Rg aiA))))
def GH:LO:=[Op 21 (.build zz3 [] []),St 3 4 21,Mc 5 (.bool false)]
def f506 : AFunc := ⟨22, 2, false, [.cell 4 (some 3), .t 5], (Sr aiG (Sq (Sr aiF (Bl 0 Ch)) (Rr GH)))⟩
def Zr:LO:=[Op 2 (.box (.t 0)),Op 3 (.box (.t 1)),Mc 4 (.bool false)]
def Zq:LO:=[Fa 5 0 2,Ld 6 5,Fa 7 0 3,Ld 8 7,Ca 9 671 [(.t 6), (.t 8), (.c (.fn 672 []))],Mv 10 9,Gt 10 (Fa 11 1 2),Gt 10 (Ld 12 11),Gt 10 (Fa 13 1 3),Gt 10 (Ld 14 13),Gt 10 (Ca 15 674 [(.t 12), (.t 14), (.c (.fn 675 []))]),Pa 16 10 15,Mv 17 16,Gt 17 (Fa 18 2 2),Gt 17 (Ld 19 18),Gt 17 (Fa 20 2 3),Gt 17 (Ld 21 20),Gt 17 (Ca 22 677 [(.t 19), (.t 21), (.c (.fn 678 []))]),Pa 23 17 22,Mv 24 23,Gt 24 (Fa 25 3 2),
 Gt 24 (Ld 26 25),Gt 24 (Fa 27 3 3),Gt 24 (Ld 28 27),Gt 24 (Ca 29 680 [(.t 26), (.t 28), (.c (.fn 681 []))]),Pa 30 24 29,Mv 4 30]
def f670 : AFunc := ⟨31, 2, false, [.t 4], (Sr Zr (Rr Zq))⟩
def akh:LO:=[Op 1 (.box (.t 0)),Mc 2 (.int .i64 0)]
def akg:LO:=[Fa 14 0 1,Ld 15 14,Ln 16 0 15,Fa 17 1 1,Ld 18 17,Ln 19 0 18,Bi 20 .add 16 19,Fa 21 2 1,Ld 22 21,Ln 23 0 22,Bi 24 .add 20 23,Fa 25 3 1,Ld 26 25,Ln 27 0 26,Bi 28 .add 24 27,Mv 3 28]
def akf:LO:=[Fa 29 0 1,Ld 30 29,Ln 31 0 30,Mc 32 (.int .i64 0)]
def ake:LO:=[Bi 33 .lss 32 31]
def akd:LO:=[Ia 34 2 30 32,Ls 35 2 34,Op 5 (.alloc (.agg zz1)),St 2 5 35]
def akc:LO:=[Mv 36 3,Fa 37 1 5,Ld 38 37,Ln 39 0 38,Bi 40 .add 36 39,Mv 3 40]
def akb:LO:=[Bc 41 .add 32 1,Mv 32 41]
def Cz:ACode:=(Sr ake (Sq (Cx 33 0) (Sq (Bk 1 (Sr akd (Rg akc))) (Rg akb))))
def GX:LO:=[Fa 42 1 1,Ld 43 42,Ln 44 0 43,Mc 45 (.int .i64 0)]
def aka:LO:=[Bi 46 .lss 45 44]
def UJ:LO:=[Ia 47 2 43 45,Ls 48 2 47,Op 7 (.alloc (.agg zz1)),St 2 7 48]
def UI:LO:=[Mv 49 3,Fa 50 1 7,Ld 51 50,Ln 52 0 51,Bi 53 .add 49 52,Mv 3 53]
def UH:LO:=[Bc 54 .add 45 1,Mv 45 54]
def oU:ACode:=(Sr aka (Sq (Cx 46 2) (Sq (Bk 3 (Sr UJ (Rg UI))) (Rg UH))))
def sd:LO:=[Fa 55 2 1,Ld 56 55,Ln 57 0 56,Mc 58 (.int .i64 0)]
def UG:LO:=[Bi 59 .lss 58 57]
def UF:LO:=[Ia 60 2 56 58,Ls 61 2 60,Op 9 (.alloc (.agg zz1)),St 2 9 61]
def UE:LO:=[Mv 62 3,Fa 63 1 9,Ld 64 63,Ln 65 0 64,Bi 66 .add 62 65,Mv 3 66]
def UD:LO:=[Bc 67 .add 58 1,Mv 58 67]
def lJ:ACode:=(Sr UG (Sq (Cx 59 4) (Sq (Bk 5 (Sr UF (Rg UE))) (Rg UD))))
def nv:LO:=[Fa 68 3 1,Ld 69 68,Ln 70 0 69,Mc 71 (.int .i64 0)]
def UC:LO:=[Bi 72 .lss 71 70]
def UB:LO:=[Ia 73 3 69 71,Ls 74 3 73,Op 11 (.alloc (.agg zz3)),St 3 11 74]
def UA:LO:=[Mv 75 3,Fa 76 1 11,Ld 77 76,Ln 78 0 77,Bi 79 .add 75 78,Mv 3 79]
def Uz:LO:=[Fa 80 1 11,Ld 81 80,Ln 82 0 81,Mc 83 (.int .i64 0)]
def Uy:LO:=[Bi 84 .lss 83 82]
def Ux:LO:=[Ia 85 4 81 83,Ls 86 4 85,Op 13 (.alloc (.agg zz5)),St 4 13 86]
def Uw:LO:=[Mv 87 3,Fa 88 1 13,Ld 89 88,Ln 90 0 89,Fa 91 2 13,Ld 92 91,Ln 93 0 92,Bi 94 .add 90 93,Bi 95 .add 87 94,Mv 3 95]
def Uv:LO:=[Bc 96 .add 83 1,Mv 83 96]
def wE:ACode:=(Sr Uy (Sq (Cx 84 8) (Sq (Bk 9 (Sr Ux (Rg Uw))) (Rg Uv))))
def CD:LO:=[Bc 97 .add 71 1,Mv 71 97]
def gW:ACode:=(Sr UC (Sq (Cx 72 6) (Sq (Bk 7 (Sr UB (Sr UA (Sr Uz (Bl 8 wE))))) (Rg CD))))
def jd:LO:=[Mv 98 3,Mv 2 98]
def f435 : AFunc := ⟨99, 1, false, [.t 2], (Sr akh (Sr akg (Sq (Sr akf (Bl 0 Cz)) (Sq (Sr GX (Bl 2 oU)) (Sq (Sr sd (Bl 4 lJ)) (Sq (Sr nv (Bl 6 gW)) (Rr jd)))))))⟩
def J5:LI:=[.inLoop Cz, .inBlock 0, .code (Sq (Sr GX (Bl 2 oU)) (Sq (Sr sd (Bl 4 lJ)) (Sq (Sr nv (Bl 6 gW)) (Rr jd))))]
def G6:LI:=[.inLoop oU, .inBlock 2, .code (Sq (Sr sd (Bl 4 lJ)) (Sq (Sr nv (Bl 6 gW)) (Rr jd)))]
def GZ:LI:=[.inLoop lJ, .inBlock 4, .code (Sq (Sr nv (Bl 6 gW)) (Rr jd))]
def tu:LI:=[.inLoop gW, .inBlock 6, .code (Rr jd)]
def GY:LI:=[.inLoop wE, .inBlock 8, .inBlock 7, .code (Rg CD), .inLoop gW, .inBlock 6, .code (Rr jd)]
def aiz:LO:=[Op 1 (.box (.t 0)),Op 2 (.alloc (.agg zz4))]
def aiy:LO:=[Op 3 (.alloc (.agg zz4))]
def aix:LO:=[Fa 12 0 1,Ld 13 12,Ln 14 0 13,Mc 15 (.int .i64 0)]
def aiw:LO:=[Bi 16 .lss 15 14]
def aiv:LO:=[Ia 17 2 13 15,Ls 18 2 17,Op 5 (.alloc (.agg zz1)),St 2 5 18]
def aiu:LO:=[Op 19 (.iarr 4 1 (.t 3) (.c (.int .i64 0))),Ld 20 19,Fa 21 0 5,Ld 22 21,Op 23 (.bsl 1 [.str []] 1 [0] [(.t 22)]),Ap 24 1 16 20 23,Op 25 (.iarr 4 1 (.t 3) (.c (.int .i64 0))),St 1 25 24]
def ait:LO:=[Bc 26 .add 15 1,Mv 15 26]
def Cg:ACode:=(Sr aiw (Sq (Cx 16 0) (Sq (Bk 1 (Sr aiv (Rg aiu))) (Rg ait))))
def GG:LO:=[Fa 27 1 1,Ld 28 27,Ln 29 0 28,Mc 30 (.int .i64 0)]
def ais:LO:=[Bi 31 .lss 30 29]
def SO:LO:=[Ia 32 2 28 30,Ls 33 2 32,Op 7 (.alloc (.agg zz1)),St 2 7 33]
def SN:LO:=[Op 34 (.iarr 4 1 (.t 3) (.c (.int .i64 1))),Ld 35 34,Fa 36 0 7,Ld 37 36,Op 38 (.bsl 1 [.str []] 1 [0] [(.t 37)]),Ap 39 1 16 35 38,Op 40 (.iarr 4 1 (.t 3) (.c (.int .i64 1))),St 1 40 39]
def SM:LO:=[Bc 41 .add 30 1,Mv 30 41]
def oE:ACode:=(Sr ais (Sq (Cx 31 2) (Sq (Bk 3 (Sr SO (Rg SN))) (Rg SM))))
def r3:LO:=[Fa 42 2 1,Ld 43 42,Ln 44 0 43,Mc 45 (.int .i64 0)]
def SK:LO:=[Bi 46 .lss 45 44]
def SJ:LO:=[Ia 47 2 43 45,Ls 48 2 47,Op 9 (.alloc (.agg zz1)),St 2 9 48]
def SI:LO:=[Op 49 (.iarr 4 1 (.t 3) (.c (.int .i64 2))),Ld 50 49,Fa 51 0 9,Ld 52 51,Op 53 (.bsl 1 [.str []] 1 [0] [(.t 52)]),Ap 54 1 16 50 53,Op 55 (.iarr 4 1 (.t 3) (.c (.int .i64 2))),St 1 55 54]
def SG:LO:=[Bc 56 .add 45 1,Mv 45 56]
def lD:ACode:=(Sr SK (Sq (Cx 46 4) (Sq (Bk 5 (Sr SJ (Rg SI))) (Rg SG))))
def nq:LO:=[Fa 57 3 1,Ld 58 57,Ln 59 0 58,Mc 60 (.int .i64 0)]
def SE:LO:=[Bi 61 .lss 60 59]
def SD:LO:=[Ia 62 3 58 60,Ls 63 3 62,Op 11 (.alloc (.agg zz3)),St 3 11 63]
def SC:LO:=[Op 64 (.iarr 4 1 (.t 3) (.c (.int .i64 3))),Ld 65 64,Fa 66 0 11,Ld 67 66,Op 68 (.bsl 1 [.str []] 1 [0] [(.t 67)]),Ap 69 1 16 65 68,Op 70 (.iarr 4 1 (.t 3) (.c (.int .i64 3))),St 1 70 69]
def SB:LO:=[Bc 71 .add 60 1,Mv 60 71]
def jB:ACode:=(Sr SE (Sq (Cx 61 6) (Sq (Bk 7 (Sr SD (Rg SC))) (Rg SB))))
def kC:LO:=[Ls 72 4 3,St 4 2 72]
def f507 : AFunc := ⟨73, 1, false, [.cell 2 (some 4)], (Sr aiz (Sr aiy (Sq (Sr aix (Bl 0 Cg)) (Sq (Sr GG (Bl 2 oE)) (Sq (Sr r3 (Bl 4 lD)) (Sq (Sr nq (Bl 6 jB)) (Rr kC)))))))⟩
def J4:LI:=[.inLoop Cg, .inBlock 0, .code (Sq (Sr GG (Bl 2 oE)) (Sq (Sr r3 (Bl 4 lD)) (Sq (Sr nq (Bl 6 jB)) (Rr kC))))]
def tl:LI:=[.inLoop oE, .inBlock 2, .code (Sq (Sr r3 (Bl 4 lD)) (Sq (Sr nq (Bl 6 jB)) (Rr kC)))]
def tk:LI:=[.inLoop lD, .inBlock 4, .code (Sq (Sr nq (Bl 6 jB)) (Rr kC))]
def tj:LI:=[.inLoop jB, .inBlock 6, .code (Rr kC)]
def air:LO:=[Mc 6 (.int .i64 0)]
def aiq:LO:=[Mv 11 0,Ln 12 0 11,Bc 13 .gtr 12 64]
def aip:LO:=[Mc 6 (.int .i64 4)]
def aio:LO:=[Mv 14 0,Ln 15 0 14,Mc 16 (.int .i64 0)]
def ain:LO:=[Bi 17 .lss 16 15]
def aim:LO:=[Mv 18 16,Ia 19 1 14 16,Ld 20 19,Mv 7 18,Mv 8 20]
def ail:LO:=[Mv 21 0,Mv 22 7,Op 23 (.slc 1 (.t 21) none (some (.t 22)) none),Mv 24 8,Ct 25 577 [23, 24],Mv 9 25]
def aik:LO:=[Mv 26 9,Bc 27 .neq 26 0]
def aij:LO:=[Mv 28 9,Mv 6 28]
def aii:LO:=[Mv 29 1,Mv 30 7,Op 31 (.call (.t 29) [(.t 30)]),Bc 32 .gtr 31 64]
def SA:LO:=[Mc 6 (.int .i64 4)]
def Sy:LO:=[Mv 33 2,Mv 34 7,Op 35 (.call (.t 33) [(.t 34)]),Mv 10 35]
def Sx:LO:=[Mv 36 10,Bc 37 .neq 36 0]
def Sw:LO:=[Mv 38 10,Mv 6 38]
def Sv:LO:=[Bc 39 .add 16 1,Mv 16 39]
def wu:ACode:=(Sr ain (Sq (Cx 17 0) (Sq (Bk 1 (Sr aim (Sq (Sr ail (Sr aik (Ci 27 (Rr aij)))) (Sq (Sr aii (Ci 32 (Rr SA))) (Sr Sy (Sr Sx (Ci 37 (Rr Sw)))))))) (Rg Sv))))
def Ce:LO:=[Mc 6 (.int .i64 0)]
def f508 : AFunc := ⟨40, 3, false, [.t 6], (Sr air (Sq (Sr aiq (Ci 13 (Rr aip))) (Sq (Sr aio (Bl 0 wu)) (Rr Ce))))⟩
def j3:LI:=[.inLoop wu, .inBlock 0, .code (Rr Ce)]
def aih:LO:=[Mc 3 (.int .i64 0)]
def aig:LO:=[Fa 4 0 1,Ld 5 4,Mv 6 0,Ia 7 2 5 6,Fa 8 1 7,Ld 9 8,Ln 10 0 9,Mv 3 10]
def f509 : AFunc := ⟨11, 2, false, [.t 3], (Sr aih (Rr aig))⟩
def aif:LO:=[Mc 3 (.int .i64 0)]
def aie:LO:=[Fa 5 0 1,Ld 6 5,Mv 7 0,Ia 8 2 6 7,Fa 9 1 8,Ld 10 9,Op 4 (.alloc (.con (.slice none 0 0))),St 1 4 10]
def aid:LO:=[Ld 11 4,Ln 12 0 11,Op 13 (.mkfn 512 [(.t 4)]),Ct 14 511 [12, 13],Mv 3 14]
def f510 : AFunc := ⟨15, 2, false, [.t 3], (Sr aif (Sr aie (Rr aid)))⟩
def aic:LO:=[Mc 4 (.int .i64 0)]
def aib:LO:=[Mv 7 0,Mc 8 (.int .i64 0)]
def aia:LO:=[Bi 9 .lss 8 7]
def ah9:LO:=[Mv 10 8,Mv 5 10]
def ah8:LO:=[Mv 11 1,Mv 12 5,Op 13 (.call (.t 11) [(.t 12)]),Mv 6 13]
def ah7:LO:=[Mv 14 6,Bc 15 .neq 14 0]
def ah6:LO:=[Mv 16 6,Mv 4 16]
def ah5:LO:=[Bc 17 .add 8 1,Mv 8 17]
def Cd:ACode:=(Sr aia (Sq (Cx 9 0) (Sq (Bk 1 (Sr ah9 (Sr ah8 (Sr ah7 (Ci 15 (Rr ah6)))))) (Rg ah5))))
def GF:LO:=[Mc 4 (.int .i64 0)]
def f511 : AFunc := ⟨18, 2, false, [.t 4], (Sr aic (Sq (Sr aib (Bl 0 Cd)) (Rr GF)))⟩
def oD:LI:=[.inLoop Cd, .inBlock 0, .code (Rr GF)]
def ah4:LO:=[Mc 3 (.int .i64 0)]
def ah3:LO:=[Ld 4 1,Mv 5 0,Ia 6 5 4 5,Ls 7 5 6,Ct 8 325 [7],Mv 3 8]
def f512 : AFunc := ⟨9, 2, false, [.t 3], (Sr ah4 (Rr ah3))⟩
def al0:LO:=[Op 1 (.box (.t 0)),Mc 2 (.int .i64 0)]
def alZ:LO:=[Fa 4 1 1,Ls 5 2 4,Ct 6 178 [5],Un 7 .not 6,Mv 3 7]
def alY:LO:=[Mc 2 (.int .i64 1)]
def alX:LO:=[Fa 9 3 1,Ld 10 9,Fa 11 1 1,Fa 12 1 11,Ld 13 12,Bi 14 .lss 10 13,Mv 15 14,Gf 15 (Fa 16 4 1),Gf 15 (Ld 17 16),Gf 15 (Fa 18 3 1),Gf 15 (Ld 19 18),Gf 15 (Bi 20 .lss 17 19),Po 21 15 20,Mv 22 21,Gf 22 (Fa 23 4 1),Gf 22 (Ld 24 23),Gf 22 (Bc 25 .gtr 24 32),Po 26 22 25,Mv 8 26]
def alW:LO:=[Mc 2 (.int .i64 5)]
def alV:LO:=[Mc 2 (.int .i64 0)]
def f325 : AFunc := ⟨27, 1, false, [.t 2], (Sr al0 (Sq (Bk 0 (Sr alZ (Cn 3 (Rr alY) (Sr alX (Ci 8 (Rr alW)))))) (Rr alV)))⟩
def ah2:LO:=[Mc 3 (.int .i64 0)]
def ah1:LO:=[Fa 4 1 1,Ld 5 4,Mv 6 0,Ia 7 2 5 6,Fa 8 1 7,Ld 9 8,Ln 10 0 9,Mv 3 10]
def f513 : AFunc := ⟨11, 2, false, [.t 3], (Sr ah2 (Rr ah1))⟩
def ah0:LO:=[Mc 3 (.int .i64 0)]
def ahZ:LO:=[Fa 5 1 1,Ld 6 5,Mv 7 0,Ia 8 2 6 7,Fa 9 1 8,Ld 10 9,Op 4 (.alloc (.con (.slice none 0 0))),St 1 4 10]
def ahY:LO:=[Ld 11 4,Ln 12 0 11,Op 13 (.mkfn 515 [(.t 4)]),Ct 14 511 [12, 13],Mv 3 14]
def f514 : AFunc := ⟨15, 2, false, [.t 3], (Sr ah0 (Sr ahZ (Rr ahY)))⟩
def ahX:LO:=[Mc 3 (.int .i64 0)]
def ahW:LO:=[Ld 7 1,Mv 8 0,Ia 9 2 7 8,Fa 10 1 9,Ld 11 10,Ct 12 516 [11],Mv 6 12,Ex 13 6 0,Ex 14 6 1,Op 4 (.alloc (.agg zz0)),St 4 4 13,Mv 5 14]
def ahV:LO:=[Mv 15 5,Mv 3 15]
def f515 : AFunc := ⟨16, 2, false, [.t 3], (Sr ahX (Sr ahW (Rr ahV)))⟩
def ahU:LO:=[Mv 9 0,Op 10 (.build [.str [], .int .i64 0] [(0, 1)] [(.t 9)]),Op 11 (.box (.t 10)),Mv 4 11]
def ahT:LO:=[Mv 12 4,Ca 13 579 [(.t 12), (.c (.int .i64 0))],Op 5 (.alloc (.agg zz0)),St 4 5 13]
def ahS:LO:=[Ls 15 4 5,Ct 16 580 [15],Mv 14 16,Ex 17 14 0,Ex 18 14 1,Mv 6 17,Mv 7 18]
def ahR:LO:=[Mv 19 7,Bc 20 .neq 19 0,Mv 21 20,Gf 21 (Mv 22 6),Gf 21 (Mv 23 0),Gf 21 (Bi 24 .neq 22 23),Po 25 21 24]
def ahQ:LO:=[Op 26 (.build [] [] []),Op 27 (.mkifc 129 (.t 26)),⟨none, .panic (.t 27), none, []⟩]
def ahP:LO:=[Ls 28 4 5,St 4 2 28,⟨none, .store 1 (.t 3) (.c (.int .i64 0)), none, []⟩]
def JL : AGuard := ⟨29, 1, [Op 2 (.alloc (.agg zz0)), Op 3 (.alloc (.int .i64 0))], [Op 8 (.mkfn 578 [(.t 2), (.t 3)])], (.t 8), (.seq (.region ahU false) (.seq (.region ahT false) (.seq (.seq (.region ahS false) (.seq (.region ahR false) (.cond (.t 25) (.region ahQ false) .skip))) (.seq (.region ahP false) .ret)))), [.cell 2 (some 4), .cell 3 none]⟩
def ahO:LO:=[Mc 3 (.int .i64 0)]
def ahN:LO:=[Fa 4 2 1,Ld 5 4,Mv 6 0,Ia 7 2 5 6,Fa 8 1 7,Ld 9 8,Ln 10 0 9,Mv 3 10]
def f517 : AFunc := ⟨11, 2, false, [.t 3], (Sr ahO (Rr ahN))⟩
def ahM:LO:=[Mc 3 (.int .i64 0)]
def ahL:LO:=[Fa 5 2 1,Ld 6 5,Mv 7 0,Ia 8 2 6 7,Fa 9 1 8,Ld 10 9,Op 4 (.alloc (.con (.slice none 0 0))),St 1 4 10]
def ahK:LO:=[Ld 11 4,Ln 12 0 11,Op 13 (.mkfn 519 [(.t 4)]),Ct 14 511 [12, 13],Mv 3 14]
def f518 : AFunc := ⟨15, 2, false, [.t 3], (Sr ahM (Sr ahL (Rr ahK)))⟩
def ahJ:LO:=[Mc 3 (.int .i64 0)]
def ahI:LO:=[Ld 4 1,Mv 5 0,Ia 6 3 4 5,Ls 7 3 6,Ct 8 520 [7],Mv 3 8]
def f519 : AFunc := ⟨9, 2, false, [.t 3], (Sr ahJ (Rr ahI))⟩
def ahH:LO:=[Op 1 (.box (.t 0)),Mc 2 (.int .i64 0)]
def ahG:LO:=[Fa 3 1 1,Ld 4 3,Ca 5 581 [(.t 4), (.c (.int .i64 (-1))), (.c (.int .i64 65535))],Un 6 .not 5,Mv 7 6,Gf 7 (Fa 8 2 1),Gf 7 (Ld 9 8),Gf 7 (Ca 10 581 [(.t 9), (.c (.int .i64 (-1))), (.c (.int .i64 65535))]),Gf 7 (Un 11 .not 10),Po 12 7 11]
def ahF:LO:=[Mc 2 (.int .i64 5)]
def ahE:LO:=[Mc 2 (.int .i64 0)]
def f520 : AFunc := ⟨13, 1, false, [.t 2], (Sr ahH (Sq (Sr ahG (Ci 12 (Rr ahF))) (Rr ahE)))⟩
def ahD:LO:=[Mc 3 (.int .i64 0)]
def ahC:LO:=[Fa 4 3 1,Ld 5 4,Mv 6 0,Ia 7 3 5 6,Fa 8 1 7,Ld 9 8,Ln 10 0 9,Mv 3 10]
def f521 : AFunc := ⟨11, 2, false, [.t 3], (Sr ahD (Rr ahC))⟩
def ahB:LO:=[Mc 4 (.int .i64 0)]
def ahA:LO:=[Ls 5 4 1,Fa 6 3 2,Ld 7 6,Mv 8 0,Af [2] (Ia 9 3 7 8),Af [4, 2] (Ls 10 3 9),Af [0, 5, 4, 2] (Ct 11 523 [5, 10]),Mv 4 11]
def f522 : AFunc := ⟨12, 3, false, [.t 4], (Sr ahB (Sq (Rd ahA) Rt))⟩
def ahz:LO:=[Op 2 (.box (.t 0)),Op 3 (.box (.t 1)),Mc 4 (.int .i64 0)]
def ahy:LO:=[Fa 8 1 3,Ld 9 8,Ln 10 0 9,Mc 11 (.int .i64 0)]
def ahx:LO:=[Bi 12 .lss 11 10]
def ahw:LO:=[Mv 13 11,Ia 14 4 9 11,Ls 15 4 14,Op 6 (.alloc (.agg zz5)),Mv 5 13,St 4 6 15]
def ahv:LO:=[Ls 16 4 2,Fa 17 1 3,Ld 18 17,Mv 19 5,Af [2] (Op 20 (.slc 4 (.t 18) none (some (.t 19)) none)),Ls 21 4 6,Af [0, 4, 5, 2] (Ct 22 582 [16, 20, 21]),Mv 7 22]
def ahu:LO:=[Mv 23 7,Bc 24 .neq 23 0]
def aht:LO:=[Mv 25 7,Mv 4 25]
def ahs:LO:=[Bc 26 .add 11 1,Mv 11 26]
def BZ:ACode:=(Sr ahx (Sq (Cx 12 0) (Sq (Bk 1 (Sr ahw (Sq (Rd ahv) (Sr ahu (Ci 24 (Rr aht)))))) (Rg ahs))))
def GC:LO:=[Fa 27 2 3,Ld 28 27,Bc 29 .neq 28 1,Mv 30 29,Gt 30 (Fa 31 2 3),Gt 30 (Ld 32 31),Gt 30 (Bc 33 .neq 32 2),Pa 34 30 33]
def B9:LO:=[Mc 4 (.int .i64 15)]
def B8:LO:=[Mc 4 (.int .i64 0)]
def f523 : AFunc := ⟨35, 2, false, [.t 4], (Sr ahz (Sq (Sr ahy (Bl 0 BZ)) (Sq (Sr GC (Ci 34 (Rr B9))) (Rr B8))))⟩
def J3:LI:=[.inLoop BZ, .inBlock 0, .code (Sq (Sr GC (Ci 34 (Rr B9))) (Rr B8))]
def ajs:LO:=[Mc 2 (.int .i64 0)]
def ajr:LO:=[Mv 10 0,Ln 11 0 10,Bc 12 .gtr 11 64]
def ajq:LO:=[Mc 2 (.int .i64 4)]
def ajp:LO:=[Mc 3 (.str [])]
def ajo:LO:=[Mv 13 0,Ln 14 0 13,Mc 15 (.int .i64 0)]
def ajn:LO:=[Bi 16 .lss 15 14]
def ajm:LO:=[Mv 17 15,Ia 18 2 13 15,Ls 19 2 18,Op 5 (.alloc (.agg zz1)),Mv 4 17,St 2 5 19]
def ajl:LO:=[Fa 20 0 5,Ld 21 20,Mv 22 3,Mv 23 4,Bc 24 .eql 23 0,Fa 25 1 5,Ld 26 25,Ln 27 0 26,Ct 28 500 [21, 22, 24, 27],Mv 6 28]
def ajk:LO:=[Mv 29 6,Bc 30 .neq 29 0]
def ajj:LO:=[Mv 31 6,Mv 2 31]
def TH:LO:=[Fa 32 0 5,Ld 33 32,Mv 3 33]
def TG:LO:=[Fa 34 1 5,Ld 35 34,Ln 36 0 35,Mc 37 (.int .i64 0)]
def TF:LO:=[Bi 38 .lss 37 36]
def TD:LO:=[Ia 39 5 35 37,Ls 40 5 39,Op 8 (.alloc (.agg zz6)),St 5 8 40]
def TC:LO:=[Ls 41 5 8,Ct 42 326 [41],Mv 9 42]
def TA:LO:=[Mv 43 9,Bc 44 .neq 43 0]
def Tz:LO:=[Mv 45 9,Mv 2 45]
def Tw:LO:=[Bc 46 .add 37 1,Mv 37 46]
def wA:ACode:=(Sr TF (Sq (Cx 38 2) (Sq (Bk 3 (Sr TD (Sr TC (Sr TA (Ci 44 (Rr Tz)))))) (Rg Tw))))
def Cq:LO:=[Bc 47 .add 15 1,Mv 15 47]
def oM:ACode:=(Sr ajn (Sq (Cx 16 0) (Sq (Bk 1 (Sr ajm (Sq (Sr ajl (Sr ajk (Ci 30 (Rr ajj)))) (Sr TH (Sr TG (Bl 2 wA)))))) (Rg Cq))))
def r9:LO:=[Mc 2 (.int .i64 0)]
def f497 : AFunc := ⟨48, 1, false, [.t 2], (Sr ajs (Sq (Sr ajr (Ci 12 (Rr ajq))) (Sr ajp (Sq (Sr ajo (Bl 0 oM)) (Rr r9)))))⟩
def tq:LI:=[.inLoop oM, .inBlock 0, .code (Rr r9)]
def GU:LI:=[.inLoop wA, .inBlock 2, .inBlock 1, .code (Rg Cq), .inLoop oM, .inBlock 0, .code (Rr r9)]
def aji:LO:=[Mc 2 (.int .i64 0)]
def ajh:LO:=[Mv 11 0,Ln 12 0 11,Bc 13 .gtr 12 64]
def ajg:LO:=[Mc 2 (.int .i64 4)]
def ajf:LO:=[Mc 3 (.str [])]
def aje:LO:=[Mv 14 0,Ln 15 0 14,Mc 16 (.int .i64 0)]
def ajd:LO:=[Bi 17 .lss 16 15]
def ajc:LO:=[Mv 18 16,Ia 19 2 14 16,Ls 20 2 19,Op 5 (.alloc (.agg zz1)),Mv 4 18,St 2 5 20]
def ajb:LO:=[Fa 21 0 5,Ld 22 21,Mv 23 3,Mv 24 4,Bc 25 .eql 24 0,Fa 26 1 5,Ld 27 26,Ln 28 0 27,Ct 29 500 [22, 23, 25, 28],Mv 6 29]
def aja:LO:=[Mv 30 6,Bc 31 .neq 30 0]
def ai9:LO:=[Mv 32 6,Mv 2 32]
def Tv:LO:=[Fa 33 0 5,Ld 34 33,Mv 3 34]
def Tu:LO:=[Fa 35 1 5,Ld 36 35,Ln 37 0 36,Mc 38 (.int .i64 0)]
def Tr:LO:=[Bi 39 .lss 38 37]
def Tq:LO:=[Ia 40 2 36 38,Ls 41 2 40,Op 8 (.alloc (.agg Dx)),St 2 8 41]
def Tp:LO:=[Fa 43 1 8,Ld 44 43,Ct 45 571 [44],Mv 42 45,Ex 46 42 0,Ex 47 42 1,Op 9 (.alloc (.agg zz0)),St 4 9 46,Mv 10 47]
def Tn:LO:=[Mv 48 10,Bc 49 .neq 48 0]
def Tl:LO:=[Mv 50 10,Mv 2 50]
def Tk:LO:=[Bc 51 .add 38 1,Mv 38 51]
def wz:ACode:=(Sr Tr (Sq (Cx 39 2) (Sq (Bk 3 (Sr Tq (Sr Tp (Sr Tn (Ci 49 (Rr Tl)))))) (Rg Tk))))
def Cp:LO:=[Bc 52 .add 16 1,Mv 16 52]
def oL:ACode:=(Sr ajd (Sq (Cx 17 0) (Sq (Bk 1 (Sr ajc (Sq (Sr ajb (Sr aja (Ci 31 (Rr ai9)))) (Sr Tv (Sr Tu (Bl 2 wz)))))) (Rg Cp))))
def r8:LO:=[Mc 2 (.int .i64 0)]
def f498 : AFunc := ⟨53, 1, false, [.t 2], (Sr aji (Sq (Sr ajh (Ci 13 (Rr ajg))) (Sr ajf (Sq (Sr aje (Bl 0 oL)) (Rr r8)))))⟩
def tp:LI:=[.inLoop oL, .inBlock 0, .code (Rr r8)]
def GR:LI:=[.inLoop wz, .inBlock 2, .inBlock 1, .code (Rg Cp), .inLoop oL, .inBlock 0, .code (Rr r8)]
def ai8:LO:=[Mc 2 (.int .i64 0)]
def ai7:LO:=[Mv 10 0,Ln 11 0 10,Bc 12 .gtr 11 64]
def ai6:LO:=[Mc 2 (.int .i64 4)]
def ai5:LO:=[Mc 3 (.str [])]
def ai4:LO:=[Mv 13 0,Ln 14 0 13,Mc 15 (.int .i64 0)]
def ai3:LO:=[Bi 16 .lss 15 14]
def ai2:LO:=[Mv 17 15,Ia 18 2 13 15,Ls 19 2 18,Op 5 (.alloc (.agg zz1)),Mv 4 17,St 2 5 19]
def ai1:LO:=[Fa 20 0 5,Ld 21 20,Mv 22 3,Mv 23 4,Bc 24 .eql 23 0,Fa 25 1 5,Ld 26 25,Ln 27 0 26,Ct 28 500 [21, 22, 24, 27],Mv 6 28]
def ai0:LO:=[Mv 29 6,Bc 30 .neq 29 0]
def aiZ:LO:=[Mv 31 6,Mv 2 31]
def Tj:LO:=[Fa 32 0 5,Ld 33 32,Mv 3 33]
def Th:LO:=[Fa 34 1 5,Ld 35 34,Ln 36 0 35,Mc 37 (.int .i64 0)]
def Tg:LO:=[Bi 38 .lss 37 36]
def Tf:LO:=[Ia 39 3 35 37,Ls 40 3 39,Op 8 (.alloc (.agg zz9)),St 3 8 40]
def Td:LO:=[Ls 41 3 8,Ct 42 572 [41],Mv 9 42]
def Tc:LO:=[Mv 43 9,Bc 44 .neq 43 0]
def Ta:LO:=[Mv 45 9,Mv 2 45]
def S9:LO:=[Bc 46 .add 37 1,Mv 37 46]
def wy:ACode:=(Sr Tg (Sq (Cx 38 2) (Sq (Bk 3 (Sr Tf (Sr Td (Sr Tc (Ci 44 (Rr Ta)))))) (Rg S9))))
def Co:LO:=[Bc 47 .add 15 1,Mv 15 47]
def oH:ACode:=(Sr ai3 (Sq (Cx 16 0) (Sq (Bk 1 (Sr ai2 (Sq (Sr ai1 (Sr ai0 (Ci 30 (Rr aiZ)))) (Sr Tj (Sr Th (Bl 2 wy)))))) (Rg Co))))
def r7:LO:=[Mc 2 (.int .i64 0)]
def f499 : AFunc := ⟨48, 1, false, [.t 2], (Sr ai8 (Sq (Sr ai7 (Ci 12 (Rr ai6))) (Sr ai5 (Sq (Sr ai4 (Bl 0 oH)) (Rr r7)))))⟩
def tn:LI:=[.inLoop oH, .inBlock 0, .code (Rr r7)]
def GQ:LI:=[.inLoop wy, .inBlock 2, .inBlock 1, .code (Rg Co), .inLoop oH, .inBlock 0, .code (Rr r7)]
def aiY:LO:=[Mc 8 (.int .i64 0)]
def aiX:LO:=[Mv 9 0,Ct 10 573 [9],Un 11 .not 10]
def aiW:LO:=[Mc 8 (.int .i64 1)]
def aiV:LO:=[Mv 12 2,Un 13 .not 12,Mv 14 13,Gt 14 (Mv 15 0),Gt 14 (Mv 16 1),Gt 14 (Bi 17 .leq 15 16),Pa 18 14 17]
def aiU:LO:=[Mc 8 (.int .i64 16)]
def aiT:LO:=[Mv 19 3,Bc 20 .gtr 19 64]
def aiS:LO:=[Mc 8 (.int .i64 4)]
def aiR:LO:=[Mc 8 (.int .i64 0)]
def f500 : AFunc := ⟨21, 4, false, [.t 8], (Sr aiY (Sq (Sr aiX (Ci 11 (Rr aiW))) (Sq (Sr aiV (Ci 18 (Rr aiU))) (Sq (Sr aiT (Ci 20 (Rr aiS))) (Rr aiR)))))⟩
def aiQ:LO:=[Op 3 (.box (.t 0)),Op 4 (.box (.t 1)),Mc 6 (.int .i64 0)]
def aiP:LO:=[Fa 16 1 4,Ld 17 16,Mv 18 2,Ia 19 4 17 18,Ls 20 4 19,Op 7 (.alloc (.agg zz5)),St 4 7 20]
def aiO:LO:=[Fa 21 0 7,Ld 22 21,Ct 23 573 [22],Un 24 .not 23]
def aiN:LO:=[Mc 6 (.int .i64 1)]
def aiM:LO:=[Fa 25 1 4,Ld 26 25,Mv 27 2,Op 28 (.slc 4 (.t 26) none (some (.t 27)) none),Ln 29 0 28,Mc 30 (.int .i64 0)]
def aiL:LO:=[Bi 31 .lss 30 29]
def aiK:LO:=[Ia 32 4 28 30,Ls 33 4 32,Op 9 (.alloc (.agg zz5)),St 4 9 33]
def aiJ:LO:=[Fa 34 0 9,Ld 35 34,Fa 36 0 7,Ld 37 36,Bi 38 .eql 35 37]
def aiI:LO:=[Mc 6 (.int .i64 7)]
def aiH:LO:=[Bc 39 .add 30 1,Mv 30 39]
def wx:ACode:=(Sr aiL (Sq (Cx 31 0) (Sq (Bk 1 (Sr aiK (Sr aiJ (Ci 38 (Rr aiI))))) (Rg aiH))))
def Cm:LO:=[Fa 40 1 7,Ld 41 40,Ln 42 0 41,Bc 43 .gtr 42 64]
def Ck:LO:=[Mc 6 (.int .i64 4)]
def Cj:LO:=[Fa 44 1 7,Ld 45 44,Ln 46 0 45,Mc 47 (.int .i64 0)]
def S8:LO:=[Bi 48 .lss 47 46]
def S7:LO:=[Ia 49 6 45 47,Ls 50 6 49,Op 11 (.alloc (.agg zz7)),St 6 11 50]
def S6:LO:=[Ls 51 4 3,Ls 52 6 11,Ct 53 574 [51, 52],Mv 12 53]
def S5:LO:=[Mv 54 12,Bc 55 .neq 54 0]
def S4:LO:=[Mv 56 12,Mv 6 56]
def SY:LO:=[Bc 57 .add 47 1,Mv 47 57]
def oG:ACode:=(Sr S8 (Sq (Cx 48 2) (Sq (Bk 3 (Sr S7 (Sr S6 (Sr S5 (Ci 55 (Rr S4)))))) (Rg SY))))
def r6:LO:=[Fa 58 2 7,Ld 59 58,Ln 60 0 59,Bc 61 .gtr 60 64]
def r5:LO:=[Mc 6 (.int .i64 4)]
def r4:LO:=[Fa 62 2 7,Ld 63 62,Ln 64 0 63,Mc 65 (.int .i64 0)]
def SX:LO:=[Bi 66 .lss 65 64]
def SW:LO:=[Ia 67 5 63 65,Ls 68 5 67,Op 14 (.alloc (.agg zz2)),St 5 14 68]
def SV:LO:=[Ls 69 5 14,Ct 70 575 [69],Mv 15 70]
def SU:LO:=[Mv 71 15,Bc 72 .neq 71 0]
def SS:LO:=[Mv 73 15,Mv 6 73]
def SR:LO:=[Bc 74 .add 65 1,Mv 65 74]
def lG:ACode:=(Sr SX (Sq (Cx 66 4) (Sq (Bk 5 (Sr SW (Sr SV (Sr SU (Ci 72 (Rr SS)))))) (Rg SR))))
def nt:LO:=[Fa 75 3 7,Ld 76 75,Bc 77 .neq 76 1,Mv 78 77,Gt 78 (Fa 79 3 7),Gt 78 (Ld 80 79),Gt 78 (Bc 81 .neq 80 2),Pa 82 78 81,Mv 83 82,Gt 83 (Fa 84 3 7),Gt 83 (Ld 85 84),Gt 83 (Bc 86 .neq 85 3),Pa 87 83 86]
def ns:LO:=[Mc 6 (.int .i64 15)]
def nr:LO:=[Mc 6 (.int .i64 0)]
def f501 : AFunc := ⟨88, 3, false, [.t 6], (Sr aiQ (Sr aiP (Sq (Sr aiO (Ci 24 (Rr aiN))) (Sq (Sr aiM (Bl 0 wx)) (Sq (Sr Cm (Ci 43 (Rr Ck))) (Sq (Sr Cj (Bl 2 oG)) (Sq (Sr r6 (Ci 61 (Rr r5))) (Sq (Sr r4 (Bl 4 lG)) (Sq (Sr nt (Ci 87 (Rr ns))) (Rr nr))))))))))⟩
def GN:LI:=[.inLoop wx, .inBlock 0, .code (Sq (Sr Cm (Ci 43 (Rr Ck))) (Sq (Sr Cj (Bl 2 oG)) (Sq (Sr r6 (Ci 61 (Rr r5))) (Sq (Sr r4 (Bl 4 lG)) (Sq (Sr nt (Ci 87 (Rr ns))) (Rr nr))))))]
def GM:LI:=[.inLoop oG, .inBlock 2, .code (Sq (Sr r6 (Ci 61 (Rr r5))) (Sq (Sr r4 (Bl 4 lG)) (Sq (Sr nt (Ci 87 (Rr ns))) (Rr nr))))]
def GJ:LI:=[.inLoop lG, .inBlock 4, .code (Sq (Sr nt (Ci 87 (Rr ns))) (Rr nr))]
def alN:LO:=[Op 1 (.box (.t 0)),Mc 2 (.str []),Mc 3 (.int .i64 0)]
def alM:LO:=[Ls 6 5 1,Ct 7 325 [6],Mv 4 7]
def alK:LO:=[Mv 8 4,Bc 9 .neq 8 0]
def alJ:LO:=[Mv 10 4,Mc 2 (.str []),Mv 3 10]
def alI:LO:=[Mc 5 (.str [100, 101, 110, 121, 32])]
def alH:LO:=[Fa 11 0 1,Ld 12 11]
def alG:LO:=[Mc 5 (.str [112, 101, 114, 109, 105, 116, 32])]
def alF:LO:=[Mv 13 5,Fa 14 1 1,Ls 15 2 14,Ct 16 229 [15],Bi 17 .add 13 16,Mv 5 17]
def alE:LO:=[Fa 18 3 1,Ld 19 18,Fa 20 1 1,Fa 21 1 20,Ld 22 21,Bi 23 .neq 19 22,Mv 24 23,Gf 24 (Fa 25 4 1),Gf 24 (Ld 26 25),Gf 24 (Fa 27 1 1),Gf 24 (Fa 28 1 27),Gf 24 (Ld 29 28),Gf 24 (Bi 30 .neq 26 29),Po 31 24 30]
def alD:LO:=[Mv 32 5,Fa 33 3 1,Ld 34 33,Af [2] (Ct 35 337 [34]),Op 36 (.bin .add (.c (.str [32])) (.t 35)),Op 37 (.bin .add (.t 36) (.c (.str [45]))),Fa 38 4 1,Ld 39 38,Af [7, 3, 2] (Ct 40 337 [39]),Bi 41 .add 37 40,Bi 42 .add 32 41,Mv 5 42]
def VN:LO:=[Mv 43 5,Mv 2 43,Mc 3 (.int .i64 0)]
def f332 : AFunc := ⟨44, 1, false, [.t 2, .t 3], (Sr alN (Sq (Sr alM (Sr alK (Ci 9 (Rr alJ)))) (Sr alI (Sq (Sr alH (Cn 12 (Rg alG) Sk)) (Sr alF (Sq (Sr alE (Cn 31 (Rd alD) Sk)) (Rr VN)))))))⟩
def ajR:LO:=[Mc 2 (.str [])]
def ajQ:LO:=[Mv 3 0]
def ajP:LO:=[Mc 2 (.str [112, 101, 114, 109, 105, 116, 32])]
def ajO:LO:=[Mc 2 (.str [100, 101, 110, 121, 32])]
def f452 : AFunc := ⟨4, 1, false, [.t 2], (Sr ajR (Sq (Sr ajQ (Ci 3 (Rr ajP))) (Rr ajO)))⟩
def ajN:LO:=[Mc 2 (.str [])]
def ajM:LO:=[Mv 3 0,Bc 4 .lss 3 0]
def ajL:LO:=[Mc 2 (.str [42])]
def ajK:LO:=[Mv 5 0,Ct 6 337 [5],Mv 2 6]
def f453 : AFunc := ⟨7, 1, false, [.t 2], (Sr ajN (Sq (Sr ajM (Ci 4 (Rr ajL))) (Rr ajK)))⟩
def ajJ:LO:=[Op 1 (.box (.t 0)),Mc 2 (.str [])]
def ajI:LO:=[Fa 11 0 1,Ld 12 11,Op 13 (.bin .add (.c (.str [112, 111, 108, 105, 99, 121, 32])) (.t 12)),Op 14 (.bin .add (.t 13) (.c (.str [10]))),Mv 3 14]
def ajH:LO:=[Fa 15 1 1,Ld 16 15,Ln 17 0 16,Mc 18 (.int .i64 0)]
def ajG:LO:=[Bi 19 .lss 18 17]
def ajF:LO:=[Ia 20 4 16 18,Ls 21 4 20,Op 5 (.alloc (.agg zz5)),St 4 5 21]
def ajE:LO:=[Mv 22 3,Fa 23 0 5,Ld 24 23,Op 25 (.bin .add (.c (.str [116, 101, 114, 109, 32])) (.t 24)),Op 26 (.bin .add (.t 25) (.c (.str [10]))),Bi 27 .add 22 26,Mv 3 27]
def ajD:LO:=[Fa 28 1 5,Ld 29 28,Ln 30 0 29,Mc 31 (.int .i64 0)]
def ajC:LO:=[Bi 32 .lss 31 30]
def ajB:LO:=[Ia 33 6 29 31,Ls 34 6 33,Op 7 (.alloc (.agg zz7)),St 6 7 34]
def ajA:LO:=[Mc 8 (.str [])]
def T6:LO:=[Fa 35 5 7,Ld 36 35]
def TZ:LO:=[Mc 8 (.str [110, 111, 116, 32])]
def TW:LO:=[Mv 37 3,Mv 38 8,Op 39 (.bin .add (.c (.str [109, 97, 116, 99, 104, 32])) (.t 38)),Ls 40 6 7,Ct 41 524 [40],Bi 42 .add 39 41,Op 43 (.bin .add (.t 42) (.c (.str [10]))),Bi 44 .add 37 43,Mv 3 44]
def TV:LO:=[Bc 45 .add 31 1,Mv 31 45]
def wB:ACode:=(Sr ajC (Sq (Cx 32 2) (Sq (Bk 3 (Sr ajB (Sr ajA (Sq (Sr T6 (Cn 36 (Rg TZ) Sk)) (Rg TW))))) (Rg TV))))
def Cr:LO:=[Fa 46 2 5,Ld 47 46,Ln 48 0 47,Mc 49 (.int .i64 0)]
def TU:LO:=[Bi 50 .lss 49 48]
def TR:LO:=[Ia 51 5 47 49,Ls 52 5 51,Op 10 (.alloc (.agg zz2)),St 5 10 52]
def TK:LO:=[Mv 53 3,Ls 54 5 10,Ct 55 525 [54],Op 56 (.bin .add (.c (.str [115, 101, 116, 32])) (.t 55)),Op 57 (.bin .add (.t 56) (.c (.str [10]))),Bi 58 .add 53 57,Mv 3 58]
def TJ:LO:=[Bc 59 .add 49 1,Mv 49 59]
def oQ:ACode:=(Sr TU (Sq (Cx 50 4) (Sq (Bk 5 (Sr TR (Rg TK))) (Rg TJ))))
def sb:LO:=[Mv 60 3,Fa 61 3 5,Ld 62 61,Ct 63 526 [62],Op 64 (.bin .add (.t 63) (.c (.str [10]))),Bi 65 .add 60 64,Mv 3 65]
def sa:LO:=[Bc 66 .add 18 1,Mv 18 66]
def lI:ACode:=(Sr ajG (Sq (Cx 19 0) (Sq (Bk 1 (Sr ajF (Sr ajE (Sq (Sr ajD (Bl 2 wB)) (Sq (Sr Cr (Bl 4 oQ)) (Rg sb)))))) (Rg sa))))
def nu:LO:=[Mv 67 3,Op 68 (.bin .add (.t 67) (.c (.str [100, 101, 102, 97, 117, 108, 116, 32]))),Fa 69 2 1,Ld 70 69,Ct 71 526 [70],Bi 72 .add 68 71,Op 73 (.bin .add (.t 72) (.c (.str [10]))),Mv 2 73]
def f454 : AFunc := ⟨74, 1, false, [.t 2], (Sr ajJ (Sr ajI (Sq (Sr ajH (Bl 0 lI)) (Rr nu))))⟩
def ajz:LO:=[Mv 7 0,Op 8 (.mkfn 1049117 [(.t 7)]),Mv 5 8]
def ajy:LO:=[Mv 9 0,Nc 10 9,Fa 11 10 10,Ld 12 11]
def ajx:LO:=[Mv 13 0,Op 14 (.mkfn 1049118 [(.t 13)]),Mv 5 14]
def ajw:LO:=[Mv 15 0,Nc 16 15,Fa 17 9 16,Ld 18 17]
def ajv:LO:=[Mv 19 0,Op 20 (.mkfn 1049119 [(.t 19)]),Mv 5 20]
def aju:LO:=[Mv 21 5,Mv 22 1,Op 23 (.call (.t 21) [(.t 22)])]
def ajt:LO:=[⟨none, .store 1 (.t 4) (.c (.int .i64 0)), none, []⟩]
def W8 : AGuard := ⟨24, 2, [Op 4 (.alloc (.int .i64 0))], [Op 6 (.mkfn 540 [(.t 4)])], (.t 6), (.seq (.region ajz false) (.seq (.seq (.region ajy false) (.cond (.t 12) (.region ajx false) (.seq (.region ajw false) (.cond (.t 18) (.region ajv false) .skip)))) (.seq (.region aju false) (.seq (.region ajt false) .ret)))), [.cell 4 none]⟩
def Zp:LO:=[Mc 6 (.bool false)]
def Zo:LO:=[Mv 8 0,Ln 9 0 8,Mv 10 1,Ln 11 0 10,Bi 12 .neq 9 11]
def Zn:LO:=[Mc 6 (.bool false)]
def Zm:LO:=[Mv 13 0,Ln 14 0 13,Mc 15 (.int .i64 0)]
def Zl:LO:=[Bi 16 .lss 15 14]
def Zk:LO:=[Mv 17 15,Mv 7 17]
def Zh:LO:=[Mv 18 2,Mv 19 0,Mv 20 7,Ia 21 2 19 20,Af [3] (Ls 22 2 21),Mv 23 1,Mv 24 7,Ia 25 2 23 24,Af [7] (Ls 26 2 25),Af [4, 8, 3, 7] (Op 27 (.call (.t 18) [(.t 22), (.t 26)])),Un 28 .not 27]
def Zf:LO:=[Mc 6 (.bool false)]
def Ze:LO:=[Bc 29 .add 15 1,Mv 15 29]
def Aq:ACode:=(Sr Zl (Sq (Cx 16 0) (Sq (Bk 1 (Sr Zk (Sq (Rd Zh) (Ci 28 (Rr Zf))))) (Rg Ze))))
def Au:LO:=[Mc 6 (.bool true)]
def f671 : AFunc := ⟨30, 3, false, [.t 6], (Sr Zp (Sq (Sr Zo (Ci 12 (Rr Zn))) (Sq (Sr Zm (Bl 0 Aq)) (Rr Au))))⟩
def Zc:LO:=[Op 2 (.box (.t 0)),Op 3 (.box (.t 1)),Mc 4 (.bool false)]
def Y9:LO:=[Fa 5 0 2,Ld 6 5,Fa 7 0 3,Ld 8 7,Bi 9 .eql 6 8,Mv 10 9,Gt 10 (Fa 11 1 2),Gt 10 (Ld 12 11),Gt 10 (Fa 13 1 3),Gt 10 (Ld 14 13),Gt 10 (Ct 15 673 [12, 14]),Pa 16 10 15,Mv 4 16]
def f672 : AFunc := ⟨17, 2, false, [.t 4], (Sr Zc (Rr Y9))⟩
def Y8:LO:=[Mc 4 (.bool false)]
def Y7:LO:=[Mv 6 0,Ln 7 0 6,Mv 8 1,Ln 9 0 8,Bi 10 .neq 7 9]
def Y6:LO:=[Mc 4 (.bool false)]
def Y5:LO:=[Mv 11 0,Ln 12 0 11,Mc 13 (.int .i64 0)]
def YZ:LO:=[Bi 14 .lss 13 12]
def YY:LO:=[Mv 15 13,Mv 5 15]
def YX:LO:=[Mv 16 0,Mv 17 5,Ia 18 5 16 17,Af [2] (Ls 19 5 18),Mv 20 1,Mv 21 5,Ia 22 5 20 21,Af [6] (Ls 23 5 22),Op 24 (.eqs [.bool, .int, .int, .int, .int] true (.t 19) (.t 23))]
def YW:LO:=[Mc 4 (.bool false)]
def YV:LO:=[Bc 25 .add 13 1,Mv 13 25]
def Ah:ACode:=(Sr YZ (Sq (Cx 14 0) (Sq (Bk 1 (Sr YY (Sq (Rd YX) (Ci 24 (Rr YW))))) (Rg YV))))
def Am:LO:=[Mc 4 (.bool true)]
def f673 : AFunc := ⟨26, 2, false, [.t 4], (Sr Y8 (Sq (Sr Y7 (Ci 10 (Rr Y6))) (Sq (Sr Y5 (Bl 0 Ah)) (Rr Am))))⟩
def YU:LO:=[Mc 6 (.bool false)]
def YT:LO:=[Mv 8 0,Ln 9 0 8,Mv 10 1,Ln 11 0 10,Bi 12 .neq 9 11]
def YQ:LO:=[Mc 6 (.bool false)]
def YP:LO:=[Mv 13 0,Ln 14 0 13,Mc 15 (.int .i64 0)]
def YO:LO:=[Bi 16 .lss 15 14]
def YN:LO:=[Mv 17 15,Mv 7 17]
def YM:LO:=[Mv 18 2,Mv 19 0,Mv 20 7,Ia 21 2 19 20,Af [3] (Ls 22 2 21),Mv 23 1,Mv 24 7,Ia 25 2 23 24,Af [7] (Ls 26 2 25),Af [4, 8, 3, 7] (Op 27 (.call (.t 18) [(.t 22), (.t 26)])),Un 28 .not 27]
def YL:LO:=[Mc 6 (.bool false)]
def YK:LO:=[Bc 29 .add 15 1,Mv 15 29]
def Ae:ACode:=(Sr YO (Sq (Cx 16 0) (Sq (Bk 1 (Sr YN (Sq (Rd YM) (Ci 28 (Rr YL))))) (Rg YK))))
def Ag:LO:=[Mc 6 (.bool true)]
def f674 : AFunc := ⟨30, 3, false, [.t 6], (Sr YU (Sq (Sr YT (Ci 12 (Rr YQ))) (Sq (Sr YP (Bl 0 Ae)) (Rr Ag))))⟩
def YJ:LO:=[Mc 6 (.bool false)]
def YI:LO:=[Mv 8 0,Ln 9 0 8,Mv 10 1,Ln 11 0 10,Bi 12 .neq 9 11]
def Yz:LO:=[Mc 6 (.bool false)]
def Yy:LO:=[Mv 13 0,Ln 14 0 13,Mc 15 (.int .i64 0)]
def Yx:LO:=[Bi 16 .lss 15 14]
def Yw:LO:=[Mv 17 15,Mv 7 17]
def Yv:LO:=[Mv 18 2,Mv 19 0,Mv 20 7,Ia 21 2 19 20,Af [3] (Ls 22 2 21),Mv 23 1,Mv 24 7,Ia 25 2 23 24,Af [7] (Ls 26 2 25),Af [4, 8, 3, 7] (Op 27 (.call (.t 18) [(.t 22), (.t 26)])),Un 28 .not 27]
def Yu:LO:=[Mc 6 (.bool false)]
def Yt:LO:=[Bc 29 .add 15 1,Mv 15 29]
def Aa:ACode:=(Sr Yx (Sq (Cx 16 0) (Sq (Bk 1 (Sr Yw (Sq (Rd Yv) (Ci 28 (Rr Yu))))) (Rg Yt))))
def Ab:LO:=[Mc 6 (.bool true)]
def f677 : AFunc := ⟨30, 3, false, [.t 6], (Sr YJ (Sq (Sr YI (Ci 12 (Rr Yz))) (Sq (Sr Yy (Bl 0 Aa)) (Rr Ab))))⟩
def Yq:LO:=[Op 2 (.box (.t 0)),Op 3 (.box (.t 1)),Mc 4 (.bool false)]
def Yp:LO:=[Fa 5 0 2,Ld 6 5,Fa 7 0 3,Ld 8 7,Bi 9 .eql 6 8,Mv 10 9,Gt 10 (Fa 11 1 2),Gt 10 (Ld 12 11),Gt 10 (Fa 13 1 3),Gt 10 (Ld 14 13),Gt 10 (Ct 15 679 [12, 14]),Pa 16 10 15,Mv 4 16]
def f678 : AFunc := ⟨17, 2, false, [.t 4], (Sr Yq (Rr Yp))⟩
def Yo:LO:=[Mc 4 (.bool false)]
def Yn:LO:=[Mv 6 0,Ln 7 0 6,Mv 8 1,Ln 9 0 8,Bi 10 .neq 7 9]
def Ym:LO:=[Mc 4 (.bool false)]
def Yl:LO:=[Mv 11 0,Ln 12 0 11,Mc 13 (.int .i64 0)]
def Yk:LO:=[Bi 14 .lss 13 12]
def Yj:LO:=[Mv 15 13,Mv 5 15]
def Yi:LO:=[Mv 16 0,Mv 17 5,Ia 18 3 16 17,Af [2] (Ls 19 3 18),Mv 20 1,Mv 21 5,Ia 22 3 20 21,Af [6] (Ls 23 3 22),Op 24 (.eqs [.bool, .int, .int] true (.t 19) (.t 23))]
def Yh:LO:=[Mc 4 (.bool false)]
def Yg:LO:=[Bc 25 .add 13 1,Mv 13 25]
def z7:ACode:=(Sr Yk (Sq (Cx 14 0) (Sq (Bk 1 (Sr Yj (Sq (Rd Yi) (Ci 24 (Rr Yh))))) (Rg Yg))))
def z8:LO:=[Mc 4 (.bool true)]
def f679 : AFunc := ⟨26, 2, false, [.t 4], (Sr Yo (Sq (Sr Yn (Ci 10 (Rr Ym))) (Sq (Sr Yl (Bl 0 z7)) (Rr z8))))⟩
def Yf:LO:=[Mc 6 (.bool false)]
def Ye:LO:=[Mv 8 0,Ln 9 0 8,Mv 10 1,Ln 11 0 10,Bi 12 .neq 9 11]
def Yd:LO:=[Mc 6 (.bool false)]
def Yc:LO:=[Mv 13 0,Ln 14 0 13,Mc 15 (.int .i64 0)]
def Yb:LO:=[Bi 16 .lss 15 14]
def Ya:LO:=[Mv 17 15,Mv 7 17]
def X9:LO:=[Mv 18 2,Mv 19 0,Mv 20 7,Ia 21 3 19 20,Af [3] (Ls 22 3 21),Mv 23 1,Mv 24 7,Ia 25 3 23 24,Af [7] (Ls 26 3 25),Af [4, 8, 3, 7] (Op 27 (.call (.t 18) [(.t 22), (.t 26)])),Un 28 .not 27]
def X8:LO:=[Mc 6 (.bool false)]
def X7:LO:=[Bc 29 .add 15 1,Mv 15 29]
def zY:ACode:=(Sr Yb (Sq (Cx 16 0) (Sq (Bk 1 (Sr Ya (Sq (Rd X9) (Ci 28 (Rr X8))))) (Rg X7))))
def z6:LO:=[Mc 6 (.bool true)]
def f680 : AFunc := ⟨30, 3, false, [.t 6], (Sr Yf (Sq (Sr Ye (Ci 12 (Rr Yd))) (Sq (Sr Yc (Bl 0 zY)) (Rr z6))))⟩
def X6:LO:=[Op 2 (.box (.t 0)),Op 3 (.box (.t 1)),Mc 4 (.bool false)]
def X5:LO:=[Fa 5 0 2,Ld 6 5,Fa 7 0 3,Ld 8 7,Bi 9 .eql 6 8,Mv 10 9,Gt 10 (Fa 11 2 2),Gt 10 (Ld 12 11),Gt 10 (Fa 13 2 3),Gt 10 (Ld 14 13),Gt 10 (Bi 15 .eql 12 14),Pa 16 10 15,Mv 17 16,Gt 17 (Fa 18 1 2),Gt 17 (Ld 19 18),Gt 17 (Fa 20 1 3),Gt 17 (Ld 21 20),Gt 17 (Ca 22 682 [(.t 19), (.t 21), (.c (.fn 683 []))]),Pa 23 17 22,Mv 4 23]
def f681 : AFunc := ⟨24, 2, false, [.t 4], (Sr X6 (Rr X5))⟩
def XZ:LO:=[Mc 6 (.bool false)]
def XY:LO:=[Mv 8 0,Ln 9 0 8,Mv 10 1,Ln 11 0 10,Bi 12 .neq 9 11]
def XX:LO:=[Mc 6 (.bool false)]
def XW:LO:=[Mv 13 0,Ln 14 0 13,Mc 15 (.int .i64 0)]
def XV:LO:=[Bi 16 .lss 15 14]
def XU:LO:=[Mv 17 15,Mv 7 17]
def XT:LO:=[Mv 18 2,Mv 19 0,Mv 20 7,Ia 21 4 19 20,Af [3] (Ls 22 4 21),Mv 23 1,Mv 24 7,Ia 25 4 23 24,Af [7] (Ls 26 4 25),Af [4, 8, 3, 7] (Op 27 (.call (.t 18) [(.t 22), (.t 26)])),Un 28 .not 27]
def XQ:LO:=[Mc 6 (.bool false)]
def XP:LO:=[Bc 29 .add 15 1,Mv 15 29]
def zW:ACode:=(Sr XV (Sq (Cx 16 0) (Sq (Bk 1 (Sr XU (Sq (Rd XT) (Ci 28 (Rr XQ))))) (Rg XP))))
def zX:LO:=[Mc 6 (.bool true)]
def f682 : AFunc := ⟨30, 3, false, [.t 6], (Sr XZ (Sq (Sr XY (Ci 12 (Rr XX))) (Sq (Sr XW (Bl 0 zW)) (Rr zX))))⟩
def XO:LO:=[Op 2 (.box (.t 0)),Op 3 (.box (.t 1)),Mc 4 (.bool false)]
def Xz:LO:=[Fa 5 0 2,Ld 6 5,Fa 7 0 3,Ld 8 7,Bi 9 .eql 6 8,Mv 10 9,Gt 10 (Fa 11 3 2),Gt 10 (Ld 12 11),Gt 10 (Fa 13 3 3),Gt 10 (Ld 14 13),Gt 10 (Bi 15 .eql 12 14),Pa 16 10 15,Mv 17 16,Gt 17 (Fa 18 1 2),Gt 17 (Ld 19 18),Gt 17 (Fa 20 1 3),Gt 17 (Ld 21 20),Gt 17 (Ct 22 684 [19, 21]),Pa 23 17 22,Mv 24 23,Gt 24 (Fa 25 2 2),Gt 24 (Ld 26 25),Gt 24 (Fa 27 2 3),Gt 24 (Ld 28 27),Gt 24 (Ct 29 685 [26, 28]),Pa 30 24 29,
 Mv 4 30]
def f683 : AFunc := ⟨31, 2, false, [.t 4], (Sr XO (Rr Xz))⟩
def Xy:LO:=[Mc 4 (.bool false)]
def Xx:LO:=[Mv 6 0,Ln 7 0 6,Mv 8 1,Ln 9 0 8,Bi 10 .neq 7 9]
def Xw:LO:=[Mc 4 (.bool false)]
def Xv:LO:=[Mv 11 0,Ln 12 0 11,Mc 13 (.int .i64 0)]
def Xu:LO:=[Bi 14 .lss 13 12]
def Xq:LO:=[Mv 15 13,Mv 5 15]
def Xp:LO:=[Mv 16 0,Mv 17 5,Ia 18 6 16 17,Af [2] (Ls 19 6 18),Mv 20 1,Mv 21 5,Ia 22 6 20 21,Af [6] (Ls 23 6 22),Op 24 (.eqs [.int, .str, .int, .int, .int, .bool] true (.t 19) (.t 23))]
def Xo:LO:=[Mc 4 (.bool false)]
def Xn:LO:=[Bc 25 .add 13 1,Mv 13 25]
def zT:ACode:=(Sr Xu (Sq (Cx 14 0) (Sq (Bk 1 (Sr Xq (Sq (Rd Xp) (Ci 24 (Rr Xo))))) (Rg Xn))))
def zU:LO:=[Mc 4 (.bool true)]
def f684 : AFunc := ⟨26, 2, false, [.t 4], (Sr Xy (Sq (Sr Xx (Ci 10 (Rr Xw))) (Sq (Sr Xv (Bl 0 zT)) (Rr zU))))⟩
def Xm:LO:=[Mc 4 (.bool false)]
def Xl:LO:=[Mv 6 0,Ln 7 0 6,Mv 8 1,Ln 9 0 8,Bi 10 .neq 7 9]
def Xk:LO:=[Mc 4 (.bool false)]
def Xh:LO:=[Mv 11 0,Ln 12 0 11,Mc 13 (.int .i64 0)]
def Xg:LO:=[Bi 14 .lss 13 12]
def Xf:LO:=[Mv 15 13,Mv 5 15]
def Xd:LO:=[Mv 16 0,Mv 17 5,Ia 18 5 16 17,Af [2] (Ls 19 5 18),Mv 20 1,Mv 21 5,Ia 22 5 20 21,Af [6] (Ls 23 5 22),Op 24 (.eqs [.int, .int, .int, .int, .int] true (.t 19) (.t 23))]
def Xc:LO:=[Mc 4 (.bool false)]
def Xb:LO:=[Bc 25 .add 13 1,Mv 13 25]
def zO:ACode:=(Sr Xg (Sq (Cx 14 0) (Sq (Bk 1 (Sr Xf (Sq (Rd Xd) (Ci 24 (Rr Xc))))) (Rg Xb))))
def zP:LO:=[Mc 4 (.bool true)]
def f685 : AFunc := ⟨26, 2, false, [.t 4], (Sr Xm (Sq (Sr Xl (Ci 10 (Rr Xk))) (Sq (Sr Xh (Bl 0 zO)) (Rr zP))))⟩
def afJ:LO:=[Mc 4 (.int .i64 0)]
def afI:LO:=[Mv 6 1,Ct 7 623 [6],Un 8 .not 7,Mv 5 8]
def afH:LO:=[Mc 4 (.int .i64 1)]
def afG:LO:=[Mv 10 0,Ln 11 0 10,Bc 12 .gtr 11 0,Mv 13 12,Gt 13 (Mv 14 1),Gt 13 (Mv 15 0),Gt 13 (Mv 16 0),Gt 13 (Ln 17 0 16),Gt 13 (Bc 18 .sub 17 1),Gt 13 (Ia 19 1 15 18),Gt 13 (Ld 20 19),Gt 13 (Bi 21 .leq 14 20),Pa 22 13 21,Mv 9 22]
def afF:LO:=[Mc 4 (.int .i64 16)]
def afE:LO:=[Mc 4 (.int .i64 0)]
def f577 : AFunc := ⟨23, 2, false, [.t 4], (Sr afJ (Sq (Bk 0 (Sr afI (Cn 5 (Rr afH) (Sr afG (Ci 9 (Rr afF)))))) (Rr afE)))⟩
def am6:LO:=[Op 1 (.box (.t 0)),Mc 2 (.bool false)]
def am5:LO:=[Fa 3 1 1,Ld 4 3,Bc 5 .geq 4 0,Mv 6 5,Gt 6 (Fa 7 1 1),Af [1] (Gt 6 (Ld 8 7)),Gt 6 (Bc 9 .leq 8 32),Pa 10 6 9,Mv 11 10,Gt 11 (Fa 12 0 1),Af [5, 1] (Gt 11 (Ld 13 12)),Gt 11 (Fa 14 1 1),Af [5, 1] (Gt 11 (Ld 15 14)),Af [10, 12, 5, 1] (Gt 11 (Ct 16 181 [13, 15])),Gt 11 (Fa 17 0 1),Af [5, 1] (Gt 11 (Ld 18 17)),Gt 11 (Bi 19 .eql 16 18),Pa 20 11 19,Mv 2 20]
def f178 : AFunc := ⟨21, 1, false, [.t 2], (Sr am6 (Sq (Rd am5) Rt))⟩
def afD:LO:=[Op 4 (.alloc (.agg zz0))]
def afC:LO:=[Mv 6 1,Bc 7 .gtr 6 32]
def afB:LO:=[Op 8 (.build [] [] []),Op 9 (.mkifc 129 (.t 8)),⟨none, .panic (.t 9), none, []⟩]
def afA:LO:=[Mv 10 0,Mv 11 1,Ct 12 624 [10, 11],Op 13 (.bsl 4 zz0 1 [0] [(.t 12)]),Mv 5 13]
def afz:LO:=[Mv 14 0,Ct 15 625 [14],Op 16 (.bin .eql (.t 15) (.c (.int .u8 124)))]
def afy:LO:=[Mv 17 0,Nc 18 17,Fa 19 1 18,Ld 20 19,Bc 21 .add 20 1,Nc 22 17,Fa 23 1 22,St 1 23 21]
def afx:LO:=[Mv 24 5,Mv 25 0,Mv 26 1,Ct 27 624 [25, 26],Op 28 (.bsl 4 zz0 1 [0] [(.t 27)]),Ap 29 4 48 24 28,Mv 5 29]
def BM:ACode:=(Sq (Sr afz (Cx 16 0)) (Bk 1 (Sr afy (Rg afx))))
def GA:LO:=[Mv 30 5,Ln 31 0 30,Bc 32 .eql 31 1]
def Gz:LO:=[Mv 33 5,Op 34 (.iadr 4 (.t 33) (.c (.int .i64 0))),Ls 35 4 34,St 4 4 35]
def BN:LO:=[Mv 36 5,Op 37 (.build zz0 [(0, 1), (3, 1)] [(.c (.int .i64 4)), (.t 36)]),St 4 4 37]
def f579 : AFunc := ⟨38, 2, false, [.cell 4 (some 4)], (Sr afD (Sq (Sr afC (Cn 7 (Rg afB) Sk)) (Sr afA (Sq (Bl 0 BM) (Sq (Sr GA (Ci 32 (Rr Gz))) (Rr BN))))))⟩
def JY:LI:=[.inLoop BM, .inBlock 0, .code (Sq (Sr GA (Ci 32 (Rr Gz))) (Rr BN))]
def afw:LO:=[Op 1 (.box (.t 0)),Mc 2 (.str []),Mc 3 (.int .i64 0)]
def afv:LO:=[Ls 5 4 1,Ct 6 626 [5],Mv 4 6]
def afu:LO:=[Mv 7 4,Bc 8 .neq 7 0]
def aft:LO:=[Mv 9 4,Mc 2 (.str []),Mv 3 9]
def afs:LO:=[Ls 10 4 1,Ct 11 627 [10],Mv 2 11,Mc 3 (.int .i64 0)]
def f580 : AFunc := ⟨12, 1, false, [.t 2, .t 3], (Sr afw (Sq (Sr afv (Sr afu (Ci 8 (Rr aft)))) (Rr afs)))⟩
def afr:LO:=[Mc 6 (.bool false)]
def afq:LO:=[Mv 7 1,Mv 8 0,Bi 9 .leq 7 8,Mv 10 9,Gt 10 (Mv 11 0),Gt 10 (Mv 12 2),Gt 10 (Bi 13 .leq 11 12),Pa 14 10 13,Mv 6 14]
def f581 : AFunc := ⟨15, 3, false, [.t 6], (Sr afr (Rr afq))⟩
def afp:LO:=[Op 3 (.box (.t 0)),Op 5 (.box (.t 2)),Mc 6 (.int .i64 0)]
def afo:LO:=[Fa 15 0 5,Ld 16 15,Ct 17 623 [16],Un 18 .not 17]
def afn:LO:=[Mc 6 (.int .i64 1)]
def afm:LO:=[Mv 19 1,Ln 20 0 19,Mc 21 (.int .i64 0)]
def afl:LO:=[Bi 22 .lss 21 20]
def afk:LO:=[Ia 23 4 19 21,Ls 24 4 23,Op 8 (.alloc (.agg zz5)),St 4 8 24]
def afj:LO:=[Fa 25 0 8,Ld 26 25,Fa 27 0 5,Ld 28 27,Bi 29 .eql 26 28]
def afi:LO:=[Mc 6 (.int .i64 7)]
def afh:LO:=[Bc 30 .add 21 1,Mv 21 30]
def BH:ACode:=(Sr afl (Sq (Cx 22 0) (Sq (Bk 1 (Sr afk (Sr afj (Ci 29 (Rr afi))))) (Rg afh))))
def BL:LO:=[Fa 31 1 5,Ld 32 31,Ln 33 0 32,Bc 34 .gtr 33 64]
def BJ:LO:=[Mc 6 (.int .i64 4)]
def BI:LO:=[Fa 35 1 5,Ld 36 35,Ln 37 0 36,Mc 38 (.int .i64 0)]
def QC:LO:=[Bi 39 .lss 38 37]
def QB:LO:=[Ia 40 6 36 38,Ls 41 6 40,Op 10 (.alloc (.agg zz7)),St 6 10 41]
def Qz:LO:=[Ls 42 4 3,Ls 43 6 10,Ct 44 594 [42, 43],Mv 11 44]
def Qy:LO:=[Mv 45 11,Bc 46 .neq 45 0]
def Qx:LO:=[Mv 47 11,Mv 6 47]
def Qw:LO:=[Bc 48 .add 38 1,Mv 38 48]
def oB:ACode:=(Sr QC (Sq (Cx 39 2) (Sq (Bk 3 (Sr QB (Sr Qz (Sr Qy (Ci 46 (Rr Qx)))))) (Rg Qw))))
def rZ:LO:=[Fa 49 2 5,Ld 50 49,Ln 51 0 50,Bc 52 .gtr 51 64]
def rY:LO:=[Mc 6 (.int .i64 4)]
def rX:LO:=[Fa 53 2 5,Ld 54 53,Ln 55 0 54,Mc 56 (.int .i64 0)]
def Qv:LO:=[Bi 57 .lss 56 55]
def Qu:LO:=[Ia 58 5 54 56,Ls 59 5 58,Op 13 (.alloc (.agg zz2)),St 5 13 59]
def Qt:LO:=[Ls 60 5 13,Ct 61 596 [60],Mv 14 61]
def Qr:LO:=[Mv 62 14,Bc 63 .neq 62 0]
def Qq:LO:=[Mv 64 14,Mv 6 64]
def Qp:LO:=[Bc 65 .add 56 1,Mv 56 65]
def lC:ACode:=(Sr Qv (Sq (Cx 57 4) (Sq (Bk 5 (Sr Qu (Sr Qt (Sr Qr (Ci 63 (Rr Qq)))))) (Rg Qp))))
def nn:LO:=[Fa 66 3 5,Ld 67 66,Ca 68 581 [(.t 67), (.c (.int .i64 1)), (.c (.int .i64 3))],Un 69 .not 68]
def nl:LO:=[Mc 6 (.int .i64 15)]
def nk:LO:=[Mc 6 (.int .i64 0)]
def f582 : AFunc := ⟨70, 3, false, [.t 6], (Sr afp (Sq (Sr afo (Ci 18 (Rr afn))) (Sq (Sr afm (Bl 0 BH)) (Sq (Sr BL (Ci 34 (Rr BJ))) (Sq (Sr BI (Bl 2 oB)) (Sq (Sr rZ (Ci 52 (Rr rY))) (Sq (Sr rX (Bl 4 lC)) (Sq (Sr nn (Ci 69 (Rr nl))) (Rr nk)))))))))⟩
def JX:LI:=[.inLoop BH, .inBlock 0, .code (Sq (Sr BL (Ci 34 (Rr BJ))) (Sq (Sr BI (Bl 2 oB)) (Sq (Sr rZ (Ci 52 (Rr rY))) (Sq (Sr rX (Bl 4 lC)) (Sq (Sr nn (Ci 69 (Rr nl))) (Rr nk))))))]
def Gy:LI:=[.inLoop oB, .inBlock 2, .code (Sq (Sr rZ (Ci 52 (Rr rY))) (Sq (Sr rX (Bl 4 lC)) (Sq (Sr nn (Ci 69 (Rr nl))) (Rr nk))))]
def Gx:LI:=[.inLoop lC, .inBlock 4, .code (Sq (Sr nn (Ci 69 (Rr nl))) (Rr nk))]
def alU:LO:=[Op 1 (.box (.t 0)),Mc 2 (.int .i64 0)]
def alS:LO:=[Fa 3 1 1,Ls 4 2 3,Ct 5 179 [4],Un 6 .not 5]
def alR:LO:=[Mc 2 (.int .i64 1)]
def alQ:LO:=[Fa 7 3 1,Ld 8 7,Fa 9 1 1,Fa 10 1 9,Ld 11 10,Bi 12 .lss 8 11,Mv 13 12,Gf 13 (Fa 14 4 1),Gf 13 (Ld 15 14),Gf 13 (Fa 16 3 1),Gf 13 (Ld 17 16),Gf 13 (Bi 18 .lss 15 17),Po 19 13 18,Mv 20 19,Gf 20 (Fa 21 4 1),Gf 20 (Ld 22 21),Gf 20 (Bc 23 .gtr 22 32),Po 24 20 23]
def alP:LO:=[Mc 2 (.int .i64 5)]
def alO:LO:=[Mc 2 (.int .i64 0)]
def f326 : AFunc := ⟨25, 1, false, [.t 2], (Sr alU (Sq (Sr alS (Ci 6 (Rr alR))) (Sq (Sr alQ (Ci 24 (Rr alP))) (Rr alO))))⟩
def agl:LO:=[Op 2 (.alloc (.agg zz0)),Mc 3 (.int .i64 0)]
def agk:LO:=[Mv 7 0,Op 8 (.build [.str [], .int .i64 0] [(0, 1)] [(.t 7)]),Op 9 (.box (.t 8)),Mv 4 9]
def agj:LO:=[Mv 11 4,Ca 12 616 [(.t 11), (.c (.int .i64 1))],Mv 10 12,Ex 13 10 0,Ex 14 10 1,Op 5 (.alloc (.agg zz0)),St 4 5 13,Mv 6 14]
def agi:LO:=[Mv 15 6,Un 16 .not 15,Mv 17 16,Gf 17 (Mv 18 4),Gf 17 (Nc 19 18),Gf 17 (Fa 20 1 19),Gf 17 (Ld 21 20),Gf 17 (Mv 22 0),Gf 17 (Ln 23 1 22),Gf 17 (Bi 24 .lss 21 23),Po 25 17 24,Mv 26 25,Gf 26 (Ls 27 4 5),Gf 26 (Ct 28 617 [27]),Gf 26 (Bc 29 .neq 28 0),Po 30 26 29,Mv 31 30,Gf 31 (Ls 32 4 5),Gf 31 (Ct 33 618 [32]),Gf 31 (Mv 34 0),Gf 31 (Bi 35 .neq 33 34),Po 36 31 35]
def agh:LO:=[Op 37 (.build zz0 [] []),St 4 2 37,Mc 3 (.int .i64 2)]
def agf:LO:=[Ls 38 4 5,St 4 2 38,Mc 3 (.int .i64 0)]
def f571 : AFunc := ⟨39, 1, false, [.cell 2 (some 4), .t 3], (Sr agl (Sr agk (Sr agj (Sq (Sr agi (Ci 36 (Rr agh))) (Rr agf)))))⟩
def age:LO:=[Op 1 (.box (.t 0)),Mc 2 (.int .i64 0)]
def agd:LO:=[Fa 3 1 1,Ld 4 3,Bc 5 .lss 4 (-1),Mv 6 5,Gf 6 (Fa 7 1 1),Gf 6 (Ld 8 7),Gf 6 (Bc 9 .gtr 8 65535),Po 10 6 9,Mv 11 10,Gf 11 (Fa 12 2 1),Gf 11 (Ld 13 12),Gf 11 (Bc 14 .lss 13 (-1)),Po 15 11 14,Mv 16 15,Gf 16 (Fa 17 2 1),Gf 16 (Ld 18 17),Gf 16 (Bc 19 .gtr 18 65535),Po 20 16 19]
def agc:LO:=[Mc 2 (.int .i64 5)]
def agb:LO:=[Mc 2 (.int .i64 0)]
def f572 : AFunc := ⟨21, 1, false, [.t 2], (Sr age (Sq (Sr agd (Ci 20 (Rr agc))) (Rr agb)))⟩
def aga:LO:=[Mc 2 (.bool false)]
def af9:LO:=[Mc 3 (.int .i64 0)]
def af8:LO:=[Mv 5 3,Mv 6 0,Ln 7 1 6,Bi 8 .lss 5 7]
def af7:LO:=[Mv 11 0,Mv 12 3,Op 13 (.istr (.t 11) (.t 12)),Mv 4 13]
def af6:LO:=[Mv 14 4,Op 15 (.bin .geq (.t 14) (.c (.int .u8 97))),Mv 16 15,Gt 16 (Mv 17 4),Gt 16 (Op 18 (.bin .leq (.t 17) (.c (.int .u8 122)))),Pa 19 16 18,Mv 20 19,Gf 20 (Mv 21 4),Gf 20 (Op 22 (.bin .geq (.t 21) (.c (.int .u8 65)))),Gf 20 (Mv 23 22),Gt 23 (Mv 24 4),Gt 23 (Op 25 (.bin .leq (.t 24) (.c (.int .u8 90)))),Gf 20 (Pa 26 23 25),Po 27 20 26,Mv 28 27,Gf 28 (Mv 29 4),
 Gf 28 (Op 30 (.bin .geq (.t 29) (.c (.int .u8 48)))),Gf 28 (Mv 31 30),Gt 31 (Mv 32 4),Gt 31 (Op 33 (.bin .leq (.t 32) (.c (.int .u8 57)))),Gf 28 (Pa 34 31 33),Po 35 28 34,Mv 36 35,Gf 36 (Mv 37 4),Gf 36 (Op 38 (.bin .eql (.t 37) (.c (.int .u8 45)))),Po 39 36 38,Un 40 .not 39]
def af5:LO:=[Mc 2 (.bool false)]
def af4:LO:=[Mv 9 3,Bc 10 .add 9 1,Mv 3 10]
def BP:ACode:=(Sq (Sr af8 (Cx 8 0)) (Sq (Bk 1 (Sr af7 (Sr af6 (Ci 40 (Rr af5))))) (Rg af4)))
def GB:LO:=[Mv 41 0,Ln 42 1 41,Bc 43 .geq 42 1,Mv 44 43,Gt 44 (Mv 45 0),Gt 44 (Ln 46 1 45),Gt 44 (Bc 47 .leq 46 32),Pa 48 44 47,Mv 2 48]
def f573 : AFunc := ⟨49, 1, false, [.t 2], (Sr aga (Sq (Sr af9 (Bl 0 BP)) (Rr GB)))⟩
def JZ:LI:=[.inLoop BP, .inBlock 0, .code (Rr GB)]
def af3:LO:=[Op 2 (.box (.t 0)),Op 3 (.box (.t 1)),Mc 4 (.int .i64 0)]
def af2:LO:=[Fa 10 0 3,Ld 11 10,Bc 12 .lss 11 1,Mv 13 12,Gf 13 (Fa 14 0 3),Gf 13 (Ld 15 14),Gf 13 (Bc 16 .gtr 15 8),Po 17 13 16]
def af1:LO:=[Mc 4 (.int .i64 15)]
def af0:LO:=[Fa 19 0 3,Ld 20 19,Ct 21 619 [20],Mv 18 21,Ex 22 18 0,Ex 23 18 1,Ex 24 18 2,Mv 5 22,Mv 6 23,Mv 7 24]
def afZ:LO:=[Fa 25 0 3,Ld 26 25,Bc 27 .leq 26 3,Mv 8 27]
def afY:LO:=[Mv 28 8,Un 29 .not 28,Mv 30 29,Gt 30 (Fa 31 1 3),Gt 30 (Ld 32 31),Gt 30 (Op 33 (.bin .neq (.t 32) (.c (.str [])))),Pa 34 30 33,Mv 35 34,Gf 35 (Mv 36 7),Gf 35 (Un 37 .not 36),Gf 35 (Mv 38 37),Gt 38 (Fa 39 2 3),Gt 38 (Ld 40 39),Gt 38 (Bc 41 .neq 40 0),Gf 35 (Pa 42 38 41),Po 43 35 42,Mv 44 43,Gf 44 (Fa 45 0 3),Gf 44 (Ld 46 45),Gf 44 (Bc 47 .neq 46 7),Gf 44 (Mv 48 47),Gt 48 (Fa 49 3 3),
 Gt 48 (Ls 50 2 49),Gt 48 (Op 51 (.build zz8 [] [])),Gt 48 (Op 52 (.eqs [.int, .int] true (.t 50) (.t 51))),Gf 44 (Pa 53 48 52),Po 54 44 53]
def afX:LO:=[Mc 4 (.int .i64 1)]
def afW:LO:=[Mc 9 (.bool true)]
def afV:LO:=[Fa 55 0 3,Ld 56 55]
def afU:LO:=[Bc 58 .eql 56 1,Mv 57 58]
def Rk:LO:=[Ls 60 4 2,Fa 61 1 3,Ld 62 61,Ct 63 620 [60, 62],Mv 59 63,Ex 64 59 0,Ex 65 59 1,Mv 9 65]
def Rj:LO:=[Bc 67 .eql 56 2,Mv 66 67]
def Ri:LO:=[Ls 69 4 2,Fa 70 1 3,Ld 71 70,Ct 72 621 [69, 71],Mv 68 72,Ex 73 68 0,Ex 74 68 1,Mv 9 74]
def Rh:LO:=[Bc 76 .eql 56 3,Mv 75 76]
def Rf:LO:=[Ls 78 4 2,Fa 79 1 3,Ld 80 79,Ct 81 622 [78, 80],Mv 77 81,Ex 82 77 0,Ex 83 77 1,Mv 9 83]
def Re:LO:=[Mv 85 9,Un 86 .not 85,Mv 84 86]
def Rc:LO:=[Mc 4 (.int .i64 6)]
def Rb:LO:=[Mv 88 7,Mv 89 88,Gt 89 (Fa 90 2 3),Gt 89 (Ld 91 90),Gt 89 (Mv 92 5),Gt 89 (Bi 93 .lss 91 92),Gt 89 (Mv 94 93),Gf 94 (Fa 95 2 3),Gf 94 (Ld 96 95),Gf 94 (Mv 97 6),Gf 94 (Bi 98 .gtr 96 97),Gt 89 (Po 99 94 98),Pa 100 89 99,Mv 87 100]
def Ra:LO:=[Mc 4 (.int .i64 5)]
def QZ:LO:=[Fa 102 3 3,Ls 103 2 102,Ct 104 179 [103],Un 105 .not 104,Mv 101 105]
def QY:LO:=[Mc 4 (.int .i64 1)]
def QX:LO:=[Mc 4 (.int .i64 0)]
def f574 : AFunc := ⟨106, 2, false, [.t 4], (Sr af3 (Sq (Sr af2 (Ci 17 (Rr af1))) (Sr af0 (Sr afZ (Sq (Sr afY (Ci 54 (Rr afX))) (Sr afW (Sq (Sr afV (Bk 0 (Sr afU (Cn 57 (Rg Rk) (Sr Rj (Cn 66 (Rg Ri) (Sr Rh (Cn 75 (Rg Rf) Sk)))))))) (Sq (Bk 1 (Sr Re (Cn 84 (Rr Rc) (Sr Rb (Cn 87 (Rr Ra) (Sr QZ (Ci 101 (Rr QY)))))))) (Rr QX)))))))))⟩
def afT:LO:=[Op 1 (.box (.t 0)),Mc 2 (.int .i64 0)]
def afS:LO:=[Mc 3 (.int .i64 4294967295)]
def afR:LO:=[Fa 5 0 1,Ld 6 5,Op 7 (.build zz2 [(0, 1)] [(.t 6)]),Op 4 (.alloc (.agg zz2)),St 5 4 7]
def afQ:LO:=[Fa 8 0 1,Ld 9 8]
def afP:LO:=[Bc 11 .eql 9 1,Mv 10 11]
def afO:LO:=[Bc 12 .eql 9 2,Mv 10 12]
def afN:LO:=[Bc 13 .eql 9 4,Mv 10 13]
def afM:LO:=[Fa 14 1 1,Ld 15 14,Fa 16 1 4,St 1 16 15]
def afL:LO:=[Bc 18 .eql 9 3,Mv 17 18]
def afK:LO:=[Fa 19 1 1,Ld 20 19,Fa 21 1 4,St 1 21 20]
def QW:LO:=[Mc 3 (.int .i64 16777216)]
def QV:LO:=[Bc 23 .eql 9 5,Mv 22 23]
def QU:LO:=[Fa 24 4 1,Ld 25 24,Fa 26 4 4,St 1 26 25]
def QT:LO:=[Bc 28 .eql 9 6,Mv 27 28]
def QR:LO:=[Bc 29 .eql 9 7,Mv 27 29]
def QQ:LO:=[Fa 30 3 1,Ld 31 30,Fa 32 3 4,St 1 32 31]
def QP:LO:=[Bc 34 .eql 9 8,Mv 33 34]
def QN:LO:=[Fa 35 1 1,Ld 36 35,Fa 37 1 4,St 1 37 36]
def QM:LO:=[Fa 38 2 1,Ld 39 38,Fa 40 2 4,St 1 40 39]
def QL:LO:=[Mc 3 (.int .i64 16)]
def QK:LO:=[Mc 2 (.int .i64 15)]
def QJ:LO:=[Ls 41 5 1,Ls 42 5 4,Op 43 (.eqs [.int, .int, .int, .int, .int] true (.t 41) (.t 42))]
def QI:LO:=[Mc 2 (.int .i64 1)]
def QH:LO:=[Fa 44 1 1,Ld 45 44,Bc 46 .lss 45 0,Mv 47 46,Gf 47 (Fa 48 1 1),Gf 47 (Ld 49 48),Gf 47 (Mv 50 3),Gf 47 (Bi 51 .gtr 49 50),Po 52 47 51]
def QG:LO:=[Mc 2 (.int .i64 5)]
def QF:LO:=[Fa 53 0 1,Ld 54 53,Bc 55 .eql 54 5,Mv 56 55,Gt 56 (Fa 57 4 1),Gt 56 (Ld 58 57),Gt 56 (Op 59 (.bin .eql (.t 58) (.c (.int .u32 0)))),Pa 60 56 59,Mv 61 60,Gf 61 (Fa 62 0 1),Gf 61 (Ld 63 62),Gf 61 (Bc 64 .eql 63 8),Gf 61 (Mv 65 64),Gt 65 (Fa 66 1 1),Gt 65 (Ld 67 66),Gt 65 (Bc 68 .lss 67 1),Gt 65 (Mv 69 68),Gf 69 (Fa 70 2 1),Gf 69 (Ld 71 70),Gf 69 (Bc 72 .lss 71 1),Gt 65 (Po 73 69 72),
 Gt 65 (Mv 74 73),Gf 74 (Fa 75 2 1),Gf 74 (Ld 76 75),Gf 74 (Bc 77 .gtr 76 4294967295),Gt 65 (Po 78 74 77),Gf 61 (Pa 79 65 78),Po 80 61 79]
def QE:LO:=[Mc 2 (.int .i64 5)]
def QD:LO:=[Mc 2 (.int .i64 0)]
def f575 : AFunc := ⟨81, 1, false, [.t 2], (Sr afT (Sr afS (Sr afR (Sq (Sr afQ (Bk 0 (Sq (Sr afP (Cn 10 Sk (Sr afO (Cn 10 Sk (Rg afN))))) (Cn 10 (Rg afM) (Sr afL (Cn 17 (Sr afK (Rg QW)) (Sr QV (Cn 22 (Rg QU) (Sq (Sr QT (Cn 27 Sk (Rg QR))) (Cn 27 (Rg QQ) (Sr QP (Cn 33 (Sr QN (Sr QM (Rg QL))) (Rr QK))))))))))))) (Sq (Sr QJ (Ci 43 (Rr QI))) (Sq (Sr QH (Ci 52 (Rr QG))) (Sq (Sr QF (Ci 80 (Rr QE))) (Rr QD))))))))⟩
def amC:LO:=[Op 1 (.box (.t 0)),Mc 2 (.str [])]
def amB:LO:=[Ls 3 2 1,Ct 4 178 [3],Un 5 .not 4]
def amA:LO:=[Mc 2 (.str [])]
def amz:LO:=[Fa 6 0 1,Ld 7 6,Af [1] (Ct 8 227 [7]),Op 9 (.bin .add (.t 8) (.c (.str [47]))),Fa 10 1 1,Ld 11 10,Af [5, 2, 1] (Ct 12 246 [11]),Bi 13 .add 9 12,Mv 2 13]
def f229 : AFunc := ⟨14, 1, false, [.t 2], (Sr amC (Sq (Sr amB (Ci 5 (Rr amA))) (Sq (Rd amz) Rt)))⟩
def alr:LO:=[Mc 2 (.str [])]
def alq:LO:=[Mv 3 0,Ct 4 246 [3],Mv 2 4]
def f337 : AFunc := ⟨5, 1, false, [.t 2], (Sr alr (Rr alq))⟩
def ahr:LO:=[Op 1 (.box (.t 0)),Mc 2 (.str [])]
def ahq:LO:=[Fa 4 2 1,Ld 5 4,Ct 6 337 [5],Mv 3 6]
def ahp:LO:=[Fa 7 0 1,Ld 8 7]
def aho:LO:=[Bc 10 .eql 8 1,Mv 9 10]
def ahn:LO:=[Fa 11 1 1,Ld 12 11,Op 13 (.bin .add (.c (.str [112, 114, 101, 102, 105, 120, 45, 108, 105, 115, 116, 32])) (.t 12)),Mv 2 13]
def ahm:LO:=[Bc 15 .eql 8 2,Mv 14 15]
def ahl:LO:=[Fa 16 1 1,Ld 17 16,Op 18 (.bin .add (.c (.str [112, 97, 116, 104, 45, 108, 105, 115, 116, 32])) (.t 17)),Mv 2 18]
def ahk:LO:=[Bc 20 .eql 8 3,Mv 19 20]
def ahj:LO:=[Fa 21 1 1,Ld 22 21,Op 23 (.bin .add (.c (.str [99, 111, 109, 109, 117, 110, 105, 116, 121, 45, 108, 105, 115, 116, 32])) (.t 22)),Mv 2 23]
def ahi:LO:=[Bc 25 .eql 8 4,Mv 24 25]
def Su:LO:=[Mv 26 3,Op 27 (.bin .add (.c (.str [112, 114, 111, 116, 111, 99, 111, 108, 32])) (.t 26)),Mv 2 27]
def Ss:LO:=[Bc 29 .eql 8 5,Mv 28 29]
def So:LO:=[Mv 30 3,Op 31 (.bin .add (.c (.str [116, 97, 103, 32])) (.t 30)),Mv 2 31]
def Sn:LO:=[Bc 33 .eql 8 6,Mv 32 33]
def Sm:LO:=[Mv 34 3,Op 35 (.bin .add (.c (.str [109, 101, 116, 114, 105, 99, 32])) (.t 34)),Mv 2 35]
def Sj:LO:=[Bc 37 .eql 8 7,Mv 36 37]
def Si:LO:=[Fa 38 3 1,Ls 39 2 38,Ct 40 229 [39],Op 41 (.bin .add (.c (.str [110, 101, 120, 116, 45, 104, 111, 112, 32])) (.t 40)),Mv 2 41]
def Sg:LO:=[Mv 42 3,Op 43 (.bin .add (.c (.str [112, 97, 116, 104, 45, 108, 101, 110, 103, 116, 104, 32])) (.t 42)),Mv 2 43]
def f524 : AFunc := ⟨44, 1, false, [.t 2], (Sr ahr (Sr ahq (Sq (Sr ahp (Bk 0 (Sr aho (Cn 9 (Rr ahn) (Sr ahm (Cn 14 (Rr ahl) (Sr ahk (Cn 19 (Rr ahj) (Sr ahi (Cn 24 (Rr Su) (Sr Ss (Cn 28 (Rr So) (Sr Sn (Cn 32 (Rr Sm) (Sr Sj (Ci 36 (Rr Si))))))))))))))))) (Rr Sg))))⟩
def ahh:LO:=[Op 1 (.box (.t 0)),Mc 2 (.str [])]
def ahg:LO:=[Fa 4 1 1,Ld 5 4,Ct 6 337 [5],Mv 3 6]
def ahf:LO:=[Fa 7 0 1,Ld 8 7]
def ahe:LO:=[Bc 10 .eql 8 1,Mv 9 10]
def ahd:LO:=[Mv 11 3,Op 12 (.bin .add (.c (.str [112, 114, 101, 102, 32])) (.t 11)),Mv 2 12]
def ahc:LO:=[Bc 14 .eql 8 2,Mv 13 14]
def ahb:LO:=[Mv 15 3,Op 16 (.bin .add (.c (.str [109, 101, 100, 32])) (.t 15)),Mv 2 16]
def aha:LO:=[Bc 18 .eql 8 3,Mv 17 18]
def ag9:LO:=[Mv 19 3,Op 20 (.bin .add (.c (.str [109, 101, 116, 114, 105, 99, 32])) (.t 19)),Mv 2 20]
def ag8:LO:=[Bc 22 .eql 8 4,Mv 21 22]
def Se:LO:=[Mv 23 3,Op 24 (.bin .add (.c (.str [116, 97, 103, 32])) (.t 23)),Mv 2 24]
def Sd:LO:=[Bc 26 .eql 8 5,Mv 25 26]
def Sc:LO:=[Fa 27 4 1,Ld 28 27,Ct 29 227 [28],Op 30 (.bin .add (.c (.str [110, 101, 120, 116, 45, 104, 111, 112, 32])) (.t 29)),Mv 2 30]
def Sb:LO:=[Bc 32 .eql 8 6,Mv 31 32]
def Sa:LO:=[Fa 33 3 1,Ld 34 33,Ct 35 583 [34],Op 36 (.bin .add (.c (.str [97, 100, 100, 32])) (.t 35)),Mv 2 36]
def R9:LO:=[Bc 38 .eql 8 7,Mv 37 38]
def R8:LO:=[Fa 39 3 1,Ld 40 39,Ct 41 583 [40],Op 42 (.bin .add (.c (.str [100, 101, 108, 101, 116, 101, 32])) (.t 41)),Mv 2 42]
def R7:LO:=[Fa 43 2 1,Ld 44 43,Ct 45 337 [44],Op 46 (.bin .add (.c (.str [112, 114, 101, 112, 101, 110, 100, 32])) (.t 45)),Op 47 (.bin .add (.t 46) (.c (.str [32]))),Mv 48 3,Bi 49 .add 47 48,Mv 2 49]
def f525 : AFunc := ⟨50, 1, false, [.t 2], (Sr ahh (Sr ahg (Sq (Sr ahf (Bk 0 (Sr ahe (Cn 9 (Rr ahd) (Sr ahc (Cn 13 (Rr ahb) (Sr aha (Cn 17 (Rr ag9) (Sr ag8 (Cn 21 (Rr Se) (Sr Sd (Cn 25 (Rr Sc) (Sr Sb (Cn 31 (Rr Sa) (Sr R9 (Ci 37 (Rr R8))))))))))))))))) (Rr R7))))⟩
def ag7:LO:=[Mc 2 (.str [])]
def ag6:LO:=[Mv 3 0]
def ag5:LO:=[Bc 5 .eql 3 1,Mv 4 5]
def ag4:LO:=[Mc 2 (.str [97, 99, 99, 101, 112, 116])]
def ag3:LO:=[Bc 7 .eql 3 2,Mv 6 7]
def ag2:LO:=[Mc 2 (.str [114, 101, 106, 101, 99, 116])]
def ag1:LO:=[Mc 2 (.str [110, 101, 120, 116])]
def f526 : AFunc := ⟨8, 1, false, [.t 2], (Sr ag7 (Sq (Sr ag6 (Bk 0 (Sr ag5 (Cn 4 (Rr ag4) (Sr ag3 (Ci 6 (Rr ag2))))))) (Rr ag1)))⟩
def alp:LO:=[Mc 2 (.str [])]
def alo:LO:=[Mv 3 0,Bc 4 .lss 3 0]
def aln:LO:=[Mv 5 0,Bc 6 .add 5 1,Un 7 .neg 6,Cv 8 .u64 7,Op 9 (.bin .add (.t 8) (.c (.int .u64 1))),Ct 10 344 [9],Op 11 (.bin .add (.c (.str [45])) (.t 10)),Mv 2 11]
def alm:LO:=[Mv 12 0,Cv 13 .u64 12,Ct 14 344 [13],Mv 2 14]
def f338 : AFunc := ⟨15, 1, false, [.t 2], (Sr alp (Sq (Sr alo (Ci 4 (Rr aln))) (Rr alm)))⟩
def ag0:LO:=[Mv 17 0,Mv 18 1,Ct 19 585 [17, 18]]
def agZ:LO:=[Mv 20 0,Nc 21 20,Fa 22 8 21,Ld 23 22]
def agY:LO:=[Bc 26 .eql 23 1,Mv 25 26]
def agX:LO:=[Mv 27 0,Nc 28 27,Fa 29 0 28,Fa 30 0 29,Ld 31 30,Mv 32 0,Nc 33 32,Fa 34 0 33,Fa 35 0 34,Ld 36 35,Af [9] (Ln 37 0 36),Bc 38 .sub 37 1,Af [4, 10, 9] (Ia 39 2 31 38),Mv 4 39]
def agW:LO:=[Mv 41 1,Ct 42 334 [41],Mv 40 42,Ex 43 40 0,Ex 44 40 1,Op 5 (.alloc (.agg zz6)),St 5 5 43,Mv 6 44]
def agV:LO:=[Mv 45 6,Bc 46 .eql 45 0,Ct 47 586 [46]]
def agU:LO:=[Mv 48 4,Nc 49 48,Fa 50 1 49,Ld 51 50,Ln 52 0 51,Ct 53 587 [52]]
def agT:LO:=[Mv 54 4,Mv 55 4,Nc 56 55,Fa 57 1 56,Ld 58 57,Ls 59 5 5,Af [5] (Op 60 (.bsl 5 zz6 1 [0] [(.t 59)])),Af [4, 6, 5] (Ap 61 5 40 58 60),Nc 62 54,Fa 63 1 62,Af [7, 4, 6, 5] (St 1 63 61)]
def agS:LO:=[Bc 65 .eql 23 2,Mv 64 65]
def agR:LO:=[Mv 66 0,Nc 67 66,Fa 68 0 67,Fa 69 1 68,Ld 70 69,Mv 71 0,Nc 72 71,Fa 73 0 72,Fa 74 1 73,Ld 75 74,Af [9] (Ln 76 0 75),Bc 77 .sub 76 1,Af [4, 10, 9] (Ia 78 2 70 77),Mv 7 78]
def R6:LO:=[Mv 80 1,Ct 81 588 [80],Mv 79 81,Ex 82 79 0,Ex 83 79 1,Mv 8 82,Mv 9 83]
def R5:LO:=[Mv 85 9,Ct 86 516 [85],Mv 84 86,Ex 87 84 0,Ex 88 84 1,Op 10 (.alloc (.agg zz0)),St 4 10 87,Mv 11 88]
def R4:LO:=[Mv 89 11,Bc 90 .eql 89 0,Ct 91 586 [90]]
def R3:LO:=[Mv 92 7,Nc 93 92,Fa 94 1 93,Ld 95 94,Ln 96 0 95,Ct 97 587 [96]]
def R0:LO:=[Mv 98 7,Mv 99 7,Nc 100 99,Fa 101 1 100,Ld 102 101,Mv 103 8,Mv 104 9,Op 105 (.build Dx [(0, 1), (1, 1)] [(.t 103), (.t 104)]),Op 106 (.bsl 2 Dx 1 [0] [(.t 105)]),Ap 107 2 24 102 106,Nc 108 98,Fa 109 1 108,St 1 109 107]
def RZ:LO:=[Bc 111 .eql 23 3,Mv 110 111]
def RY:LO:=[Mv 112 0,Nc 113 112,Fa 114 0 113,Fa 115 2 114,Ld 116 115,Mv 117 0,Nc 118 117,Fa 119 0 118,Fa 120 2 119,Ld 121 120,Af [9] (Ln 122 0 121),Bc 123 .sub 122 1,Af [4, 10, 9] (Ia 124 2 116 123),Mv 12 124]
def RU:LO:=[Mv 126 1,Ct 127 588 [126],Mv 125 127,Ex 128 125 0,Ex 129 125 1,Mv 13 128,Mv 14 129]
def RT:LO:=[Mc 15 (.int .i64 0)]
def RQ:LO:=[Mv 130 15,Mv 131 14,Ln 132 1 131,Bi 133 .lss 130 132,Mv 134 133,Gt 134 (Mv 135 14),Gt 134 (Mv 136 15),Gt 134 (Op 137 (.istr (.t 135) (.t 136))),Gt 134 (Op 138 (.bin .neq (.t 137) (.c (.int .u8 58)))),Pa 139 134 138]
def RN:LO:=[Mv 140 15,Bc 141 .add 140 1,Mv 15 141]
def wt:ACode:=(Sq (Sr RQ (Cx 139 1)) (Bk 2 (Rg RN)))
def BX:LO:=[Mv 142 15,Mv 143 14,Ln 144 1 143,Bi 145 .lss 142 144,Ct 146 586 [145]]
def BW:LO:=[Mv 147 13,Mv 148 14,Mv 149 15,Op 150 (.slstr (.t 148) none (some (.t 149))),Ct 151 589 [150],Mv 152 14,Mv 153 15,Bc 154 .add 153 1,Op 155 (.slstr (.t 152) (some (.t 154)) none),Af [4] (Ct 156 589 [155]),Op 157 (.build zz9 [(0, 1), (1, 1), (2, 1)] [(.t 147), (.t 151), (.t 156)]),Op 16 (.alloc (.agg zz9)),Af [11, 9, 4] (St 3 16 157)]
def BV:LO:=[Mv 158 12,Nc 159 158,Fa 160 1 159,Ld 161 160,Ln 162 0 161,Ct 163 587 [162]]
def BU:LO:=[Ls 164 3 16,Ct 165 520 [164],Ct 166 590 [165]]
def BT:LO:=[Mv 167 12,Mv 168 12,Nc 169 168,Fa 170 1 169,Ld 171 170,Ls 172 3 16,Af [5] (Op 173 (.bsl 3 zz9 1 [0] [(.t 172)])),Af [4, 6, 5] (Ap 174 3 24 171 173),Nc 175 167,Fa 176 1 175,Af [7, 4, 6, 5] (St 1 176 174)]
def RM:LO:=[Ca 24 586 [(.c (.bool false))]]
def f541 : AFunc := ⟨177, 2, false, [], (Sq (Sr ag0 (Cn 19 Rt Sk)) (Sr agZ (Bk 0 (Sr agY (Cn 25 (Sq (Rd agX) (Sr agW (Sr agV (Sr agU (Rd agT))))) (Sr agS (Cn 64 (Sq (Rd agR) (Sr R6 (Sr R5 (Sr R4 (Sr R3 (Rg R0)))))) (Sr RZ (Cn 110 (Sq (Rd RY) (Sr RU (Sr RT (Sq (Bl 1 wt) (Sr BX (Sq (Rd BW) (Sr BV (Sr BU (Rd BT))))))))) (Rg RM))))))))))⟩
def agQ:LO:=[Mv 10 0,Ct 11 591 [10],Mv 4 11]
def agP:LO:=[Mv 12 4,Nc 13 12,Fa 14 1 13,Ld 15 14,Mv 16 4,Nc 17 16,Fa 18 1 17,Ld 19 18,Af [7] (Ln 20 0 19),Bc 21 .sub 20 1,Af [3, 8, 7] (Ia 22 4 15 21),Mv 5 22]
def agO:LO:=[Mv 24 1,Ct 25 592 [24],Mv 23 25,Ex 26 23 0,Ex 27 23 1,Mv 6 26,Mv 7 27]
def agN:LO:=[Mv 53 1,Op 54 (.bin .eql (.t 53) (.c (.str [97, 99, 99, 101, 112, 116]))),Mv 52 54]
def agM:LO:=[Mv 55 5,Nc 56 55,Fa 57 3 56,⟨none, .store 1 (.t 57) (.c (.int .i64 1)), none, []⟩]
def agL:LO:=[Mv 59 1,Op 60 (.bin .eql (.t 59) (.c (.str [114, 101, 106, 101, 99, 116]))),Mv 58 60]
def agK:LO:=[Mv 61 5,Nc 62 61,Fa 63 3 62,⟨none, .store 1 (.t 63) (.c (.int .i64 2)), none, []⟩]
def agJ:LO:=[Mv 65 1,Op 66 (.bin .eql (.t 65) (.c (.str [110, 101, 120, 116]))),Mv 64 66]
def agI:LO:=[Mv 67 5,Nc 68 67,Fa 69 3 68,⟨none, .store 1 (.t 69) (.c (.int .i64 3)), none, []⟩]
def agH:LO:=[Mv 71 6,Op 72 (.bin .eql (.t 71) (.c (.str [109, 97, 116, 99, 104]))),Mv 70 72]
def RL:LO:=[Mv 73 5,Nc 74 73,Fa 75 2 74,Ld 76 75,Ln 77 0 76,Bc 78 .eql 77 0,Ct 79 586 [78]]
def RK:LO:=[Mv 80 7,Ct 81 593 [80],Op 8 (.alloc (.agg zz7)),St 6 8 81]
def RJ:LO:=[Mv 82 5,Nc 83 82,Fa 84 1 83,Ld 85 84,Ln 86 0 85,Ct 87 587 [86]]
def RI:LO:=[Mv 88 0,Nc 89 88,Fa 90 4 89,Ls 91 4 90,Ls 92 6 8,Af [3, 4] (Ct 93 594 [91, 92]),Af [5, 3, 4] (Ct 94 590 [93])]
def RH:LO:=[Mv 95 5,Mv 96 5,Nc 97 96,Fa 98 1 97,Ld 99 98,Ls 100 6 8,Af [5] (Op 101 (.bsl 6 zz7 1 [0] [(.t 100)])),Af [4, 6, 5] (Ap 102 6 56 99 101),Nc 103 95,Fa 104 1 103,Af [7, 4, 6, 5] (St 1 104 102)]
def RG:LO:=[Mv 28 6,Op 29 (.bin .eql (.t 28) (.c (.str [115, 101, 116]))),Ct 30 586 [29]]
def RF:LO:=[Mv 31 7,Ct 32 595 [31],Op 9 (.alloc (.agg zz2)),St 5 9 32]
def RE:LO:=[Mv 33 5,Nc 34 33,Fa 35 2 34,Ld 36 35,Ln 37 0 36,Ct 38 587 [37]]
def RC:LO:=[Ls 39 5 9,Ct 40 596 [39],Ct 41 590 [40]]
def RB:LO:=[Mv 42 5,Mv 43 5,Nc 44 43,Fa 45 2 44,Ld 46 45,Ls 47 5 9,Af [5] (Op 48 (.bsl 5 zz2 1 [0] [(.t 47)])),Af [4, 6, 5] (Ap 49 5 32 46 48),Nc 50 42,Fa 51 2 50,Af [7, 4, 6, 5] (St 1 51 49)]
def RA:LO:=[Mv 105 0,Mv 106 5,Nc 107 106,Fa 108 3 107,Ld 109 108,Bc 110 .eql 109 0,Nc 111 105,Fa 112 10 111,St 1 112 110]
def f542 : AFunc := ⟨113, 2, false, [], (Sr agQ (Sq (Rd agP) (Sr agO (Sq (Bk 0 (Sr agN (Cn 52 (Rg agM) (Sr agL (Cn 58 (Rg agK) (Sr agJ (Cn 64 (Rg agI) (Sr agH (Cn 70 (Sr RL (Sr RK (Sr RJ (Sq (Rd RI) (Rd RH))))) (Sr RG (Sr RF (Sr RE (Sr RC (Rd RB)))))))))))))) (Rg RA)))))⟩
def agF:LO:=[Mv 9 1,Ct 10 592 [9],Mv 8 10,Ex 11 8 0,Ex 12 8 1,Mv 4 11,Mv 5 12]
def agE:LO:=[Mv 13 0,Ct 14 591 [13],Mv 6 14]
def agD:LO:=[Mv 53 1,Op 54 (.bin .eql (.t 53) (.c (.str [100, 101, 102, 97, 117, 108, 116, 32, 97, 99, 99, 101, 112, 116]))),Mv 52 54]
def agC:LO:=[Mv 55 6,Nc 56 55,Fa 57 2 56,⟨none, .store 1 (.t 57) (.c (.int .i64 1)), none, []⟩]
def agB:LO:=[Mv 58 0,Nc 59 58,Fa 60 9 59,⟨none, .store 1 (.t 60) (.c (.bool false)), none, []⟩]
def agA:LO:=[Mv 62 1,Op 63 (.bin .eql (.t 62) (.c (.str [100, 101, 102, 97, 117, 108, 116, 32, 114, 101, 106, 101, 99, 116]))),Mv 61 63]
def agz:LO:=[Mv 64 6,Nc 65 64,Fa 66 2 65,⟨none, .store 1 (.t 66) (.c (.int .i64 2)), none, []⟩]
def agy:LO:=[Mv 67 0,Nc 68 67,Fa 69 9 68,⟨none, .store 1 (.t 69) (.c (.bool false)), none, []⟩]
def agx:LO:=[Mv 15 4,Op 16 (.bin .eql (.t 15) (.c (.str [116, 101, 114, 109]))),Ct 17 586 [16]]
def agw:LO:=[Mv 18 5,Ct 19 597 [18],Op 20 (.build zz5 [(0, 1), (3, 1)] [(.t 19), (.c (.int .i64 1))]),Op 7 (.alloc (.agg zz5)),St 4 7 20]
def Ry:LO:=[Mv 21 6,Nc 22 21,Fa 23 1 22,Ld 24 23,Ln 25 0 24,Ct 26 587 [25]]
def Ru:LO:=[Mv 27 0,Nc 28 27,Fa 29 4 28,Ls 30 4 29,Mv 31 6,Nc 32 31,Fa 33 1 32,Ld 34 33,Ls 35 4 7,Af [3, 7, 8] (Ct 36 582 [30, 34, 35]),Af [9, 3, 7, 8] (Ct 37 590 [36])]
def Rq:LO:=[Fa 38 3 7,⟨none, .store 1 (.t 38) (.c (.int .i64 0)), none, []⟩]
def Rn:LO:=[Mv 39 6,Mv 40 6,Nc 41 40,Fa 42 1 41,Ld 43 42,Ls 44 4 7,Af [5] (Op 45 (.bsl 4 zz5 1 [0] [(.t 44)])),Af [4, 6, 5] (Ap 46 4 72 43 45),Nc 47 39,Fa 48 1 47,Af [7, 4, 6, 5] (St 1 48 46)]
def Rm:LO:=[Mv 49 0,Nc 50 49,Fa 51 10 50,⟨none, .store 1 (.t 51) (.c (.bool true)), none, []⟩]
def f543 : AFunc := ⟨70, 2, false, [], (Sr agF (Sr agE (Bk 0 (Sr agD (Cn 52 (Sr agC (Rg agB)) (Sr agA (Cn 61 (Sr agz (Rg agy)) (Sr agx (Sr agw (Sr Ry (Sq (Rd Ru) (Sr Rq (Sq (Rd Rn) (Rg Rm))))))))))))))⟩
def ac8:LO:=[Mc 2 (.bool false)]
def ac7:LO:=[Mv 5 0,Ln 6 1 5,Mc 7 (.int .i64 0)]
def ac6:LO:=[Bi 8 .lss 7 6]
def ac5:LO:=[Mv 9 7,Mv 3 9]
def ac4:LO:=[Mv 10 0,Mv 11 3,Op 12 (.istr (.t 10) (.t 11)),Mv 4 12]
def ac3:LO:=[Mv 13 4,Op 14 (.bin .geq (.t 13) (.c (.int .u8 97))),Mv 15 14,Gt 15 (Mv 16 4),Gt 15 (Op 17 (.bin .leq (.t 16) (.c (.int .u8 122)))),Pa 18 15 17,Mv 19 18,Gf 19 (Mv 20 4),Gf 19 (Op 21 (.bin .geq (.t 20) (.c (.int .u8 65)))),Gf 19 (Mv 22 21),Gt 22 (Mv 23 4),Gt 22 (Op 24 (.bin .leq (.t 23) (.c (.int .u8 90)))),Gf 19 (Pa 25 22 24),Po 26 19 25,Mv 27 26,Gf 27 (Mv 28 4),
 Gf 27 (Op 29 (.bin .geq (.t 28) (.c (.int .u8 48)))),Gf 27 (Mv 30 29),Gt 30 (Mv 31 4),Gt 30 (Op 32 (.bin .leq (.t 31) (.c (.int .u8 57)))),Gf 27 (Pa 33 30 32),Po 34 27 33,Mv 35 34,Gf 35 (Mv 36 4),Gf 35 (Op 37 (.bin .eql (.t 36) (.c (.int .u8 45)))),Po 38 35 37,Un 39 .not 38]
def ac2:LO:=[Mc 2 (.bool false)]
def ac1:LO:=[Bc 40 .add 7 1,Mv 7 40]
def AU:ACode:=(Sr ac6 (Sq (Cx 8 0) (Sq (Bk 1 (Sr ac5 (Sr ac4 (Sr ac3 (Ci 39 (Rr ac2)))))) (Rg ac1))))
def Gm:LO:=[Mv 41 0,Ln 42 1 41,Bc 43 .geq 42 1,Mv 44 43,Gt 44 (Mv 45 0),Gt 44 (Ln 46 1 45),Gt 44 (Bc 47 .leq 46 32),Pa 48 44 47,Mv 2 48]
def f623 : AFunc := ⟨49, 1, false, [.t 2], (Sr ac8 (Sq (Sr ac7 (Bl 0 AU)) (Rr Gm)))⟩
def JS:LI:=[.inLoop AU, .inBlock 0, .code (Rr Gm)]
def am2:LO:=[Mc 4 (.int .u32 0)]
def am1:LO:=[Mv 5 0,Mv 6 1,Ct 7 183 [6],Bi 8 .and 5 7,Mv 4 8]
def f181 : AFunc := ⟨9, 2, false, [.t 4], (Sr am2 (Rr am1))⟩
def ac0:LO:=[Op 4 (.alloc (.agg zz0))]
def acZ:LO:=[Mv 6 0,Mv 7 1,Ct 8 646 [6, 7],Op 9 (.bsl 4 zz0 1 [0] [(.t 8)]),Mv 5 9]
def acY:LO:=[Mv 10 0,Ct 11 625 [10],Op 12 (.bin .eql (.t 11) (.c (.int .u8 32)))]
def acX:LO:=[Mv 13 0,Nc 14 13,Fa 15 1 14,Ld 16 15,Bc 17 .add 16 1,Nc 18 13,Fa 19 1 18,St 1 19 17]
def acW:LO:=[Mv 20 5,Mv 21 0,Mv 22 1,Ct 23 646 [21, 22],Op 24 (.bsl 4 zz0 1 [0] [(.t 23)]),Ap 25 4 48 20 24,Mv 5 25]
def AQ:ACode:=(Sq (Sr acY (Cx 12 0)) (Bk 1 (Sr acX (Rg acW))))
def Gj:LO:=[Mv 26 5,Ln 27 0 26,Bc 28 .eql 27 1]
def Gh:LO:=[Mv 29 5,Op 30 (.iadr 4 (.t 29) (.c (.int .i64 0))),Ls 31 4 30,St 4 4 31]
def Gg:LO:=[Mv 32 5,Op 33 (.build zz0 [(0, 1), (3, 1)] [(.c (.int .i64 3)), (.t 32)]),St 4 4 33]
def f624 : AFunc := ⟨34, 2, false, [.cell 4 (some 4)], (Sr ac0 (Sr acZ (Sq (Bl 0 AQ) (Sq (Sr Gj (Ci 28 (Rr Gh))) (Rr Gg)))))⟩
def JQ:LI:=[.inLoop AQ, .inBlock 0, .code (Sq (Sr Gj (Ci 28 (Rr Gh))) (Rr Gg))]
def acV:LO:=[Mc 2 (.int .u8 0)]
def acU:LO:=[Mv 3 0,Nc 4 3,Fa 5 1 4,Ld 6 5,Mv 7 0,Nc 8 7,Fa 9 0 8,Ld 10 9,Af [7] (Ln 11 1 10),Bi 12 .lss 6 11]
def acT:LO:=[Mv 13 0,Nc 14 13,Fa 15 0 14,Ld 16 15,Mv 17 0,Nc 18 17,Fa 19 1 18,Ld 20 19,Op 21 (.istr (.t 16) (.t 20)),Mv 2 21]
def acS:LO:=[Mc 2 (.int .u8 0)]
def f625 : AFunc := ⟨22, 1, false, [.t 2], (Sr acV (Sq (Sq (Rd acU) (Cn 12 (Sq (Rd acT) Rt) Sk)) (Rr acS)))⟩
def acR:LO:=[Op 1 (.box (.t 0)),Mc 2 (.int .i64 0)]
def acQ:LO:=[Op 3 (.alloc (.int .i64 0)),⟨none, .store 1 (.t 3) (.c (.int .i64 0)), none, []⟩]
def acP:LO:=[Ls 4 4 1,Ca 5 647 [(.t 4), (.c (.int .i64 1)), (.t 3)],Mv 2 5]
def f626 : AFunc := ⟨6, 1, false, [.t 2], (Sr acR (Sr acQ (Rr acP)))⟩
def acO:LO:=[Op 1 (.box (.t 0)),Mc 2 (.str [])]
def acN:LO:=[Mc 3 (.str [32])]
def acM:LO:=[Fa 7 0 1,Ld 8 7]
def acL:LO:=[Bc 10 .eql 8 0,Mv 9 10]
def acK:LO:=[Mc 2 (.str [40, 41])]
def acJ:LO:=[Bc 12 .eql 8 2,Mv 11 12]
def acI:LO:=[Mc 2 (.str [46])]
def acH:LO:=[Bc 14 .eql 8 1,Mv 13 14]
def acG:LO:=[Fa 15 1 1,Ld 16 15,Fa 17 2 1,Ld 18 17,Bi 19 .eql 16 18]
def acF:LO:=[Fa 20 1 1,Ld 21 20,Ct 22 337 [21],Mv 2 22]
def NT:LO:=[Fa 23 1 1,Ld 24 23,Af [1] (Ct 25 337 [24]),Op 26 (.bin .add (.c (.str [91])) (.t 25)),Op 27 (.bin .add (.t 26) (.c (.str [45]))),Fa 28 2 1,Ld 29 28,Af [6, 2, 1] (Ct 30 337 [29]),Bi 31 .add 27 30,Op 32 (.bin .add (.t 31) (.c (.str [93]))),Mv 2 32]
def NS:LO:=[Bc 34 .eql 8 5,Mv 33 34]
def NQ:LO:=[Fa 35 0 1,Ld 36 35,Fa 37 3 1,Ld 38 37,Af [3] (Op 39 (.iadr 4 (.t 38) (.c (.int .i64 0)))),Af [4, 3] (Ls 40 4 39),Af [1, 5, 4, 3] (Ct 41 648 [36, 40]),Op 42 (.bin .add (.t 41) (.c (.str [42]))),Mv 2 42]
def NN:LO:=[Bc 44 .eql 8 6,Mv 43 44]
def NL:LO:=[Fa 45 0 1,Ld 46 45,Fa 47 3 1,Ld 48 47,Af [3] (Op 49 (.iadr 4 (.t 48) (.c (.int .i64 0)))),Af [4, 3] (Ls 50 4 49),Af [1, 5, 4, 3] (Ct 51 648 [46, 50]),Op 52 (.bin .add (.t 51) (.c (.str [43]))),Mv 2 52]
def NJ:LO:=[Bc 54 .eql 8 7,Mv 53 54]
def NI:LO:=[Fa 55 0 1,Ld 56 55,Fa 57 3 1,Ld 58 57,Af [3] (Op 59 (.iadr 4 (.t 58) (.c (.int .i64 0)))),Af [4, 3] (Ls 60 4 59),Af [1, 5, 4, 3] (Ct 61 648 [56, 60]),Op 62 (.bin .add (.t 61) (.c (.str [63]))),Mv 2 62]
def NH:LO:=[Bc 64 .eql 8 4,Mv 63 64]
def NG:LO:=[Fa 65 3 1,Ld 66 65,Ln 67 0 66,Bc 68 .eql 67 0]
def NF:LO:=[Mc 2 (.str [33])]
def ND:LO:=[Mc 3 (.str [124])]
def NB:LO:=[Mc 4 (.str [])]
def NA:LO:=[Fa 69 3 1,Ld 70 69,Ln 71 0 70,Mc 72 (.int .i64 0)]
def Ny:LO:=[Bi 73 .lss 72 71]
def Nx:LO:=[Mv 74 72,Ia 75 4 70 72,Ls 76 4 75,Op 6 (.alloc (.agg zz0)),Mv 5 74,St 4 6 76]
def Nw:LO:=[Mv 77 5,Bc 78 .gtr 77 0]
def Nv:LO:=[Mv 79 4,Mv 80 3,Bi 81 .add 79 80,Mv 4 81]
def Nu:LO:=[Mv 82 4,Fa 83 0 1,Ld 84 83,Ls 85 4 6,Ct 86 648 [84, 85],Bi 87 .add 82 86,Mv 4 87]
def Nt:LO:=[Bc 88 .add 72 1,Mv 72 88]
def wn:ACode:=(Sr Ny (Sq (Cx 73 1) (Sq (Bk 2 (Sr Nx (Sq (Sr Nw (Cn 78 (Rg Nv) Sk)) (Rg Nu)))) (Rg Nt))))
def AP:LO:=[Mv 89 4,Mv 2 89]
def f627 : AFunc := ⟨90, 1, false, [.t 2], (Sr acO (Sr acN (Sq (Sr acM (Bk 0 (Sr acL (Cn 9 (Rr acK) (Sr acJ (Cn 11 (Rr acI) (Sr acH (Cn 13 (Sq (Sr acG (Ci 19 (Rr acF))) (Sq (Rd NT) Rt)) (Sr NS (Cn 33 (Sq (Rd NQ) Rt) (Sr NN (Cn 43 (Sq (Rd NL) Rt) (Sr NJ (Cn 53 (Sq (Rd NI) Rt) (Sr NH (Cn 63 (Sq (Sr NG (Ci 68 (Rr NF))) (Rg ND)) Sk)))))))))))))))) (Sr NB (Sq (Sr NA (Bl 1 wn)) (Rr AP))))))⟩
def Gc:LI:=[.inLoop wn, .inBlock 1, .code (Rr AP)]
def aez:LO:=[Op 2 (.box (.t 0)),Op 3 (.box (.t 1)),Mc 4 (.int .i64 0)]
def aey:LO:=[Fa 8 0 3,Ld 9 8,Fa 10 5 3,Ld 11 10,Op 12 (.build zz7 [(0, 1), (5, 1)] [(.t 9), (.t 11)]),Op 5 (.alloc (.agg zz7)),St 6 5 12]
def aex:LO:=[Mc 6 (.int .i64 0),Mc 7 (.int .i64 4294967295)]
def aew:LO:=[Fa 13 0 3,Ld 14 13]
def aev:LO:=[Bc 16 .eql 14 1,Mv 15 16]
def aeu:LO:=[Bc 17 .eql 14 2,Mv 15 17]
def aet:LO:=[Bc 18 .eql 14 3,Mv 15 18]
def aes:LO:=[Fa 19 1 3,Ld 20 19,Fa 21 1 5,St 1 21 20]
def aer:LO:=[Ls 22 6 3,Ls 23 6 5,Op 24 (.eqs [.int, .str, .int, .int, .int, .bool] true (.t 22) (.t 23))]
def aeq:LO:=[Mc 4 (.int .i64 1)]
def Pc:LO:=[Fa 25 0 3,Ld 26 25,Bc 27 .sub 26 1,Op 28 (.iarr 4 1 (.t 2) (.t 27)),Af [1] (Ld 29 28),Fa 30 1 3,Ld 31 30,Af [4, 6, 1] (Ct 32 630 [29, 31]),Un 33 .not 32]
def Pb:LO:=[Mc 4 (.int .i64 6)]
def O9:LO:=[Mc 4 (.int .i64 0)]
def O8:LO:=[Bc 35 .eql 14 7,Mv 34 35]
def O7:LO:=[Fa 36 3 3,Ls 37 2 36,Fa 38 3 5,St 2 38 37]
def O6:LO:=[Ls 39 6 3,Ls 40 6 5,Op 41 (.eqs [.int, .str, .int, .int, .int, .bool] true (.t 39) (.t 40)),Mv 42 41,Gf 42 (Fa 43 3 3),Gf 42 (Ls 44 2 43),Gf 42 (Ct 45 178 [44]),Gf 42 (Un 46 .not 45),Po 47 42 46]
def O5:LO:=[Mc 4 (.int .i64 1)]
def O0:LO:=[Mc 4 (.int .i64 0)]
def OZ:LO:=[Bc 49 .eql 14 4,Mv 48 49]
def OY:LO:=[Mc 6 (.int .i64 1),Mc 7 (.int .i64 7)]
def OX:LO:=[Bc 51 .eql 14 6,Mv 50 51]
def OW:LO:=[Mc 7 (.int .i64 16777216)]
def OV:LO:=[Bc 53 .eql 14 8,Mv 52 53]
def OU:LO:=[Mc 7 (.int .i64 2000)]
def OT:LO:=[Bc 55 .eql 14 5,Mv 54 55]
def OQ:LO:=[Mc 4 (.int .i64 15)]
def OM:LO:=[Fa 56 2 3,Ld 57 56,Fa 58 2 5,St 1 58 57]
def OL:LO:=[Ls 59 6 3,Ls 60 6 5,Op 61 (.eqs [.int, .str, .int, .int, .int, .bool] true (.t 59) (.t 60))]
def OH:LO:=[Mc 4 (.int .i64 1)]
def OG:LO:=[Fa 62 2 3,Ld 63 62,Mv 64 6,Mv 65 7,Ct 66 581 [63, 64, 65],Un 67 .not 66]
def OE:LO:=[Mc 4 (.int .i64 5)]
def OD:LO:=[Mc 4 (.int .i64 0)]
def f594 : AFunc := ⟨68, 2, false, [.t 4], (Sr aez (Sr aey (Sr aex (Sq (Sr aew (Bk 0 (Sq (Sr aev (Cn 15 Sk (Sr aeu (Cn 15 Sk (Rg aet))))) (Cn 15 (Sr aes (Sq (Sr aer (Ci 24 (Rr aeq))) (Sq (Sq (Rd Pc) (Ci 33 (Rr Pb))) (Rr O9)))) (Sr O8 (Cn 34 (Sr O7 (Sq (Sr O6 (Ci 47 (Rr O5))) (Rr O0))) (Sr OZ (Cn 48 (Rg OY) (Sr OX (Cn 50 (Rg OW) (Sr OV (Cn 52 (Rg OU) (Sr OT (Cn 54 Sk (Rr OQ))))))))))))))) (Sr OM (Sq (Sr OL (Ci 61 (Rr OH))) (Sq (Sr OG (Ci 67 (Rr OE))) (Rr OD))))))))⟩
def aef:LO:=[Op 1 (.box (.t 0)),Mc 2 (.int .i64 0)]
def aee:LO:=[Fa 5 0 1,Ld 6 5,Op 7 (.build zz2 [(0, 1)] [(.t 6)]),Op 3 (.alloc (.agg zz2)),St 5 3 7]
def aed:LO:=[Mc 4 (.bool true)]
def aec:LO:=[Fa 8 0 1,Ld 9 8]
def aeb:LO:=[Bc 11 .eql 9 1,Mv 10 11]
def aea:LO:=[Bc 12 .eql 9 2,Mv 10 12]
def ad9:LO:=[Bc 13 .eql 9 4,Mv 10 13]
def ad8:LO:=[Fa 14 1 1,Ld 15 14,Fa 16 1 3,St 1 16 15]
def ad7:LO:=[Fa 17 1 1,Ld 18 17,Ca 19 581 [(.t 18), (.c (.int .i64 0)), (.c (.int .i64 4294967295))],Mv 4 19]
def ad6:LO:=[Bc 21 .eql 9 3,Mv 20 21]
def Oe:LO:=[Fa 22 1 1,Ld 23 22,Fa 24 1 3,St 1 24 23]
def Od:LO:=[Fa 25 1 1,Ld 26 25,Ca 27 581 [(.t 26), (.c (.int .i64 0)), (.c (.int .i64 16777216))],Mv 4 27]
def Oc:LO:=[Bc 29 .eql 9 5,Mv 28 29]
def Ob:LO:=[Fa 30 4 1,Ld 31 30,Fa 32 4 3,St 1 32 31]
def Oa:LO:=[Fa 33 4 1,Ld 34 33,Op 35 (.bin .neq (.t 34) (.c (.int .u32 0))),Mv 4 35]
def N9:LO:=[Bc 37 .eql 9 6,Mv 36 37]
def N8:LO:=[Bc 38 .eql 9 7,Mv 36 38]
def N7:LO:=[Fa 39 3 1,Ld 40 39,Fa 41 3 3,St 1 41 40]
def N6:LO:=[Bc 43 .eql 9 8,Mv 42 43]
def N5:LO:=[Fa 44 2 1,Ld 45 44,Fa 46 1 1,Ld 47 46,Fa 48 2 3,Af [1] (St 1 48 45),Fa 49 1 3,Af [3, 5, 1] (St 1 49 47)]
def N4:LO:=[Fa 50 2 1,Ld 51 50,Ca 52 581 [(.t 51), (.c (.int .i64 1)), (.c (.int .i64 4294967295))],Mv 53 52,Gt 53 (Fa 54 1 1),Gt 53 (Ld 55 54),Gt 53 (Ca 56 581 [(.t 55), (.c (.int .i64 1)), (.c (.int .i64 16))]),Pa 57 53 56,Mv 4 57]
def N3:LO:=[Mc 2 (.int .i64 15)]
def NZ:LO:=[Ls 58 5 1,Ls 59 5 3,Op 60 (.eqs [.int, .int, .int, .int, .int] true (.t 58) (.t 59))]
def NY:LO:=[Mc 2 (.int .i64 1)]
def NX:LO:=[Mv 61 4,Un 62 .not 61]
def NW:LO:=[Mc 2 (.int .i64 5)]
def NV:LO:=[Mc 2 (.int .i64 0)]
def f596 : AFunc := ⟨63, 1, false, [.t 2], (Sr aef (Sr aee (Sr aed (Sq (Sr aec (Bk 0 (Sq (Sr aeb (Cn 10 Sk (Sr aea (Cn 10 Sk (Rg ad9))))) (Cn 10 (Sr ad8 (Rg ad7)) (Sr ad6 (Cn 20 (Sr Oe (Rg Od)) (Sr Oc (Cn 28 (Sr Ob (Rg Oa)) (Sq (Sr N9 (Cn 36 Sk (Rg N8))) (Cn 36 (Rg N7) (Sr N6 (Cn 42 (Sq (Rd N5) (Rg N4)) (Rr N3))))))))))))) (Sq (Sr NZ (Ci 60 (Rr NY))) (Sq (Sr NX (Ci 62 (Rr NW))) (Rr NV)))))))⟩
def am4:LO:=[Op 1 (.box (.t 0)),Mc 2 (.bool false)]
def am3:LO:=[Fa 3 1 1,Ld 4 3,Bc 5 .geq 4 0,Mv 6 5,Gt 6 (Fa 7 1 1),Af [1] (Gt 6 (Ld 8 7)),Gt 6 (Bc 9 .leq 8 32),Pa 10 6 9,Mv 11 10,Gt 11 (Fa 12 0 1),Af [5, 1] (Gt 11 (Ld 13 12)),Gt 11 (Fa 14 1 1),Af [5, 1] (Gt 11 (Ld 15 14)),Af [10, 12, 5, 1] (Gt 11 (Ct 16 182 [13, 15])),Gt 11 (Fa 17 0 1),Af [5, 1] (Gt 11 (Ld 18 17)),Gt 11 (Bi 19 .eql 16 18),Pa 20 11 19,Mv 2 20]
def f179 : AFunc := ⟨21, 1, false, [.t 2], (Sr am4 (Sq (Rd am3) Rt))⟩
def ad1:LO:=[Op 4 (.alloc (.agg zz0)),Mc 5 (.bool false)]
def ad0:LO:=[Mc 6 (.con (.slice none 0 0))]
def adZ:LO:=[Mv 10 0,Mv 11 1,Ct 12 641 [10, 11],Mv 9 12,Ex 13 9 0,Ex 14 9 1,Op 7 (.alloc (.agg zz0)),St 4 7 13,Mv 8 14]
def adY:LO:=[Mv 15 8,Un 16 .not 15]
def adX:LO:=[Op 17 (.build zz0 [] []),St 4 4 17,Mc 5 (.bool false)]
def adW:LO:=[Mv 18 6,Ls 19 4 7,Op 20 (.bsl 4 zz0 1 [0] [(.t 19)]),Ap 21 4 48 18 20,Mv 6 21]
def adU:LO:=[Mv 22 0,Ca 23 642 [(.t 22), (.c (.int .u8 124))],Un 24 .not 23]
def BA:ACode:=(Bk 1 (Sr adZ (Sq (Sr adY (Ci 16 (Rr adX))) (Sr adW (Sr adU (Cn 24 (Xt 0) Sk))))))
def Gv:LO:=[Mv 25 6,Ln 26 0 25,Bc 27 .eql 26 1]
def Gu:LO:=[Mv 28 6,Op 29 (.iadr 4 (.t 28) (.c (.int .i64 0))),Ls 30 4 29,St 4 4 30,Mc 5 (.bool true)]
def BC:LO:=[Mv 31 6,Op 32 (.build zz0 [(0, 1), (3, 1)] [(.c (.int .i64 4)), (.t 31)]),St 4 4 32,Mc 5 (.bool true)]
def f616 : AFunc := ⟨33, 2, false, [.cell 4 (some 4), .t 5], (Sr ad1 (Sr ad0 (Sq (Bl 0 BA) (Sq (Sr Gv (Ci 27 (Rr Gu))) (Rr BC)))))⟩
def JW:LI:=[.inLoop BA, .inBlock 0, .code (Sq (Sr Gv (Ci 27 (Rr Gu))) (Rr BC))]
def adT:LO:=[Op 1 (.box (.t 0)),Mc 2 (.int .i64 0)]
def adS:LO:=[Ls 6 4 1,Ca 7 643 [(.t 6), (.c (.int .i64 1)), (.c (.int .i64 0))],Mv 5 7,Ex 8 5 0,Ex 9 5 1,Mv 3 8,Mv 4 9]
def adR:LO:=[Mv 10 4,Mv 2 10]
def f617 : AFunc := ⟨11, 1, false, [.t 2], (Sr adT (Sr adS (Rr adR)))⟩
def adQ:LO:=[Op 1 (.box (.t 0)),Mc 2 (.str [])]
def adP:LO:=[Mc 3 (.con (.slice none 0 0))]
def adO:LO:=[Fa 7 3 1,Ld 8 7,Ln 9 0 8,Mc 10 (.int .i64 0)]
def adN:LO:=[Bi 11 .lss 10 9]
def adM:LO:=[Ia 12 4 8 10,Ls 13 4 12,Op 5 (.alloc (.agg zz0)),St 4 5 13]
def adL:LO:=[Ls 14 4 5,Ct 15 618 [14],Mv 6 15]
def adK:LO:=[Ls 16 4 1,Ls 17 4 5,Ct 18 644 [16, 17]]
def adJ:LO:=[Mv 19 6,Op 20 (.bin .add (.c (.str [40])) (.t 19)),Op 21 (.bin .add (.t 20) (.c (.str [41]))),Mv 6 21]
def adI:LO:=[Mv 22 3,Mv 23 6,Op 24 (.bsl 1 [.str []] 1 [0] [(.t 23)]),Ap 25 1 16 22 24,Mv 3 25]
def adH:LO:=[Bc 26 .add 10 1,Mv 10 26]
def wo:ACode:=(Sr adN (Sq (Cx 11 0) (Sq (Bk 1 (Sr adM (Sr adL (Sq (Sr adK (Cn 18 (Rg adJ) Sk)) (Rg adI))))) (Rg adH))))
def Bz:LO:=[Fa 27 0 1,Ld 28 27]
def Bx:LO:=[Bc 30 .eql 28 0,Mv 29 30]
def Bw:LO:=[Mc 2 (.str [40, 41])]
def Bv:LO:=[Bc 32 .eql 28 1,Mv 31 32]
def Bu:LO:=[Fa 33 1 1,Ld 34 33,Fa 35 2 1,Ld 36 35,Bi 37 .eql 34 36]
def Bt:LO:=[Fa 38 1 1,Ld 39 38,Ct 40 338 [39],Mv 2 40]
def Br:LO:=[Fa 41 1 1,Ld 42 41,Af [1] (Ct 43 338 [42]),Op 44 (.bin .add (.c (.str [91])) (.t 43)),Op 45 (.bin .add (.t 44) (.c (.str [45]))),Fa 46 2 1,Ld 47 46,Af [6, 2, 1] (Ct 48 338 [47]),Bi 49 .add 45 48,Op 50 (.bin .add (.t 49) (.c (.str [93]))),Mv 2 50]
def Bq:LO:=[Bc 52 .eql 28 2,Mv 51 52]
def Bp:LO:=[Mc 2 (.str [46])]
def Bn:LO:=[Bc 54 .eql 28 3,Mv 53 54]
def Bm:LO:=[Mv 55 3,Ca 56 645 [(.t 55), (.c (.str [32]))],Mv 2 56]
def Bj:LO:=[Bc 58 .eql 28 4,Mv 57 58]
def Bh:LO:=[Mv 59 3,Ln 60 0 59,Bc 61 .eql 60 0]
def Bg:LO:=[Mc 2 (.str [33])]
def Bb:LO:=[Mv 62 3,Ca 63 645 [(.t 62), (.c (.str [124]))],Mv 2 63]
def Ba:LO:=[Bc 65 .eql 28 5,Mv 64 65]
def A8:LO:=[Mv 66 3,Op 67 (.iadr 1 (.t 66) (.c (.int .i64 0))),Ld 68 67,Op 69 (.bin .add (.t 68) (.c (.str [42]))),Mv 2 69]
def A7:LO:=[Bc 71 .eql 28 6,Mv 70 71]
def A6:LO:=[Mv 72 3,Op 73 (.iadr 1 (.t 72) (.c (.int .i64 0))),Ld 74 73,Op 75 (.bin .add (.t 74) (.c (.str [43]))),Mv 2 75]
def AZ:LO:=[Mv 76 3,Op 77 (.iadr 1 (.t 76) (.c (.int .i64 0))),Ld 78 77,Op 79 (.bin .add (.t 78) (.c (.str [63]))),Mv 2 79]
def f618 : AFunc := ⟨80, 1, false, [.t 2], (Sr adQ (Sr adP (Sq (Sr adO (Bl 0 wo)) (Sq (Sr Bz (Bk 2 (Sr Bx (Cn 29 (Rr Bw) (Sr Bv (Cn 31 (Sq (Sr Bu (Ci 37 (Rr Bt))) (Sq (Rd Br) Rt)) (Sr Bq (Cn 51 (Rr Bp) (Sr Bn (Cn 53 (Rr Bm) (Sr Bj (Cn 57 (Sq (Sr Bh (Ci 61 (Rr Bg))) (Rr Bb)) (Sr Ba (Cn 64 (Rr A8) (Sr A7 (Ci 70 (Rr A6))))))))))))))))) (Rr AZ)))))⟩
def jZ:LI:=[.inLoop wo, .inBlock 0, .code (Sq (Sr Bz (Bk 2 (Sr Bx (Cn 29 (Rr Bw) (Sr Bv (Cn 31 (Sq (Sr Bu (Ci 37 (Rr Bt))) (Sq (Rd Br) Rt)) (Sr Bq (Cn 51 (Rr Bp) (Sr Bn (Cn 53 (Rr Bm) (Sr Bj (Cn 57 (Sq (Sr Bh (Ci 61 (Rr Bg))) (Rr Bb)) (Sr Ba (Cn 64 (Rr A8) (Sr A7 (Ci 70 (Rr A6))))))))))))))))) (Rr AZ))]
def adG:LO:=[Mc 2 (.int .i64 0),Mc 3 (.int .i64 0),Mc 4 (.bool false)]
def adF:LO:=[Mv 5 0]
def adE:LO:=[Bc 7 .eql 5 4,Mv 6 7]
def adC:LO:=[Mc 2 (.int .i64 1),Mc 3 (.int .i64 7),Mc 4 (.bool true)]
def adB:LO:=[Bc 9 .eql 5 5,Mv 8 9]
def adA:LO:=[Mc 2 (.int .i64 0),Mc 3 (.int .i64 4294967295),Mc 4 (.bool true)]
def adz:LO:=[Bc 11 .eql 5 6,Mv 10 11]
def ady:LO:=[Mc 2 (.int .i64 0),Mc 3 (.int .i64 16777216),Mc 4 (.bool true)]
def adx:LO:=[Bc 13 .eql 5 8,Mv 12 13]
def adw:LO:=[Mc 2 (.int .i64 0),Mc 3 (.int .i64 2000),Mc 4 (.bool true)]
def NU:LO:=[Mc 2 (.int .i64 0),Mc 3 (.int .i64 0),Mc 4 (.bool false)]
def f619 : AFunc := ⟨14, 1, false, [.t 2, .t 3, .t 4], (Sr adG (Sq (Sr adF (Bk 0 (Sr adE (Cn 6 (Rr adC) (Sr adB (Cn 8 (Rr adA) (Sr adz (Cn 10 (Rr ady) (Sr adx (Ci 12 (Rr adw))))))))))) (Rr NU)))⟩
def adu:LO:=[Op 2 (.box (.t 0)),Op 4 (.alloc (.agg zz1)),Mc 5 (.bool false)]
def adt:LO:=[Fa 8 0 2,Ld 9 8,Ln 10 0 9,Mc 11 (.int .i64 0)]
def ads:LO:=[Bi 12 .lss 11 10]
def adr:LO:=[Ia 13 2 9 11,Ls 14 2 13,Op 7 (.alloc (.agg zz1)),St 2 7 14]
def adq:LO:=[Fa 15 0 7,Ld 16 15,Mv 17 1,Bi 18 .eql 16 17]
def adp:LO:=[Ls 19 2 7,St 2 4 19,Mc 5 (.bool true)]
def ado:LO:=[Bc 20 .add 11 1,Mv 11 20]
def AY:ACode:=(Sr ads (Sq (Cx 12 0) (Sq (Bk 1 (Sr adr (Sr adq (Ci 18 (Rr adp))))) (Rg ado))))
def Gr:LO:=[Op 21 (.build zz1 [] []),St 2 4 21,Mc 5 (.bool false)]
def f620 : AFunc := ⟨22, 2, false, [.cell 4 (some 2), .t 5], (Sr adu (Sq (Sr adt (Bl 0 AY)) (Rr Gr)))⟩
def JV:LI:=[.inLoop AY, .inBlock 0, .code (Rr Gr)]
def adn:LO:=[Op 2 (.box (.t 0)),Op 4 (.alloc (.agg zz1)),Mc 5 (.bool false)]
def adm:LO:=[Fa 8 1 2,Ld 9 8,Ln 10 0 9,Mc 11 (.int .i64 0)]
def adl:LO:=[Bi 12 .lss 11 10]
def adk:LO:=[Ia 13 2 9 11,Ls 14 2 13,Op 7 (.alloc (.agg zz1)),St 2 7 14]
def adj:LO:=[Fa 15 0 7,Ld 16 15,Mv 17 1,Bi 18 .eql 16 17]
def adi:LO:=[Ls 19 2 7,St 2 4 19,Mc 5 (.bool true)]
def adh:LO:=[Bc 20 .add 11 1,Mv 11 20]
def AX:ACode:=(Sr adl (Sq (Cx 12 0) (Sq (Bk 1 (Sr adk (Sr adj (Ci 18 (Rr adi))))) (Rg adh))))
def Gq:LO:=[Op 21 (.build zz1 [] []),St 2 4 21,Mc 5 (.bool false)]
def f621 : AFunc := ⟨22, 2, false, [.cell 4 (some 2), .t 5], (Sr adn (Sq (Sr adm (Bl 0 AX)) (Rr Gq)))⟩
def JU:LI:=[.inLoop AX, .inBlock 0, .code (Rr Gq)]
def adg:LO:=[Op 2 (.box (.t 0)),Op 4 (.alloc (.agg zz1)),Mc 5 (.bool false)]
def adf:LO:=[Fa 8 2 2,Ld 9 8,Ln 10 0 9,Mc 11 (.int .i64 0)]
def ade:LO:=[Bi 12 .lss 11 10]
def adc:LO:=[Ia 13 2 9 11,Ls 14 2 13,Op 7 (.alloc (.agg zz1)),St 2 7 14]
def adb:LO:=[Fa 15 0 7,Ld 16 15,Mv 17 1,Bi 18 .eql 16 17]
def ada:LO:=[Ls 19 2 7,St 2 4 19,Mc 5 (.bool true)]
def ac9:LO:=[Bc 20 .add 11 1,Mv 11 20]
def AW:ACode:=(Sr ade (Sq (Cx 12 0) (Sq (Bk 1 (Sr adc (Sr adb (Ci 18 (Rr ada))))) (Rg ac9))))
def Gn:LO:=[Op 21 (.build zz1 [] []),St 2 4 21,Mc 5 (.bool false)]
def f622 : AFunc := ⟨22, 2, false, [.cell 4 (some 2), .t 5], (Sr adg (Sq (Sr adf (Bl 0 AW)) (Rr Gn)))⟩
def JT:LI:=[.inLoop AW, .inBlock 0, .code (Rr Gn)]
def amJ:LO:=[Mc 2 (.str [])]
def amI:LO:=[Op 3 (.alloc (.agg [.str [], .str [], .str [], .str []]))]
def amH:LO:=[Mc 5 (.int .i64 0)]
def amG:LO:=[Bc 6 .lss 5 4]
def amF:LO:=[Mv 7 5,Mv 4 7]
def amE:LO:=[Mv 8 4,Mv 9 0,Mv 10 4,Op 11 (.bin .mul (.c (.int .i64 8)) (.t 10)),Op 12 (.bin .sub (.c (.int .i64 24)) (.t 11)),Bi 13 .shr 9 12,Op 14 (.bin .and (.t 13) (.c (.int .u32 255))),Cv 15 .i64 14,Ct 16 246 [15],Op 17 (.iarr 4 1 (.t 3) (.t 8)),St 1 17 16]
def amD:LO:=[Bc 18 .add 5 1,Mv 5 18]
def Da:ACode:=(Sr amG (Sq (Cx 6 0) (Sq (Bk 1 (Sr amF (Rg amE))) (Rg amD))))
def H9:LO:=[Op 19 (.slarr 4 1 (.t 3) none none none),Ca 20 247 [(.t 19), (.c (.str [46]))],Mv 2 20]
def f227 : AFunc := ⟨21, 1, false, [.t 2], (Sr amJ (Sr amI (Sq (Sr amH (Bl 0 Da)) (Rr H9))))⟩
def ame:LO:=[Mc 2 (.str [])]
def amd:LO:=[Mv 3 0,Ct 4 258 [3],Mv 2 4]
def f246 : AFunc := ⟨5, 1, false, [.t 2], (Sr ame (Rr amd))⟩
def ak1:LO:=[Mc 2 (.str [])]
def ak0:LO:=[Mv 4 0,Op 5 (.bin .rem (.t 4) (.c (.int .u64 10))),Op 6 (.bin .add (.c (.int .u64 48)) (.t 5)),Cv 7 .u8 6,Op 8 (.bsl 1 [.int .u8 0] 1 [0] [(.t 7)]),Op 9 (.b2s (.t 8)),Mv 3 9]
def akZ:LO:=[Mv 10 0,Op 11 (.bin .lss (.t 10) (.c (.int .u64 10)))]
def akY:LO:=[Mv 12 3,Mv 2 12]
def akX:LO:=[Mv 13 0,Op 14 (.bin .quo (.t 13) (.c (.int .u64 10))),Ct 15 344 [14],Mv 16 3,Bi 17 .add 15 16,Mv 2 17]
def f344 : AFunc := ⟨18, 1, false, [.t 2], (Sr ak1 (Sr ak0 (Sq (Sr akZ (Ci 11 (Rr akY))) (Rr akX))))⟩
def afg:LO:=[Mc 4 (.bool false)]
def aff:LO:=[Mv 11 1,Ct 12 592 [11],Mv 10 12,Ex 13 10 0,Ex 14 10 1,Mv 5 13,Mv 6 14]
def afe:LO:=[Mc 7 (.int .i64 0)]
def afd:LO:=[Mv 15 5]
def afc:LO:=[Op 17 (.bin .eql (.t 15) (.c (.str [112, 114, 101, 102, 105, 120, 45, 108, 105, 115, 116]))),Mv 16 17]
def afb:LO:=[Mc 7 (.int .i64 1)]
def afa:LO:=[Op 19 (.bin .eql (.t 15) (.c (.str [112, 97, 116, 104, 45, 108, 105, 115, 116]))),Mv 18 19]
def ae9:LO:=[Mc 7 (.int .i64 2)]
def ae8:LO:=[Op 21 (.bin .eql (.t 15) (.c (.str [99, 111, 109, 109, 117, 110, 105, 116, 121, 45, 108, 105, 115, 116]))),Mv 20 21]
def ae7:LO:=[Mc 7 (.int .i64 3)]
def Qn:LO:=[Op 23 (.bin .eql (.t 15) (.c (.str [112, 111, 108, 105, 99, 121]))),Mv 22 23]
def Qm:LO:=[Mc 7 (.int .i64 4)]
def Ql:LO:=[Mc 4 (.bool false)]
def Qk:LO:=[Mv 24 7,Mv 25 0,Nc 26 25,Fa 27 8 26,Ld 28 27,Bi 29 .geq 24 28,Ct 30 586 [29]]
def Qj:LO:=[Mv 31 6,Ct 32 597 [31],Mv 8 32]
def Qi:LO:=[Mv 33 0,Mv 34 7,Nc 35 33,Fa 36 8 35,St 1 36 34]
def Qh:LO:=[Mv 37 0,Mv 38 7,Bc 39 .sub 38 1,Nc 40 37,Fa 41 4 40,Op 42 (.iarr 4 1 (.t 41) (.t 39)),Ld 43 42,Mv 9 43]
def Qg:LO:=[Mv 44 9,Ln 45 0 44,Bc 46 .geq 45 64]
def Qf:LO:=[Ca 47 590 [(.c (.int .i64 4))]]
def Qe:LO:=[Mv 48 9,Mv 49 8,Ct 50 577 [48, 49],Ct 51 590 [50]]
def Qd:LO:=[Mv 52 0,Mv 53 7,Bc 54 .sub 53 1,Mv 55 9,Mv 56 8,Op 57 (.bsl 1 [.str []] 1 [0] [(.t 56)]),Af [5] (Ap 58 1 16 55 57),Nc 59 52,Fa 60 4 59,Op 61 (.iarr 4 1 (.t 60) (.t 54)),Af [6, 5] (St 1 61 58)]
def Qc:LO:=[Mv 62 7]
def Qb:LO:=[Bc 64 .eql 62 1,Mv 63 64]
def P9:LO:=[Mv 65 0,Mv 66 0,Nc 67 66,Fa 68 0 67,Fa 69 0 68,Ld 70 69,Mv 71 8,Op 72 (.build zz1 [(0, 1)] [(.t 71)]),Op 73 (.bsl 2 zz1 1 [0] [(.t 72)]),Ap 74 2 40 70 73,Nc 75 65,Fa 76 0 75,Fa 77 0 76,St 1 77 74]
def P8:LO:=[Bc 79 .eql 62 2,Mv 78 79]
def P7:LO:=[Mv 80 0,Mv 81 0,Nc 82 81,Fa 83 0 82,Fa 84 1 83,Ld 85 84,Mv 86 8,Op 87 (.build zz1 [(0, 1)] [(.t 86)]),Op 88 (.bsl 2 zz1 1 [0] [(.t 87)]),Ap 89 2 40 85 88,Nc 90 80,Fa 91 0 90,Fa 92 1 91,St 1 92 89]
def PY:LO:=[Bc 94 .eql 62 3,Mv 93 94]
def PW:LO:=[Mv 95 0,Mv 96 0,Nc 97 96,Fa 98 0 97,Fa 99 2 98,Ld 100 99,Mv 101 8,Op 102 (.build zz1 [(0, 1)] [(.t 101)]),Op 103 (.bsl 2 zz1 1 [0] [(.t 102)]),Ap 104 2 40 100 103,Nc 105 95,Fa 106 0 105,Fa 107 2 106,St 1 107 104]
def PU:LO:=[Bc 109 .eql 62 4,Mv 108 109]
def PQ:LO:=[Mv 110 0,Mv 111 0,Nc 112 111,Fa 113 0 112,Fa 114 3 113,Ld 115 114,Mv 116 8,Op 117 (.build zz3 [(0, 1)] [(.t 116)]),Op 118 (.bsl 3 zz3 1 [0] [(.t 117)]),Ap 119 3 48 115 118,Nc 120 110,Fa 121 0 120,Fa 122 3 121,St 1 122 119]
def PM:LO:=[Mv 123 0,Nc 124 123,Fa 125 9 124,⟨none, .store 1 (.t 125) (.c (.bool true)), none, []⟩]
def PJ:LO:=[Mc 4 (.bool true)]
def f585 : AFunc := ⟨126, 2, false, [.t 4], (Sr afg (Sr aff (Sr afe (Sq (Sr afd (Bk 0 (Sr afc (Cn 16 (Rg afb) (Sr afa (Cn 18 (Rg ae9) (Sr ae8 (Cn 20 (Rg ae7) (Sr Qn (Cn 22 (Rg Qm) (Rr Ql))))))))))) (Sr Qk (Sr Qj (Sr Qi (Sr Qh (Sq (Sr Qg (Cn 46 (Rg Qf) Sk)) (Sr Qe (Sq (Rd Qd) (Sq (Sr Qc (Bk 1 (Sr Qb (Cn 63 (Rg P9) (Sr P8 (Cn 78 (Rg P7) (Sr PY (Cn 93 (Rg PW) (Sr PU (Cn 108 (Sr PQ (Rg PM)) Sk)))))))))) (Rr PJ)))))))))))))⟩
def alC:LO:=[Op 2 (.alloc (.agg zz6)),Mc 3 (.int .i64 0)]
def alB:LO:=[Mv 14 0,Ct 15 339 [14],Mv 13 15,Ex 16 13 0,Ex 17 13 1,Mv 4 16,Mv 5 17]
def alA:LO:=[Mv 18 5,Bc 19 .neq 18 0,Mv 20 19,Gf 20 (Mv 21 4),Gf 20 (Ln 22 0 21),Gf 20 (Bc 23 .lss 22 2),Po 24 20 23,Mv 25 24,Gf 25 (Mv 26 4),Gf 25 (Ln 27 0 26),Gf 25 (Bc 28 .gtr 27 3),Po 29 25 28]
def alz:LO:=[Op 30 (.build zz6 [] []),St 5 2 30,Mc 3 (.int .i64 2)]
def aly:LO:=[Mv 32 4,Op 33 (.iadr 1 (.t 32) (.c (.int .i64 1))),Ld 34 33,Ct 35 233 [34],Mv 31 35,Ex 36 31 0,Ex 37 31 1,Op 6 (.alloc (.agg zz8)),St 2 6 36,Mv 5 37]
def alx:LO:=[Mv 38 5,Bc 39 .neq 38 0]
def alw:LO:=[Op 40 (.build zz6 [] []),St 5 2 40,Mc 3 (.int .i64 2)]
def alv:LO:=[Mv 41 4,Op 42 (.iadr 1 (.t 41) (.c (.int .i64 0))),Af [1] (Ld 43 42),Op 44 (.bin .eql (.t 43) (.c (.str [112, 101, 114, 109, 105, 116]))),Ls 45 2 6,Fa 46 1 6,Ld 47 46,Fa 48 1 6,Ld 49 48,Op 50 (.build zz6 [(0, 1), (1, 2), (3, 1), (4, 1)] [(.t 44), (.t 45), (.t 47), (.t 49)]),Op 7 (.alloc (.agg zz6)),Af [10, 4, 6, 8, 2, 1] (St 5 7 50)]
def alu:LO:=[Mv 51 4,Ln 52 0 51,Bc 53 .eql 52 3]
def als:LO:=[Mv 55 4,Op 56 (.iadr 1 (.t 55) (.c (.int .i64 2))),Ld 57 56,Ct 58 340 [57],Mv 54 58,Ex 59 54 0,Ex 60 54 1,Ex 61 54 2,Mv 8 59,Mv 9 60,Mv 10 61]
def VM:LO:=[Mv 62 10,Un 63 .not 62]
def VL:LO:=[Op 64 (.build zz6 [] []),St 5 2 64,Mc 3 (.int .i64 2)]
def VK:LO:=[Mv 65 8,Mv 66 9,Fa 67 3 7,St 1 67 65,Fa 68 4 7,St 1 68 66]
def Vz:LO:=[Ls 70 5 7,Ct 71 332 [70],Mv 69 71,Ex 72 69 0,Ex 73 69 1,Mv 11 72,Mv 12 73]
def Vy:LO:=[Mv 74 12,Bc 75 .neq 74 0,Mv 76 75,Gf 76 (Mv 77 11),Gf 76 (Mv 78 0),Gf 76 (Bi 79 .neq 77 78),Po 80 76 79]
def Vx:LO:=[Op 81 (.build zz6 [] []),St 5 2 81,Mc 3 (.int .i64 2)]
def Vv:LO:=[Ls 82 5 7,St 5 2 82,Mc 3 (.int .i64 0)]
def f334 : AFunc := ⟨83, 1, false, [.cell 2 (some 5), .t 3], (Sr alC (Sr alB (Sq (Sr alA (Ci 29 (Rr alz))) (Sr aly (Sq (Sr alx (Ci 39 (Rr alw))) (Sq (Rd alv) (Sq (Sr alu (Cn 53 (Sr als (Sq (Sr VM (Ci 63 (Rr VL))) (Rg VK))) Sk)) (Sq (Sr Vz (Sr Vy (Ci 80 (Rr Vx)))) (Rr Vv)))))))))⟩
def ae6:LO:=[Mv 2 0,Un 3 .not 2]
def ae5:LO:=[Op 4 (.build [.int .i64 0] [(0, 1)] [(.c (.int .i64 2))]),Op 5 (.mkifc 138 (.t 4)),⟨none, .panic (.t 5), none, []⟩]
def f586 : AFunc := ⟨6, 1, false, [], (Sr ae6 (Cn 3 (Rg ae5) Sk))⟩
def ae4:LO:=[Mv 2 0,Bc 3 .geq 2 64]
def ae3:LO:=[Ca 4 590 [(.c (.int .i64 4))]]
def f587 : AFunc := ⟨5, 1, false, [], (Sr ae4 (Cn 3 (Rg ae3) Sk))⟩
def ae2:LO:=[Mc 2 (.bool false),Mc 3 (.str [])]
def ae1:LO:=[Mv 7 0,Ct 8 592 [7],Mv 6 8,Ex 9 6 0,Ex 10 6 1,Mv 4 9,Mv 5 10]
def ae0:LO:=[Mv 11 4,Op 12 (.bin .eql (.t 11) (.c (.str [112, 101, 114, 109, 105, 116]))),Mv 13 12,Gf 13 (Mv 14 4),Gf 13 (Op 15 (.bin .eql (.t 14) (.c (.str [100, 101, 110, 121])))),Po 16 13 15,Ct 17 586 [16]]
def aeZ:LO:=[Mv 18 4,Op 19 (.bin .eql (.t 18) (.c (.str [112, 101, 114, 109, 105, 116]))),Mv 20 5,Mv 2 19,Mv 3 20]
def f588 : AFunc := ⟨21, 1, false, [.t 2, .t 3], (Sr ae2 (Sr ae1 (Sr ae0 (Rr aeZ))))⟩
def aeY:LO:=[Mc 2 (.int .i64 0)]
def aeX:LO:=[Mv 3 0,Op 4 (.bin .eql (.t 3) (.c (.str [42])))]
def aeW:LO:=[Mc 2 (.int .i64 (-1))]
def aeV:LO:=[Mv 5 0,Ct 6 629 [5],Mv 2 6]
def f589 : AFunc := ⟨7, 1, false, [.t 2], (Sr aeY (Sq (Sr aeX (Ci 4 (Rr aeW))) (Rr aeV)))⟩
def aeU:LO:=[Mv 2 0,Bc 3 .neq 2 0]
def aeT:LO:=[Mv 4 0,Op 5 (.build [.int .i64 0] [(0, 1)] [(.t 4)]),Op 6 (.mkifc 138 (.t 5)),⟨none, .panic (.t 6), none, []⟩]
def f590 : AFunc := ⟨7, 1, false, [], (Sr aeU (Cn 3 (Rg aeT) Sk))⟩
def aeS:LO:=[Mc 2 (.con (.pointer none))]
def aeR:LO:=[Mv 3 0,Nc 4 3,Fa 5 0 4,Fa 6 3 5,Ld 7 6,Mv 8 0,Nc 9 8,Fa 10 0 9,Fa 11 3 10,Ld 12 11,Af [9] (Ln 13 0 12),Bc 14 .sub 13 1,Af [4, 10, 9] (Ia 15 3 7 14),Mv 2 15]
def f591 : AFunc := ⟨16, 1, false, [.t 2], (Sr aeS (Sq (Rd aeR) Rt))⟩
def aeQ:LO:=[Mc 2 (.str []),Mc 3 (.str [])]
def aeP:LO:=[Mv 5 0,Ln 6 1 5,Mc 7 (.int .i64 0)]
def aeO:LO:=[Bi 8 .lss 7 6]
def aeN:LO:=[Mv 9 7,Mv 4 9]
def aeM:LO:=[Mv 10 0,Mv 11 4,Op 12 (.istr (.t 10) (.t 11)),Op 13 (.bin .eql (.t 12) (.c (.int .u8 32)))]
def aeL:LO:=[Mv 14 0,Mv 15 4,Op 16 (.slstr (.t 14) none (some (.t 15))),Mv 17 0,Mv 18 4,Bc 19 .add 18 1,Op 20 (.slstr (.t 17) (some (.t 19)) none),Mv 2 16,Mv 3 20]
def aeK:LO:=[Bc 21 .add 7 1,Mv 7 21]
def BG:ACode:=(Sr aeO (Sq (Cx 8 0) (Sq (Bk 1 (Sr aeN (Sr aeM (Cn 13 (Sq (Rd aeL) Rt) Sk)))) (Rg aeK))))
def Gw:LO:=[Mv 22 0,Mv 2 22,Mc 3 (.str [])]
def f592 : AFunc := ⟨23, 1, false, [.t 2, .t 3], (Sr aeQ (Sq (Sr aeP (Bl 0 BG)) (Rr Gw)))⟩
def aeJ:LO:=[Op 2 (.alloc (.agg zz7))]
def aeI:LO:=[Mv 9 0,Ct 10 592 [9],Mv 8 10,Ex 11 8 0,Ex 12 8 1,Mv 3 11,Mv 4 12]
def aeH:LO:=[Op 13 (.build zz7 [] []),Op 5 (.alloc (.agg zz7)),St 6 5 13]
def aeG:LO:=[Mv 14 3,Op 15 (.bin .eql (.t 14) (.c (.str [110, 111, 116])))]
def aeF:LO:=[Fa 16 5 5,⟨none, .store 1 (.t 16) (.c (.bool true)), none, []⟩]
def aeE:LO:=[Mv 18 4,Ct 19 592 [18],Mv 17 19,Ex 20 17 0,Ex 21 17 1,Mv 3 20,Mv 4 21]
def aeD:LO:=[Mv 22 4,Ct 23 597 [22]]
def aeC:LO:=[Mv 24 3]
def aeB:LO:=[Op 40 (.bin .eql (.t 24) (.c (.str [112, 114, 101, 102, 105, 120, 45, 108, 105, 115, 116]))),Mv 39 40]
def aeA:LO:=[Mv 41 4,Fa 42 0 5,⟨none, .store 1 (.t 42) (.c (.int .i64 1)), none, []⟩,Fa 43 1 5,St 1 43 41]
def PH:LO:=[Op 45 (.bin .eql (.t 24) (.c (.str [112, 97, 116, 104, 45, 108, 105, 115, 116]))),Mv 44 45]
def PG:LO:=[Mv 46 4,Fa 47 0 5,⟨none, .store 1 (.t 47) (.c (.int .i64 2)), none, []⟩,Fa 48 1 5,St 1 48 46]
def PF:LO:=[Op 50 (.bin .eql (.t 24) (.c (.str [99, 111, 109, 109, 117, 110, 105, 116, 121, 45, 108, 105, 115, 116]))),Mv 49 50]
def PD:LO:=[Mv 51 4,Fa 52 0 5,⟨none, .store 1 (.t 52) (.c (.int .i64 3)), none, []⟩,Fa 53 1 5,St 1 53 51]
def PC:LO:=[Op 55 (.bin .eql (.t 24) (.c (.str [112, 114, 111, 116, 111, 99, 111, 108]))),Mv 54 55]
def PB:LO:=[Mv 56 4,Ct 57 629 [56],Fa 58 0 5,⟨none, .store 1 (.t 58) (.c (.int .i64 4)), none, []⟩,Fa 59 2 5,St 1 59 57]
def Py:LO:=[Op 61 (.bin .eql (.t 24) (.c (.str [116, 97, 103]))),Mv 60 61]
def Pw:LO:=[Mv 62 4,Ct 63 629 [62],Fa 64 0 5,⟨none, .store 1 (.t 64) (.c (.int .i64 5)), none, []⟩,Fa 65 2 5,St 1 65 63]
def Pu:LO:=[Op 67 (.bin .eql (.t 24) (.c (.str [109, 101, 116, 114, 105, 99]))),Mv 66 67]
def Pr:LO:=[Mv 68 4,Ct 69 629 [68],Fa 70 0 5,⟨none, .store 1 (.t 70) (.c (.int .i64 6)), none, []⟩,Fa 71 2 5,St 1 71 69]
def Pq:LO:=[Op 73 (.bin .eql (.t 24) (.c (.str [112, 97, 116, 104, 45, 108, 101, 110, 103, 116, 104]))),Mv 72 73]
def Pm:LO:=[Mv 74 4,Ct 75 629 [74],Fa 76 0 5,⟨none, .store 1 (.t 76) (.c (.int .i64 8)), none, []⟩,Fa 77 2 5,St 1 77 75]
def Pj:LO:=[Mv 25 3,Op 26 (.bin .eql (.t 25) (.c (.str [110, 101, 120, 116, 45, 104, 111, 112]))),Ct 27 586 [26]]
def Ph:LO:=[Mv 29 4,Ct 30 233 [29],Mv 28 30,Ex 31 28 0,Ex 32 28 1,Op 6 (.alloc (.agg zz8)),St 2 6 31,Mv 7 32]
def Pg:LO:=[Mv 33 7,Bc 34 .eql 33 0,Ct 35 586 [34]]
def Pf:LO:=[Ls 36 2 6,Fa 37 0 5,⟨none, .store 1 (.t 37) (.c (.int .i64 7)), none, []⟩,Fa 38 3 5,Af [0, 2] (St 2 38 36)]
def Pd:LO:=[Ls 78 6 5,St 6 2 78]
def f593 : AFunc := ⟨79, 1, false, [.cell 2 (some 6)], (Sr aeJ (Sr aeI (Sr aeH (Sq (Sr aeG (Cn 15 (Sr aeF (Rg aeE)) Sk)) (Sr aeD (Sq (Sr aeC (Bk 0 (Sr aeB (Cn 39 (Rg aeA) (Sr PH (Cn 44 (Rg PG) (Sr PF (Cn 49 (Rg PD) (Sr PC (Cn 54 (Rg PB) (Sr Py (Cn 60 (Rg Pw) (Sr Pu (Cn 66 (Rg Pr) (Sr Pq (Cn 72 (Rg Pm) (Sr Pj (Sr Ph (Sr Pg (Rd Pf)))))))))))))))))))) (Rr Pd)))))))⟩
def aep:LO:=[Op 2 (.alloc (.agg zz2))]
def aeo:LO:=[Mv 12 0,Ct 13 592 [12],Mv 11 13,Ex 14 11 0,Ex 15 11 1,Mv 3 14,Mv 4 15]
def aen:LO:=[Mv 16 3]
def aem:LO:=[Op 18 (.bin .eql (.t 16) (.c (.str [112, 114, 101, 102]))),Mv 17 18]
def ael:LO:=[Mv 19 4,Ct 20 629 [19],Op 21 (.build zz2 [(0, 1), (1, 1)] [(.c (.int .i64 1)), (.t 20)]),St 5 2 21]
def aek:LO:=[Op 23 (.bin .eql (.t 16) (.c (.str [109, 101, 100]))),Mv 22 23]
def aej:LO:=[Mv 24 4,Ct 25 629 [24],Op 26 (.build zz2 [(0, 1), (1, 1)] [(.c (.int .i64 2)), (.t 25)]),St 5 2 26]
def aei:LO:=[Op 28 (.bin .eql (.t 16) (.c (.str [109, 101, 116, 114, 105, 99]))),Mv 27 28]
def aeh:LO:=[Mv 29 4,Ct 30 629 [29],Op 31 (.build zz2 [(0, 1), (1, 1)] [(.c (.int .i64 3)), (.t 30)]),St 5 2 31]
def aeg:LO:=[Op 33 (.bin .eql (.t 16) (.c (.str [116, 97, 103]))),Mv 32 33]
def OC:LO:=[Mv 34 4,Ct 35 629 [34],Op 36 (.build zz2 [(0, 1), (1, 1)] [(.c (.int .i64 4)), (.t 35)]),St 5 2 36]
def OB:LO:=[Op 38 (.bin .eql (.t 16) (.c (.str [110, 101, 120, 116, 45, 104, 111, 112]))),Mv 37 38]
def OA:LO:=[Mv 40 4,Ct 41 231 [40],Mv 39 41,Ex 42 39 0,Ex 43 39 1,Mv 5 42,Mv 6 43]
def Oz:LO:=[Mv 44 6,Bc 45 .eql 44 0,Ct 46 586 [45]]
def Oy:LO:=[Mv 47 5,Op 48 (.build zz2 [(0, 1), (4, 1)] [(.c (.int .i64 5)), (.t 47)]),St 5 2 48]
def Ox:LO:=[Op 50 (.bin .eql (.t 16) (.c (.str [97, 100, 100]))),Mv 49 50]
def Ow:LO:=[Op 51 (.bin .eql (.t 16) (.c (.str [100, 101, 108, 101, 116, 101]))),Mv 49 51]
def Ov:LO:=[Mv 53 4,Ct 54 631 [53],Mv 52 54,Ex 55 52 0,Ex 56 52 1,Mv 7 55,Mv 8 56]
def Ou:LO:=[Mv 57 8,Bc 58 .eql 57 0,Ct 59 586 [58]]
def Ot:LO:=[Mv 60 3,Op 61 (.bin .eql (.t 60) (.c (.str [97, 100, 100])))]
def Oq:LO:=[Mv 62 7,Op 63 (.build zz2 [(0, 1), (3, 1)] [(.c (.int .i64 6)), (.t 62)]),St 5 2 63]
def Om:LO:=[Mv 64 7,Op 65 (.build zz2 [(0, 1), (3, 1)] [(.c (.int .i64 7)), (.t 64)]),St 5 2 65]
def Ol:LO:=[Mv 66 3,Op 67 (.bin .eql (.t 66) (.c (.str [112, 114, 101, 112, 101, 110, 100]))),Ct 68 586 [67]]
def Oh:LO:=[Mv 70 4,Ct 71 592 [70],Mv 69 71,Ex 72 69 0,Ex 73 69 1,Mv 9 72,Mv 10 73]
def Og:LO:=[Mv 74 9,Ct 75 629 [74],Mv 76 10,Ct 77 629 [76],Op 78 (.build zz2 [(0, 1), (2, 1), (1, 1)] [(.c (.int .i64 8)), (.t 75), (.t 77)]),St 5 2 78]
def f595 : AFunc := ⟨79, 1, false, [.cell 2 (some 5)], (Sr aep (Sr aeo (Sq (Sr aen (Bk 0 (Sr aem (Cn 17 (Rr ael) (Sr aek (Cn 22 (Rr aej) (Sr aei (Cn 27 (Rr aeh) (Sr aeg (Cn 32 (Rr OC) (Sr OB (Cn 37 (Sr OA (Sr Oz (Rr Oy))) (Sq (Sr Ox (Cn 49 Sk (Rg Ow))) (Cn 49 (Sr Ov (Sr Ou (Sq (Sr Ot (Ci 61 (Rr Oq))) (Rr Om)))) Sk)))))))))))))) (Sr Ol (Sr Oh (Rr Og))))))⟩
def ad5:LO:=[Mc 2 (.str [])]
def ad4:LO:=[Mv 6 0,Ct 7 339 [6],Mv 5 7,Ex 8 5 0,Ex 9 5 1,Mv 3 8,Mv 4 9]
def ad3:LO:=[Mv 10 4,Bc 11 .eql 10 0,Mv 12 11,Gt 12 (Mv 13 3),Gt 12 (Ln 14 0 13),Gt 12 (Bc 15 .eql 14 1),Pa 16 12 15,Ct 17 586 [16]]
def ad2:LO:=[Mv 18 0,Mv 2 18]
def f597 : AFunc := ⟨19, 1, false, [.t 2], (Sr ad5 (Sr ad4 (Sr ad3 (Rr ad2))))⟩
def amT:LO:=[Mc 2 (.int .u32 0)]
def amS:LO:=[Mv 3 0,Ca 4 186 [(.t 3), (.c (.int .i64 32))],Op 5 (.bin .sub (.c (.int .i64 32)) (.t 4)),Op 6 (.bin .shl (.c (.int .u32 4294967295)) (.t 5)),Mv 2 6]
def f183 : AFunc := ⟨7, 1, false, [.t 2], (Sr amT (Rr amS))⟩
def abM:LO:=[Op 4 (.alloc (.agg zz0))]
def abL:LO:=[Mv 7 0,Mv 8 1,Ct 9 653 [7, 8],Op 5 (.alloc (.agg zz0)),St 4 5 9]
def abK:LO:=[Mc 6 (.int .i64 0)]
def abJ:LO:=[Mv 10 0,Ct 11 625 [10]]
def abH:LO:=[Op 14 (.bin .eql (.t 11) (.c (.int .u8 42))),Mv 13 14]
def abG:LO:=[Mc 6 (.int .i64 5)]
def abF:LO:=[Op 16 (.bin .eql (.t 11) (.c (.int .u8 43))),Mv 15 16]
def abE:LO:=[Mc 6 (.int .i64 6)]
def abD:LO:=[Op 18 (.bin .eql (.t 11) (.c (.int .u8 63))),Mv 17 18]
def abC:LO:=[Mc 6 (.int .i64 7)]
def Ng:LO:=[Ls 12 4 5,St 4 4 12]
def Nf:LO:=[Mv 19 0,Nc 20 19,Fa 21 1 20,Ld 22 21,Bc 23 .add 22 1,Nc 24 19,Fa 25 1 24,St 1 25 23]
def Nd:LO:=[Mv 26 6,Ls 27 4 5,Op 28 (.bsl 4 zz0 1 [0] [(.t 27)]),Op 29 (.build zz0 [(0, 1), (3, 1)] [(.t 26), (.t 28)]),St 4 4 29]
def f646 : AFunc := ⟨30, 2, false, [.cell 4 (some 4)], (Sr abM (Sr abL (Sr abK (Sq (Sr abJ (Bk 0 (Sr abH (Cn 13 (Rg abG) (Sr abF (Cn 15 (Rg abE) (Sr abD (Cn 17 (Rg abC) (Rr Ng))))))))) (Sr Nf (Rr Nd))))))⟩
def abB:LO:=[Op 3 (.box (.t 0)),Mc 6 (.int .i64 0)]
def abA:LO:=[Mv 11 1,Bc 12 .gtr 11 16]
def abz:LO:=[Mc 6 (.int .i64 24)]
def aby:LO:=[Mv 13 2,Nc 14 13,Ld 15 14,Bc 16 .geq 15 64]
def abx:LO:=[Mc 6 (.int .i64 4)]
def abw:LO:=[Mv 17 2,Nc 18 17,Ld 19 18,Bc 20 .add 19 1,Nc 21 17,St 1 21 20]
def abv:LO:=[Ls 22 4 3,Ct 23 654 [22],Mv 7 23]
def abu:LO:=[Mv 24 7,Bc 25 .neq 24 0]
def abt:LO:=[Mv 26 7,Mv 6 26]
def abs:LO:=[Fa 27 3 3,Ld 28 27,Ln 29 0 28,Mc 30 (.int .i64 0)]
def Nb:LO:=[Bi 31 .lss 30 29]
def Na:LO:=[Ia 32 4 28 30,Ls 33 4 32,Op 9 (.alloc (.agg zz0)),St 4 9 33]
def M9:LO:=[Ls 34 4 9,Mv 35 1,Bc 36 .add 35 1,Mv 37 2,Ct 38 647 [34, 36, 37],Mv 10 38]
def M8:LO:=[Mv 39 10,Bc 40 .neq 39 0]
def M7:LO:=[Mv 41 10,Mv 6 41]
def M6:LO:=[Bc 42 .add 30 1,Mv 30 42]
def wl:ACode:=(Sr Nb (Sq (Cx 31 0) (Sq (Bk 1 (Sr Na (Sr M9 (Sr M8 (Ci 40 (Rr M7)))))) (Rg M6))))
def Ay:LO:=[Mc 6 (.int .i64 0)]
def f647 : AFunc := ⟨43, 3, false, [.t 6], (Sr abB (Sq (Sr abA (Ci 12 (Rr abz))) (Sq (Sr aby (Ci 16 (Rr abx))) (Sr abw (Sq (Sr abv (Sr abu (Ci 25 (Rr abt)))) (Sq (Sr abs (Bl 0 wl)) (Rr Ay)))))))⟩
def F7:LI:=[.inLoop wl, .inBlock 0, .code (Rr Ay)]
def abr:LO:=[Op 3 (.box (.t 1)),Mc 4 (.str [])]
def abq:LO:=[Ls 6 4 3,Ct 7 627 [6],Mv 5 7]
def abp:LO:=[Mv 8 0,Ls 9 4 3,Ct 10 655 [8, 9]]
def abo:LO:=[Mv 11 5,Op 12 (.bin .add (.c (.str [40])) (.t 11)),Op 13 (.bin .add (.t 12) (.c (.str [41]))),Mv 4 13]
def abn:LO:=[Mv 14 5,Mv 4 14]
def f648 : AFunc := ⟨15, 2, false, [.t 4], (Sr abr (Sr abq (Sq (Sr abp (Ci 10 (Rr abo))) (Rr abn))))⟩
def acz:LO:=[Mc 4 (.bool false)]
def acy:LO:=[Mv 7 0,Ln 8 0 7,Mc 9 (.int .i64 0)]
def acx:LO:=[Bi 10 .lss 9 8]
def acw:LO:=[Ia 11 1 7 9,Ld 12 11,Mv 6 12]
def acv:LO:=[Mv 13 6,Mv 14 1,Bi 15 .eql 13 14]
def acu:LO:=[Mc 4 (.bool true)]
def act:LO:=[Bc 16 .add 9 1,Mv 9 16]
def AH:ACode:=(Sr acx (Sq (Cx 10 0) (Sq (Bk 1 (Sr acw (Sr acv (Ci 15 (Rr acu))))) (Rg act))))
def Gb:LO:=[Mc 4 (.bool false)]
def f630 : AFunc := ⟨17, 2, false, [.t 4], (Sr acz (Sq (Sr acy (Bl 0 AH)) (Rr Gb)))⟩
def JP:LI:=[.inLoop AH, .inBlock 0, .code (Rr Gb)]
def am0:LO:=[Mc 4 (.int .u32 0)]
def amZ:LO:=[Mc 5 (.int .u32 0)]
def amY:LO:=[Mv 7 1,Ca 8 184 [(.t 7), (.c (.int .i64 32))],Mc 9 (.int .i64 0)]
def amX:LO:=[Bi 10 .lss 9 8]
def amW:LO:=[Mv 11 9,Mv 6 11]
def amV:LO:=[Mv 12 5,Mv 13 0,Mv 14 6,Ct 15 185 [13, 14],Cv 16 .u32 15,Mv 17 6,Op 18 (.bin .sub (.c (.int .i64 31)) (.t 17)),Cv 19 .u64 18,Bi 20 .shl 16 19,Bi 21 .or 12 20,Mv 5 21]
def amU:LO:=[Bc 22 .add 9 1,Mv 9 22]
def Db:ACode:=(Sr amX (Sq (Cx 10 0) (Sq (Bk 1 (Sr amW (Rg amV))) (Rg amU))))
def Ib:LO:=[Mv 23 5,Mv 4 23]
def f182 : AFunc := ⟨24, 2, false, [.t 4], (Sr am0 (Sr amZ (Sq (Sr amY (Bl 0 Db)) (Rr Ib))))⟩
def J7:LI:=[.inLoop Db, .inBlock 0, .code (Rr Ib)]
def acs:LO:=[Op 4 (.alloc (.agg zz0)),Mc 5 (.bool false)]
def acr:LO:=[Mc 6 (.con (.slice none 0 0))]
def acq:LO:=[Mv 10 0,Mv 11 1,Ct 12 651 [10, 11],Mv 9 12,Ex 13 9 0,Ex 14 9 1,Op 7 (.alloc (.agg zz0)),St 4 7 13,Mv 8 14]
def acp:LO:=[Mv 15 8,Un 16 .not 15]
def aco:LO:=[Op 17 (.build zz0 [] []),St 4 4 17,Mc 5 (.bool false)]
def acn:LO:=[Mv 18 6,Ls 19 4 7,Op 20 (.bsl 4 zz0 1 [0] [(.t 19)]),Ap 21 4 48 18 20,Mv 6 21]
def acm:LO:=[Mv 22 0,Ca 23 642 [(.t 22), (.c (.int .u8 32))],Un 24 .not 23]
def AE:ACode:=(Bk 1 (Sr acq (Sq (Sr acp (Ci 16 (Rr aco))) (Sr acn (Sr acm (Cn 24 (Xt 0) Sk))))))
def Ga:LO:=[Mv 25 6,Ln 26 0 25,Bc 27 .eql 26 1]
def F9:LO:=[Mv 28 6,Op 29 (.iadr 4 (.t 28) (.c (.int .i64 0))),Ls 30 4 29,St 4 4 30,Mc 5 (.bool true)]
def AG:LO:=[Mv 31 6,Op 32 (.build zz0 [(0, 1), (3, 1)] [(.c (.int .i64 3)), (.t 31)]),St 4 4 32,Mc 5 (.bool true)]
def f641 : AFunc := ⟨33, 2, false, [.cell 4 (some 4), .t 5], (Sr acs (Sr acr (Sq (Bl 0 AE) (Sq (Sr Ga (Ci 27 (Rr F9))) (Rr AG)))))⟩
def JO:LI:=[.inLoop AE, .inBlock 0, .code (Sq (Sr Ga (Ci 27 (Rr F9))) (Rr AG))]
def acl:LO:=[Mc 4 (.bool false)]
def ack:LO:=[Mv 5 0,Nc 6 5,Fa 7 1 6,Ld 8 7,Mv 9 0,Nc 10 9,Fa 11 0 10,Ld 12 11,Af [7] (Ln 13 1 12),Bi 14 .lss 8 13,Mv 15 14,Gt 15 (Mv 16 0),Gt 15 (Nc 17 16),Gt 15 (Fa 18 0 17),Af [3, 8, 7] (Gt 15 (Ld 19 18)),Gt 15 (Mv 20 0),Gt 15 (Nc 21 20),Gt 15 (Fa 22 1 21),Af [3, 8, 7] (Gt 15 (Ld 23 22)),Gt 15 (Op 24 (.istr (.t 19) (.t 23))),Gt 15 (Mv 25 1),Gt 15 (Bi 26 .eql 24 25),Pa 27 15 26]
def acj:LO:=[Mv 28 0,Nc 29 28,Fa 30 1 29,Ld 31 30,Bc 32 .add 31 1,Nc 33 28,Fa 34 1 33,St 1 34 32]
def aci:LO:=[Mc 4 (.bool true)]
def ach:LO:=[Mc 4 (.bool false)]
def f642 : AFunc := ⟨35, 2, false, [.t 4], (Sr acl (Sq (Sq (Rd ack) (Cn 27 (Sr acj (Rr aci)) Sk)) (Rr ach)))⟩
def acg:LO:=[Op 3 (.box (.t 0)),Mc 6 (.int .i64 0),Mc 7 (.int .i64 0)]
def acf:LO:=[Mv 13 1,Bc 14 .gtr 13 16]
def ace:LO:=[Mv 15 2,Mv 6 15,Mc 7 (.int .i64 24)]
def acd:LO:=[Mv 16 2,Bc 17 .geq 16 64]
def acb:LO:=[Mv 18 2,Mv 6 18,Mc 7 (.int .i64 4)]
def aca:LO:=[Ls 19 4 3,Ct 20 652 [19],Mv 8 20]
def ab9:LO:=[Mv 21 8,Bc 22 .neq 21 0]
def ab8:LO:=[Mv 23 2,Mv 24 8,Mv 6 23,Mv 7 24]
def ab7:LO:=[Mv 25 2,Bc 26 .add 25 1,Mv 2 26]
def ab6:LO:=[Fa 27 3 3,Ld 28 27,Ln 29 0 28,Mc 30 (.int .i64 0)]
def Ns:LO:=[Bi 31 .lss 30 29]
def Nr:LO:=[Ia 32 4 28 30,Ls 33 4 32,Op 10 (.alloc (.agg zz0)),St 4 10 33]
def Nq:LO:=[Ls 35 4 10,Mv 36 1,Bc 37 .add 36 1,Mv 38 2,Ct 39 643 [35, 37, 38],Mv 34 39,Ex 40 34 0,Ex 41 34 1,Mv 11 40,Mv 12 41]
def Nn:LO:=[Mv 42 12,Bc 43 .neq 42 0]
def Nl:LO:=[Mv 44 11,Mv 45 12,Mv 6 44,Mv 7 45]
def Nk:LO:=[Mv 46 11,Mv 2 46]
def Nj:LO:=[Bc 47 .add 30 1,Mv 30 47]
def wm:ACode:=(Sr Ns (Sq (Cx 31 0) (Sq (Bk 1 (Sr Nr (Sr Nq (Sq (Sr Nn (Ci 43 (Rr Nl))) (Rg Nk))))) (Rg Nj))))
def AB:LO:=[Mv 48 2,Mv 6 48,Mc 7 (.int .i64 0)]
def f643 : AFunc := ⟨49, 3, false, [.t 6, .t 7], (Sr acg (Sq (Sr acf (Ci 14 (Rr ace))) (Sq (Sr acd (Ci 17 (Rr acb))) (Sq (Sr aca (Sr ab9 (Ci 22 (Rr ab8)))) (Sr ab7 (Sq (Sr ab6 (Bl 0 wm)) (Rr AB)))))))⟩
def F8:LI:=[.inLoop wm, .inBlock 0, .code (Rr AB)]
def ab5:LO:=[Op 2 (.box (.t 0)),Op 3 (.box (.t 1)),Mc 4 (.bool false)]
def ab4:LO:=[Fa 6 0 2,Ld 7 6,Bc 8 .eql 7 5,Mv 9 8,Gf 9 (Fa 10 0 2),Gf 9 (Ld 11 10),Gf 9 (Bc 12 .eql 11 6),Po 13 9 12,Mv 14 13,Gf 14 (Fa 15 0 2),Gf 14 (Ld 16 15),Gf 14 (Bc 17 .eql 16 7),Po 18 14 17,Mv 5 18]
def ab3:LO:=[Fa 19 0 3,Ld 20 19]
def ab2:LO:=[Bc 22 .eql 20 3,Mv 21 22]
def ab1:LO:=[Fa 23 0 2,Ld 24 23,Bc 25 .neq 24 4,Mv 4 25]
def ab0:LO:=[Bc 27 .eql 20 4,Mv 26 27]
def abZ:LO:=[Fa 28 3 3,Ld 29 28,Ln 30 0 29,Bc 31 .gtr 30 0,Mv 4 31]
def abY:LO:=[Bc 33 .eql 20 5,Mv 32 33]
def abX:LO:=[Bc 34 .eql 20 6,Mv 32 34]
def abW:LO:=[Bc 35 .eql 20 7,Mv 32 35]
def Ni:LO:=[Mv 36 5,Mv 4 36]
def Nh:LO:=[Mc 4 (.bool false)]
def f644 : AFunc := ⟨37, 2, false, [.t 4], (Sr ab5 (Sr ab4 (Sq (Sr ab3 (Bk 0 (Sr ab2 (Cn 21 (Rr ab1) (Sr ab0 (Cn 26 (Rr abZ) (Sq (Sr abY (Cn 32 Sk (Sr abX (Cn 32 Sk (Rg abW))))) (Ci 32 (Rr Ni))))))))) (Rr Nh))))⟩
def abV:LO:=[Mc 4 (.str [])]
def abU:LO:=[Mc 5 (.str [])]
def abT:LO:=[Mv 8 0,Ln 9 0 8,Mc 10 (.int .i64 0)]
def abS:LO:=[Bi 11 .lss 10 9]
def abR:LO:=[Mv 12 10,Ia 13 1 8 10,Ld 14 13,Mv 6 12,Mv 7 14]
def abQ:LO:=[Mv 15 6,Bc 16 .gtr 15 0]
def abP:LO:=[Mv 17 5,Mv 18 1,Bi 19 .add 17 18,Mv 5 19]
def abO:LO:=[Mv 20 5,Mv 21 7,Bi 22 .add 20 21,Mv 5 22]
def abN:LO:=[Bc 23 .add 10 1,Mv 10 23]
def Az:ACode:=(Sr abS (Sq (Cx 11 0) (Sq (Bk 1 (Sr abR (Sq (Sr abQ (Cn 16 (Rg abP) Sk)) (Rg abO)))) (Rg abN))))
def AA:LO:=[Mv 24 5,Mv 4 24]
def f645 : AFunc := ⟨25, 2, false, [.t 4], (Sr abV (Sr abU (Sq (Sr abT (Bl 0 Az)) (Rr AA))))⟩
def JN:LI:=[.inLoop Az, .inBlock 0, .code (Rr AA)]
def alk:LO:=[Mc 2 (.con (.slice none 0 0)),Mc 3 (.int .i64 0)]
def alj:LO:=[Mv 7 0,Op 8 (.bin .eql (.t 7) (.c (.str [])))]
def ali:LO:=[Mc 2 (.con (.slice none 0 0)),Mc 3 (.int .i64 0)]
def alh:LO:=[Mv 9 0,Ca 10 345 [(.t 9), (.c (.str [10]))]]
def alg:LO:=[Mc 2 (.con (.slice none 0 0)),Mc 3 (.int .i64 2)]
def alf:LO:=[Mv 11 0,Ca 12 249 [(.t 11), (.c (.str [32]))],Mv 4 12]
def ale:LO:=[Mv 13 4,Ln 14 0 13,Mc 15 (.int .i64 0)]
def ald:LO:=[Bi 16 .lss 15 14]
def alc:LO:=[Ia 17 1 13 15,Ld 18 17,Mv 6 18]
def alb:LO:=[Mv 19 6,Op 20 (.bin .eql (.t 19) (.c (.str [])))]
def Vu:LO:=[Mc 2 (.con (.slice none 0 0)),Mc 3 (.int .i64 2)]
def Vt:LO:=[Bc 21 .add 15 1,Mv 15 21]
def wO:ACode:=(Sr ald (Sq (Cx 16 0) (Sq (Bk 1 (Sr alc (Sr alb (Ci 20 (Rr Vu))))) (Rg Vt))))
def CY:LO:=[Mv 22 4,Mv 2 22,Mc 3 (.int .i64 0)]
def f339 : AFunc := ⟨23, 1, false, [.t 2, .t 3], (Sr alk (Sq (Sr alj (Ci 8 (Rr ali))) (Sq (Sr alh (Ci 10 (Rr alg))) (Sr alf (Sq (Sr ale (Bl 0 wO)) (Rr CY))))))⟩
def amo:LO:=[Op 2 (.alloc (.agg zz8)),Mc 3 (.int .i64 0)]
def amn:LO:=[Mv 13 0,Ca 14 252 [(.t 13), (.c (.str [47]))],Mv 12 14,Ex 15 12 0,Ex 16 12 1,Ex 17 12 2,Mv 4 15,Mv 5 16,Mv 6 17]
def amm:LO:=[Mv 19 4,Ct 20 231 [19],Mv 18 20,Ex 21 18 0,Ex 22 18 1,Mv 7 21,Mv 8 22]
def aml:LO:=[Mv 24 5,Ca 25 250 [(.t 24), (.c (.int .i64 32))],Mv 23 25,Ex 26 23 0,Ex 27 23 1,Mv 9 26,Mv 10 27]
def amk:LO:=[Mv 28 6,Un 29 .not 28,Mv 30 29,Gf 30 (Mv 31 8),Gf 30 (Bc 32 .neq 31 0),Po 33 30 32,Mv 34 33,Gf 34 (Mv 35 10),Gf 34 (Un 36 .not 35),Po 37 34 36]
def amj:LO:=[Op 38 (.build zz8 [] []),St 2 2 38,Mc 3 (.int .i64 2)]
def ami:LO:=[Mv 39 7,Mv 40 9,Op 41 (.build zz8 [(0, 1), (1, 1)] [(.t 39), (.t 40)]),Op 11 (.alloc (.agg zz8)),St 2 11 41]
def amh:LO:=[Ls 42 2 11,Ct 43 178 [42],Un 44 .not 43]
def amg:LO:=[Op 45 (.build zz8 [] []),St 2 2 45,Mc 3 (.int .i64 1)]
def amf:LO:=[Ls 46 2 11,St 2 2 46,Mc 3 (.int .i64 0)]
def f233 : AFunc := ⟨47, 1, false, [.cell 2 (some 2), .t 3], (Sr amo (Sr amn (Sr amm (Sr aml (Sq (Sr amk (Ci 37 (Rr amj))) (Sr ami (Sq (Sr amh (Ci 44 (Rr amg))) (Rr amf))))))))⟩
def ala:LO:=[Mc 2 (.int .i64 0),Mc 3 (.int .i64 0),Mc 4 (.bool false)]
def ak9:LO:=[Mv 10 0,Ln 11 1 10,Mc 12 (.int .i64 0)]
def ak8:LO:=[Bi 13 .lss 12 11]
def ak7:LO:=[Mv 14 12,Mv 5 14]
def ak6:LO:=[Mv 15 0,Mv 16 5,Op 17 (.istr (.t 15) (.t 16)),Op 18 (.bin .eql (.t 17) (.c (.int .u8 45)))]
def ak5:LO:=[Mv 20 0,Mv 21 5,Op 22 (.slstr (.t 20) none (some (.t 21))),Ca 23 346 [(.t 22), (.c (.int .i64 32))],Mv 19 23,Ex 24 19 0,Ex 25 19 1,Mv 6 24,Mv 7 25]
def ak4:LO:=[Mv 27 0,Mv 28 5,Bc 29 .add 28 1,Op 30 (.slstr (.t 27) (some (.t 29)) none),Ca 31 346 [(.t 30), (.c (.int .i64 32))],Mv 26 31,Ex 32 26 0,Ex 33 26 1,Mv 8 32,Mv 9 33]
def ak3:LO:=[Mv 34 6,Mv 35 8,Mv 36 7,Bc 37 .eql 36 0,Mv 38 37,Gt 38 (Mv 39 9),Gt 38 (Bc 40 .eql 39 0),Pa 41 38 40,Mv 2 34,Mv 3 35,Mv 4 41]
def ak2:LO:=[Bc 42 .add 12 1,Mv 12 42]
def CW:ACode:=(Sr ak8 (Sq (Cx 13 0) (Sq (Bk 1 (Sr ak7 (Sr ak6 (Cn 18 (Sr ak5 (Sr ak4 (Rr ak3))) Sk)))) (Rg ak2))))
def CX:LO:=[Mc 2 (.int .i64 0),Mc 3 (.int .i64 0),Mc 4 (.bool false)]
def f340 : AFunc := ⟨43, 1, false, [.t 2, .t 3, .t 4], (Sr ala (Sq (Sr ak9 (Bl 0 CW)) (Rr CX)))⟩
def acE:LO:=[Mc 2 (.int .i64 0)]
def acD:LO:=[Mv 6 0,Ca 7 346 [(.t 6), (.c (.int .i64 4294967295))],Mv 5 7,Ex 8 5 0,Ex 9 5 1,Mv 3 8,Mv 4 9]
def acB:LO:=[Mv 10 4,Bc 11 .eql 10 0,Ct 12 586 [11]]
def acA:LO:=[Mv 13 3,Mv 2 13]
def f629 : AFunc := ⟨14, 1, false, [.t 2], (Sr acE (Sr acD (Sr acB (Rr acA))))⟩
def amy:LO:=[Mc 2 (.int .u32 0),Mc 3 (.int .i64 0)]
def amx:LO:=[Mv 10 0,Ca 11 249 [(.t 10), (.c (.str [46]))],Mv 4 11]
def amw:LO:=[Mv 12 4,Ln 13 0 12,Bc 14 .neq 13 4]
def amv:LO:=[Mc 2 (.int .u32 0),Mc 3 (.int .i64 2)]
def amu:LO:=[Mc 5 (.int .u32 0)]
def amt:LO:=[Mv 15 4,Ln 16 0 15,Mc 17 (.int .i64 0)]
def ams:LO:=[Bi 18 .lss 17 16]
def amr:LO:=[Ia 19 1 15 17,Ld 20 19,Mv 7 20]
def amq:LO:=[Mv 22 7,Ca 23 250 [(.t 22), (.c (.int .i64 255))],Mv 21 23,Ex 24 21 0,Ex 25 21 1,Mv 8 24,Mv 9 25]
def amp:LO:=[Mv 26 9,Un 27 .not 26]
def VQ:LO:=[Mc 2 (.int .u32 0),Mc 3 (.int .i64 2)]
def VP:LO:=[Mv 28 5,Op 29 (.bin .shl (.t 28) (.c (.int .u64 8))),Mv 30 8,Cv 31 .u32 30,Bi 32 .or 29 31,Mv 5 32]
def VO:LO:=[Bc 33 .add 17 1,Mv 17 33]
def wQ:ACode:=(Sr ams (Sq (Cx 18 0) (Sq (Bk 1 (Sr amr (Sr amq (Sq (Sr amp (Ci 27 (Rr VQ))) (Rg VP))))) (Rg VO))))
def CZ:LO:=[Mv 34 5,Mv 2 34,Mc 3 (.int .i64 0)]
def f231 : AFunc := ⟨35, 1, false, [.t 2, .t 3], (Sr amy (Sr amx (Sq (Sr amw (Ci 14 (Rr amv))) (Sr amu (Sq (Sr amt (Bl 0 wQ)) (Rr CZ))))))⟩
def amL:LO:=[Mc 4 (.int .i64 0)]
def amK:LO:=[Mv 5 0,Op 6 (.minmax true [(.t 5), (.c (.int .i64 0))]),Mv 7 1,Op 8 (.minmax false [(.t 6), (.t 7)]),Mv 4 8]
def f186 : AFunc := ⟨9, 2, false, [.t 4], (Sr amL (Rr amK))⟩
def aa1:LO:=[Op 4 (.alloc (.agg zz0))]
def aa0:LO:=[Mv 9 0,Ct 10 625 [9]]
def aaZ:LO:=[Op 12 (.bin .eql (.t 10) (.c (.int .u8 46))),Mv 11 12]
def aaY:LO:=[Mv 13 0,Nc 14 13,Fa 15 1 14,Ld 16 15,Bc 17 .add 16 1,Nc 18 13,Fa 19 1 18,St 1 19 17]
def aaX:LO:=[Op 20 (.build zz0 [(0, 1)] [(.c (.int .i64 2))]),St 4 4 20]
def aaW:LO:=[Op 22 (.bin .eql (.t 10) (.c (.int .u8 33))),Mv 21 22]
def aaV:LO:=[Mv 23 0,Nc 24 23,Fa 25 1 24,Ld 26 25,Bc 27 .add 26 1,Nc 28 23,Fa 29 1 28,St 1 29 27]
def aaU:LO:=[Op 30 (.build zz0 [(0, 1)] [(.c (.int .i64 4))]),St 4 4 30]
def aaT:LO:=[Op 32 (.bin .eql (.t 10) (.c (.int .u8 91))),Mv 31 32]
def aaS:LO:=[Mv 33 0,Nc 34 33,Fa 35 1 34,Ld 36 35,Bc 37 .add 36 1,Nc 38 33,Fa 39 1 38,St 1 39 37]
def Mz:LO:=[Mv 40 0,Ct 41 657 [40],Mv 5 41]
def My:LO:=[Mv 42 0,Ca 43 658 [(.t 42), (.c (.int .u8 45))]]
def Mw:LO:=[Mv 44 0,Ct 45 657 [44],Mv 6 45]
def Mu:LO:=[Mv 46 0,Ca 47 658 [(.t 46), (.c (.int .u8 93))]]
def Mt:LO:=[Mv 48 5,Mv 49 6,Op 50 (.build zz0 [(0, 1), (1, 1), (2, 1)] [(.c (.int .i64 1)), (.t 48), (.t 49)]),St 4 4 50]
def Mr:LO:=[Op 52 (.bin .eql (.t 10) (.c (.int .u8 40))),Mv 51 52]
def Mq:LO:=[Mv 53 0,Nc 54 53,Fa 55 1 54,Ld 56 55,Bc 57 .add 56 1,Nc 58 53,Fa 59 1 58,St 1 59 57]
def Mo:LO:=[Mv 60 0,Ct 61 625 [60],Op 62 (.bin .eql (.t 61) (.c (.int .u8 41)))]
def Mn:LO:=[Mv 63 0,Nc 64 63,Fa 65 1 64,Ld 66 65,Bc 67 .add 66 1,Nc 68 63,Fa 69 1 68,St 1 69 67]
def Ml:LO:=[Op 70 (.build zz0 [] []),St 4 4 70]
def Mj:LO:=[Mv 71 0,Mv 72 1,Bc 73 .add 72 1,Ct 74 579 [71, 73],Op 7 (.alloc (.agg zz0)),St 4 7 74]
def Mi:LO:=[Mv 75 0,Ca 76 658 [(.t 75), (.c (.int .u8 41))]]
def Mh:LO:=[Ls 77 4 7,St 4 4 77]
def Mg:LO:=[Mv 78 0,Ct 79 657 [78],Mv 8 79]
def Mf:LO:=[Mv 80 8,Mv 81 8,Op 82 (.build zz0 [(0, 1), (1, 1), (2, 1)] [(.c (.int .i64 1)), (.t 80), (.t 81)]),St 4 4 82]
def f653 : AFunc := ⟨83, 2, false, [.cell 4 (some 4)], (Sr aa1 (Sq (Sr aa0 (Bk 0 (Sr aaZ (Cn 11 (Sr aaY (Rr aaX)) (Sr aaW (Cn 21 (Sr aaV (Rr aaU)) (Sr aaT (Cn 31 (Sr aaS (Sr Mz (Sr My (Sr Mw (Sr Mu (Rr Mt)))))) (Sr Mr (Cn 51 (Sr Mq (Sq (Sr Mo (Cn 62 (Sr Mn (Rr Ml)) Sk)) (Sr Mj (Sr Mi (Rr Mh))))) Sk)))))))))) (Sr Mg (Rr Mf))))⟩
def aaR:LO:=[Op 1 (.box (.t 0)),Mc 2 (.int .i64 0)]
def aaQ:LO:=[Fa 6 0 1,Ld 7 6,Fa 8 3 1,Ld 9 8,Ln 10 0 9,Ct 11 659 [7, 10],Mv 5 11,Ex 12 5 0,Ex 13 5 1,Mv 3 12,Mv 4 13]
def aaP:LO:=[Mv 15 3,Un 16 .not 15,Mv 14 16]
def aaO:LO:=[Mc 2 (.int .i64 15)]
def aaN:LO:=[Fa 18 0 1,Ld 19 18,Bc 20 .eql 19 1,Mv 21 20,Gt 21 (Fa 22 1 1),Gt 21 (Ld 23 22),Gt 21 (Bc 24 .lss 23 0),Gt 21 (Mv 25 24),Gf 25 (Fa 26 1 1),Gf 25 (Ld 27 26),Gf 25 (Fa 28 2 1),Gf 25 (Ld 29 28),Gf 25 (Bi 30 .gtr 27 29),Gt 21 (Po 31 25 30),Gt 21 (Mv 32 31),Gf 32 (Fa 33 2 1),Gf 32 (Ld 34 33),Gf 32 (Bc 35 .gtr 34 4294967295),Gt 21 (Po 36 32 35),Pa 37 21 36,Mv 17 37]
def aaM:LO:=[Mc 2 (.int .i64 5)]
def aaL:LO:=[Fa 39 0 1,Ld 40 39,Bc 41 .neq 40 1,Mv 42 41,Gt 42 (Fa 43 1 1),Gt 42 (Ld 44 43),Gt 42 (Bc 45 .neq 44 0),Gt 42 (Mv 46 45),Gf 46 (Fa 47 2 1),Gf 46 (Ld 48 47),Gf 46 (Bc 49 .neq 48 0),Gt 42 (Po 50 46 49),Pa 51 42 50,Mv 38 51]
def aaK:LO:=[Mv 52 4,Un 53 .not 52,Mv 38 53]
def aaJ:LO:=[Mc 2 (.int .i64 1)]
def aaI:LO:=[Mc 2 (.int .i64 0)]
def f654 : AFunc := ⟨54, 1, false, [.t 2], (Sr aaR (Sr aaQ (Sq (Bk 0 (Sr aaP (Cn 14 (Rr aaO) (Sr aaN (Cn 17 (Rr aaM) (Sq (Sr aaL (Cn 38 Sk (Rg aaK))) (Ci 38 (Rr aaJ)))))))) (Rr aaI))))⟩
def aaH:LO:=[Op 3 (.box (.t 1)),Mc 4 (.bool false)]
def aaG:LO:=[Fa 6 0 3,Ld 7 6,Bc 8 .eql 7 4,Mv 5 8]
def aaF:LO:=[Fa 9 3 3,Ld 10 9,Ln 11 0 10,Bc 12 .gtr 11 0,Mv 4 12]
def aaE:LO:=[Fa 14 0 3,Ld 15 14,Bc 16 .eql 15 3,Mv 13 16]
def aaD:LO:=[Mv 17 0,Bc 18 .neq 17 4,Mv 4 18]
def aaC:LO:=[Fa 19 0 3,Ld 20 19,Ct 21 660 [20],Mv 22 21,Gt 22 (Mv 23 0),Gt 22 (Ct 24 660 [23]),Pa 25 22 24,Mv 4 25]
def f655 : AFunc := ⟨26, 2, false, [.t 4], (Sr aaH (Sq (Bk 0 (Sr aaG (Cn 5 (Rr aaF) (Sr aaE (Ci 13 (Rr aaD)))))) (Rr aaC)))⟩
def amR:LO:=[Mc 4 (.int .i64 0)]
def amQ:LO:=[Mv 5 0,Op 6 (.minmax true [(.t 5), (.c (.int .i64 0))]),Mv 7 1,Op 8 (.minmax false [(.t 6), (.t 7)]),Mv 4 8]
def f184 : AFunc := ⟨9, 2, false, [.t 4], (Sr amR (Rr amQ))⟩
def amP:LO:=[Mc 4 (.int .i64 0)]
def amO:LO:=[Mv 5 1,Bc 6 .lss 5 0,Mv 7 6,Gf 7 (Mv 8 1),Gf 7 (Bc 9 .gtr 8 31),Po 10 7 9]
def amN:LO:=[Mc 4 (.int .i64 0)]
def amM:LO:=[Mv 11 0,Mv 12 1,Op 13 (.bin .sub (.c (.int .i64 31)) (.t 12)),Cv 14 .u64 13,Bi 15 .shr 11 14,Op 16 (.bin .and (.t 15) (.c (.int .u32 1))),Cv 17 .i64 16,Mv 4 17]
def f185 : AFunc := ⟨18, 2, false, [.t 4], (Sr amP (Sq (Sr amO (Ci 10 (Rr amN))) (Rr amM)))⟩
def abm:LO:=[Op 4 (.alloc (.agg zz0)),Mc 5 (.bool false)]
def abl:LO:=[Mv 10 0,Mv 11 1,Ct 12 656 [10, 11],Mv 9 12,Ex 13 9 0,Ex 14 9 1,Op 6 (.alloc (.agg zz0)),St 4 6 13,Mv 7 14]
def abk:LO:=[Mc 8 (.int .i64 (-1))]
def abj:LO:=[Mv 16 7,Un 17 .not 16,Mv 15 17]
def abh:LO:=[Ls 18 4 6,St 4 4 18,Mc 5 (.bool false)]
def abg:LO:=[Mv 20 0,Ca 21 642 [(.t 20), (.c (.int .u8 42))],Mv 19 21]
def abf:LO:=[Mc 8 (.int .i64 5)]
def abe:LO:=[Mv 23 0,Ca 24 642 [(.t 23), (.c (.int .u8 43))],Mv 22 24]
def abd:LO:=[Mc 8 (.int .i64 6)]
def abc:LO:=[Mv 26 0,Ca 27 642 [(.t 26), (.c (.int .u8 63))],Mv 25 27]
def M5:LO:=[Mc 8 (.int .i64 7)]
def M0:LO:=[Mv 28 8,Bc 29 .lss 28 0]
def MZ:LO:=[Ls 30 4 6,St 4 4 30,Mc 5 (.bool true)]
def MY:LO:=[Mv 31 8,Ls 32 4 6,Op 33 (.bsl 4 zz0 1 [0] [(.t 32)]),Op 34 (.build zz0 [(0, 1), (3, 1)] [(.t 31), (.t 33)]),St 4 4 34,Mc 5 (.bool true)]
def f651 : AFunc := ⟨35, 2, false, [.cell 4 (some 4), .t 5], (Sr abm (Sr abl (Sr abk (Sq (Bk 0 (Sr abj (Cn 15 (Rr abh) (Sr abg (Cn 19 (Rg abf) (Sr abe (Cn 22 (Rg abd) (Sr abc (Cn 25 (Rg M5) Sk))))))))) (Sq (Sr M0 (Ci 29 (Rr MZ))) (Rr MY))))))⟩
def abb:LO:=[Op 1 (.box (.t 0)),Mc 2 (.int .i64 0)]
def aba:LO:=[Fa 4 3 1,Ld 5 4,Ln 6 0 5,Mv 3 6]
def aa9:LO:=[Fa 7 0 1,Ld 8 7]
def aa8:LO:=[Bc 10 .eql 8 1,Mv 9 10]
def aa7:LO:=[Fa 11 1 1,Ld 12 11,Bc 13 .lss 12 0,Mv 14 13,Gf 14 (Fa 15 1 1),Gf 14 (Ld 16 15),Gf 14 (Fa 17 2 1),Gf 14 (Ld 18 17),Gf 14 (Bi 19 .gtr 16 18),Po 20 14 19,Mv 21 20,Gf 21 (Fa 22 2 1),Gf 21 (Ld 23 22),Gf 21 (Bc 24 .gtr 23 4294967295),Po 25 21 24]
def aa6:LO:=[Mc 2 (.int .i64 5)]
def aa5:LO:=[Mv 26 3,Bc 27 .gtr 26 0]
def aa4:LO:=[Mc 2 (.int .i64 1)]
def aa3:LO:=[Mc 2 (.int .i64 0)]
def aa2:LO:=[Bc 29 .eql 8 0,Mv 28 29]
def MW:LO:=[Bc 30 .eql 8 2,Mv 28 30]
def MU:LO:=[Mv 31 3,Bc 32 .gtr 31 0]
def MT:LO:=[Mc 2 (.int .i64 1)]
def MR:LO:=[Bc 34 .eql 8 3,Mv 33 34]
def MQ:LO:=[Mv 35 3,Bc 36 .lss 35 2]
def MO:LO:=[Mc 2 (.int .i64 1)]
def MN:LO:=[Bc 38 .eql 8 4,Mv 37 38]
def ML:LO:=[Mv 39 3,Bc 40 .eql 39 1]
def MJ:LO:=[Mc 2 (.int .i64 1)]
def MI:LO:=[Bc 42 .eql 8 5,Mv 41 42]
def MH:LO:=[Bc 43 .eql 8 6,Mv 41 43]
def MG:LO:=[Bc 44 .eql 8 7,Mv 41 44]
def MF:LO:=[Mv 45 3,Bc 46 .neq 45 1]
def ME:LO:=[Mc 2 (.int .i64 1)]
def MD:LO:=[Mc 2 (.int .i64 15)]
def MC:LO:=[Fa 47 1 1,Ld 48 47,Bc 49 .neq 48 0,Mv 50 49,Gf 50 (Fa 51 2 1),Gf 50 (Ld 52 51),Gf 50 (Bc 53 .neq 52 0),Po 54 50 53]
def MB:LO:=[Mc 2 (.int .i64 1)]
def MA:LO:=[Mc 2 (.int .i64 0)]
def f652 : AFunc := ⟨55, 1, false, [.t 2], (Sr abb (Sr aba (Sq (Sr aa9 (Bk 0 (Sr aa8 (Cn 9 (Sq (Sr aa7 (Ci 25 (Rr aa6))) (Sq (Sr aa5 (Ci 27 (Rr aa4))) (Rr aa3))) (Sq (Sr aa2 (Cn 28 Sk (Rg MW))) (Cn 28 (Sr MU (Ci 32 (Rr MT))) (Sr MR (Cn 33 (Sr MQ (Ci 36 (Rr MO))) (Sr MN (Cn 37 (Sr ML (Ci 40 (Rr MJ))) (Sq (Sr MI (Cn 41 Sk (Sr MH (Cn 41 Sk (Rg MG))))) (Cn 41 (Sr MF (Ci 46 (Rr ME))) (Rr MD))))))))))))) (Sq (Sr MC (Ci 54 (Rr MB))) (Rr MA)))))⟩
def ama:LO:=[Mc 4 (.int .i64 0),Mc 5 (.bool false)]
def al9:LO:=[Mv 9 0,Ct 10 263 [9],Mv 8 10,Ex 11 8 0,Ex 12 8 1,Mv 6 11,Mv 7 12]
def al8:LO:=[Mv 13 6,Mv 14 7,Op 15 (.eqn .iface false (.t 14) (.c (.con (.nilIface)))),Mv 16 15,Gt 16 (Mv 17 6),Gt 16 (Bc 18 .geq 17 0),Pa 19 16 18,Mv 20 19,Gt 20 (Mv 21 6),Gt 20 (Mv 22 1),Gt 20 (Bi 23 .leq 21 22),Pa 24 20 23,Mv 25 24,Gt 25 (Mv 26 6),Gt 25 (Ct 27 246 [26]),Gt 25 (Mv 28 0),Gt 25 (Bi 29 .eql 27 28),Pa 30 25 29,Mv 4 13,Mv 5 30]
def f250 : AFunc := ⟨31, 2, false, [.t 4, .t 5], (Sr ama (Sr al9 (Rr al8)))⟩
def akU:LO:=[Mc 4 (.int .i64 0),Mc 5 (.int .i64 0)]
def akT:LO:=[Mv 9 0,Ct 10 347 [9],Un 11 .not 10]
def akS:LO:=[Mc 4 (.int .i64 0),Mc 5 (.int .i64 2)]
def akR:LO:=[Mc 6 (.int .i64 0)]
def akQ:LO:=[Mv 12 0,Ln 13 1 12,Mc 14 (.int .i64 0)]
def akP:LO:=[Bi 15 .lss 14 13]
def akO:LO:=[Mv 16 14,Mv 7 16]
def akN:LO:=[Mv 17 0,Mv 18 7,Op 19 (.istr (.t 17) (.t 18)),Op 20 (.bin .sub (.t 19) (.c (.int .u8 48))),Cv 21 .i64 20,Mv 8 21]
def akM:LO:=[Mv 22 6,Mv 23 8,Op 24 (.bin .sub (.c (.int .i64 9223372036854775807)) (.t 23)),Bc 25 .quo 24 10,Bi 26 .gtr 22 25]
def akL:LO:=[Mc 4 (.int .i64 0),Mc 5 (.int .i64 5)]
def Vr:LO:=[Mv 27 6,Op 28 (.bin .mul (.c (.int .i64 10)) (.t 27)),Mv 29 8,Bi 30 .add 28 29,Mv 6 30]
def Vq:LO:=[Bc 31 .add 14 1,Mv 14 31]
def wN:ACode:=(Sr akP (Sq (Cx 15 0) (Sq (Bk 1 (Sr akO (Sr akN (Sq (Sr akM (Ci 26 (Rr akL))) (Rg Vr))))) (Rg Vq))))
def CU:LO:=[Mv 32 6,Mv 33 1,Bi 34 .gtr 32 33]
def CR:LO:=[Mc 4 (.int .i64 0),Mc 5 (.int .i64 5)]
def CQ:LO:=[Mv 35 6,Mv 4 35,Mc 5 (.int .i64 0)]
def f346 : AFunc := ⟨36, 2, false, [.t 4, .t 5], (Sr akU (Sq (Sr akT (Ci 11 (Rr akS))) (Sr akR (Sq (Sr akQ (Bl 0 wN)) (Sq (Sr CU (Ci 34 (Rr CR))) (Rr CQ))))))⟩
def G9:LI:=[.inLoop wN, .inBlock 0, .code (Sq (Sr CU (Ci 34 (Rr CR))) (Rr CQ))]
def aar:LO:=[Mc 2 (.int .i64 0)]
def aaq:LO:=[Mv 6 0,Nc 7 6,Fa 8 1 7,Ld 9 8,Mv 3 9]
def aap:LO:=[Mv 10 0,Ct 11 625 [10],Op 12 (.bin .geq (.t 11) (.c (.int .u8 48))),Mv 13 12,Gt 13 (Mv 14 0),Gt 13 (Ct 15 625 [14]),Gt 13 (Op 16 (.bin .leq (.t 15) (.c (.int .u8 57)))),Pa 17 13 16]
def aao:LO:=[Mv 18 0,Nc 19 18,Fa 20 1 19,Ld 21 20,Bc 22 .add 21 1,Nc 23 18,Fa 24 1 23,St 1 24 22]
def Ax:ACode:=(Sq (Sr aap (Cx 17 0)) (Bk 1 (Rg aao)))
def F6:LO:=[Mv 26 0,Nc 27 26,Fa 28 0 27,Ld 29 28,Mv 30 3,Mv 31 0,Nc 32 31,Fa 33 1 32,Ld 34 33,Op 35 (.slstr (.t 29) (some (.t 30)) (some (.t 34))),Af [3, 8] (Ca 36 346 [(.t 35), (.c (.int .i64 4294967295))]),Mv 25 36,Ex 37 25 0,Ex 38 25 1,Mv 4 37,Mv 5 38]
def F5:LO:=[Mv 39 5,Bc 40 .neq 39 0]
def F4:LO:=[Op 41 (.build [] [] []),Op 42 (.mkifc 129 (.t 41)),⟨none, .panic (.t 42), none, []⟩]
def FY:LO:=[Mv 43 4,Mv 2 43]
def f657 : AFunc := ⟨44, 1, false, [.t 2], (Sr aar (Sr aaq (Sq (Bl 0 Ax) (Sq (Rd F6) (Sq (Sr F5 (Cn 40 (Rg F4) Sk)) (Rr FY))))))⟩
def JM:LI:=[.inLoop Ax, .inBlock 0, .code (Sq (Rd F6) (Sq (Sr F5 (Cn 40 (Rg F4) Sk)) (Rr FY)))]
def aan:LO:=[Mv 4 0,Ct 5 625 [4],Mv 6 1,Bi 7 .neq 5 6]
def aam:LO:=[Op 8 (.build [] [] []),Op 9 (.mkifc 129 (.t 8)),⟨none, .panic (.t 9), none, []⟩]
def aal:LO:=[Mv 10 0,Nc 11 10,Fa 12 1 11,Ld 13 12,Bc 14 .add 13 1,Nc 15 10,Fa 16 1 15,St 1 16 14]
def f658 : AFunc := ⟨17, 2, false, [], (Sq (Sr aan (Cn 7 (Rg aam) Sk)) (Rg aal))⟩
def aak:LO:=[Mc 4 (.bool false),Mc 5 (.bool false)]
def aaj:LO:=[Mv 6 0]
def aai:LO:=[Bc 8 .eql 6 0,Mv 7 8]
def aah:LO:=[Bc 9 .eql 6 1,Mv 7 9]
def aag:LO:=[Bc 10 .eql 6 2,Mv 7 10]
def aaf:LO:=[Mv 11 1,Bc 12 .eql 11 0,Mc 4 (.bool true),Mv 5 12]
def aae:LO:=[Bc 14 .eql 6 3,Mv 13 14]
def aad:LO:=[Mv 15 1,Bc 16 .geq 15 2,Mc 4 (.bool true),Mv 5 16]
def aac:LO:=[Bc 18 .eql 6 4,Mv 17 18]
def aab:LO:=[Mv 19 1,Bc 20 .neq 19 1,Mc 4 (.bool true),Mv 5 20]
def LZ:LO:=[Bc 22 .eql 6 5,Mv 21 22]
def LY:LO:=[Bc 23 .eql 6 6,Mv 21 23]
def LX:LO:=[Bc 24 .eql 6 7,Mv 21 24]
def LW:LO:=[Mv 25 1,Bc 26 .eql 25 1,Mc 4 (.bool true),Mv 5 26]
def LU:LO:=[Mc 4 (.bool false),Mc 5 (.bool false)]
def f659 : AFunc := ⟨27, 2, false, [.t 4, .t 5], (Sr aak (Sq (Sr aaj (Bk 0 (Sq (Sr aai (Cn 7 Sk (Sr aah (Cn 7 Sk (Rg aag))))) (Cn 7 (Rr aaf) (Sr aae (Cn 13 (Rr aad) (Sr aac (Cn 17 (Rr aab) (Sq (Sr LZ (Cn 21 Sk (Sr LY (Cn 21 Sk (Rg LX))))) (Ci 21 (Rr LW))))))))))) (Rr LU)))⟩
def aaa:LO:=[Mc 2 (.bool false)]
def Z8:LO:=[Mv 3 0,Bc 4 .eql 3 5,Mv 5 4,Gf 5 (Mv 6 0),Gf 5 (Bc 7 .eql 6 6),Po 8 5 7,Mv 9 8,Gf 9 (Mv 10 0),Gf 9 (Bc 11 .eql 10 7),Po 12 9 11,Mv 2 12]
def f660 : AFunc := ⟨13, 1, false, [.t 2], (Sr aaa (Rr Z8))⟩
def aaB:LO:=[Op 4 (.alloc (.agg zz0)),Mc 5 (.bool false)]
def aaA:LO:=[Mv 16 1,Bc 17 .gtr 16 32,Mv 15 17]
def aaz:LO:=[Op 18 (.build zz0 [] []),St 4 4 18,Mc 5 (.bool false)]
def aay:LO:=[Mv 20 0,Ca 21 642 [(.t 20), (.c (.int .u8 46))],Mv 19 21]
def aax:LO:=[Op 22 (.build zz0 [(0, 1)] [(.c (.int .i64 2))]),St 4 4 22,Mc 5 (.bool true)]
def aaw:LO:=[Mv 24 0,Ca 25 642 [(.t 24), (.c (.int .u8 33))],Mv 23 25]
def aav:LO:=[Op 26 (.build zz0 [(0, 1)] [(.c (.int .i64 4))]),St 4 4 26,Mc 5 (.bool true)]
def aau:LO:=[Mv 28 0,Ca 29 642 [(.t 28), (.c (.int .u8 40))],Mv 27 29]
def aat:LO:=[Mv 30 0,Ca 31 642 [(.t 30), (.c (.int .u8 41))]]
def aas:LO:=[Op 32 (.build zz0 [(0, 1)] [(.c (.int .i64 0))]),St 4 4 32,Mc 5 (.bool true)]
def Me:LO:=[Mv 34 0,Mv 35 1,Bc 36 .add 35 1,Ct 37 616 [34, 36],Mv 33 37,Ex 38 33 0,Ex 39 33 1,Op 6 (.alloc (.agg zz0)),St 4 6 38,Mv 7 39]
def Md:LO:=[Ls 40 4 6,Mv 41 7,Mv 42 41,Gt 42 (Mv 43 0),Gt 42 (Ca 44 642 [(.t 43), (.c (.int .u8 41))]),Pa 45 42 44,Af [4, 0] (St 4 4 40),Mv 5 45]
def Mb:LO:=[Mv 47 0,Ca 48 642 [(.t 47), (.c (.int .u8 91))],Mv 46 48]
def Ma:LO:=[Mv 50 0,Ct 51 661 [50],Mv 49 51,Ex 52 49 0,Ex 53 49 1,Mv 8 52,Mv 9 53]
def L9:LO:=[Mv 54 0,Ca 55 642 [(.t 54), (.c (.int .u8 45))],Mv 10 55]
def L8:LO:=[Mv 57 0,Ct 58 661 [57],Mv 56 58,Ex 59 56 0,Ex 60 56 1,Mv 11 59,Mv 12 60]
def L7:LO:=[Mv 61 8,Mv 62 11,Op 63 (.build zz0 [(0, 1), (1, 1), (2, 1)] [(.c (.int .i64 1)), (.t 61), (.t 62)]),Mv 64 9,Mv 65 64,Gt 65 (Mv 66 10),Pa 67 65 66,Mv 68 67,Gt 68 (Mv 69 12),Pa 70 68 69,Mv 71 70,Gt 71 (Mv 72 0),Gt 71 (Ca 73 642 [(.t 72), (.c (.int .u8 93))]),Pa 74 71 73,St 4 4 63,Mv 5 74]
def L6:LO:=[Mv 76 0,Ct 77 661 [76],Mv 75 77,Ex 78 75 0,Ex 79 75 1,Mv 13 78,Mv 14 79]
def L5:LO:=[Mv 80 13,Mv 81 13,Op 82 (.build zz0 [(0, 1), (1, 1), (2, 1)] [(.c (.int .i64 1)), (.t 80), (.t 81)]),Mv 83 14,St 4 4 82,Mv 5 83]
def f656 : AFunc := ⟨84, 2, false, [.cell 4 (some 4), .t 5], (Sr aaB (Sq (Bk 0 (Sr aaA (Cn 15 (Rr aaz) (Sr aay (Cn 19 (Rr aax) (Sr aaw (Cn 23 (Rr aav) (Sr aau (Cn 27 (Sq (Sr aat (Ci 31 (Rr aas))) (Sr Me (Sq (Rd Md) Rt))) (Sr Mb (Cn 46 (Sr Ma (Sr L9 (Sr L8 (Rr L7)))) Sk))))))))))) (Sr L6 (Rr L5))))⟩
def akK:LO:=[Mc 2 (.bool false)]
def akJ:LO:=[Mv 4 0,Op 5 (.bin .eql (.t 4) (.c (.str []))),Mv 6 5,Gf 6 (Mv 7 0),Gf 6 (Ln 8 1 7),Gf 6 (Bc 9 .gtr 8 1),Gf 6 (Mv 10 9),Gt 10 (Mv 11 0),Gt 10 (Op 12 (.istr (.t 11) (.c (.int .i64 0)))),Gt 10 (Op 13 (.bin .eql (.t 12) (.c (.int .u8 48)))),Gf 6 (Pa 14 10 13),Po 15 6 14]
def akI:LO:=[Mc 2 (.bool false)]
def akH:LO:=[Mv 16 0,Ln 17 1 16,Mc 18 (.int .i64 0)]
def akG:LO:=[Bi 19 .lss 18 17]
def akF:LO:=[Mv 20 18,Mv 3 20]
def akE:LO:=[Mv 21 0,Mv 22 3,Op 23 (.istr (.t 21) (.t 22)),Op 24 (.bin .lss (.t 23) (.c (.int .u8 48))),Mv 25 24,Gf 25 (Mv 26 0),Gf 25 (Mv 27 3),Gf 25 (Op 28 (.istr (.t 26) (.t 27))),Gf 25 (Op 29 (.bin .gtr (.t 28) (.c (.int .u8 57)))),Po 30 25 29]
def akD:LO:=[Mc 2 (.bool false)]
def akC:LO:=[Bc 31 .add 18 1,Mv 18 31]
def CO:ACode:=(Sr akG (Sq (Cx 19 0) (Sq (Bk 1 (Sr akF (Sr akE (Ci 30 (Rr akD))))) (Rg akC))))
def CP:LO:=[Mc 2 (.bool true)]
def f347 : AFunc := ⟨32, 1, false, [.t 2], (Sr akK (Sq (Sr akJ (Ci 15 (Rr akI))) (Sq (Sr akH (Bl 0 CO)) (Rr CP))))⟩
def J6:LI:=[.inLoop CO, .inBlock 0, .code (Rr CP)]
def Z7:LO:=[Mc 2 (.int .i64 0),Mc 3 (.bool false)]
def Z6:LO:=[Mv 6 0,Nc 7 6,Fa 8 1 7,Ld 9 8,Mc 4 (.int .i64 0),Mv 5 9]
def ZY:LO:=[Mv 10 0,Nc 11 10,Fa 12 1 11,Ld 13 12,Mv 14 0,Nc 15 14,Fa 16 0 15,Ld 17 16,Af [7] (Ln 18 1 17),Bi 19 .lss 13 18,Mv 20 19,Gt 20 (Mv 21 0),Gt 20 (Nc 22 21),Gt 20 (Fa 23 0 22),Af [3, 8, 7] (Gt 20 (Ld 24 23)),Gt 20 (Mv 25 0),Gt 20 (Nc 26 25),Gt 20 (Fa 27 1 26),Af [3, 8, 7] (Gt 20 (Ld 28 27)),Gt 20 (Op 29 (.istr (.t 24) (.t 28))),Gt 20 (Op 30 (.bin .geq (.t 29) (.c (.int .u8 48)))),Pa 31 20 30,Mv 32 31,
 Gt 32 (Mv 33 0),Gt 32 (Nc 34 33),Gt 32 (Fa 35 0 34),Af [14, 18, 3, 8, 7] (Gt 32 (Ld 36 35)),Gt 32 (Mv 37 0),Gt 32 (Nc 38 37),Gt 32 (Fa 39 1 38),Af [14, 18, 3, 8, 7] (Gt 32 (Ld 40 39)),Gt 32 (Op 41 (.istr (.t 36) (.t 40))),Gt 32 (Op 42 (.bin .leq (.t 41) (.c (.int .u8 57)))),Pa 43 32 42]
def ZX:LO:=[Mv 44 4,Op 45 (.bin .mul (.c (.int .i64 10)) (.t 44)),Mv 46 0,Nc 47 46,Fa 48 0 47,Ld 49 48,Mv 50 0,Nc 51 50,Fa 52 1 51,Ld 53 52,Op 54 (.istr (.t 49) (.t 53)),Op 55 (.bin .sub (.t 54) (.c (.int .u8 48))),Cv 56 .i64 55,Bi 57 .add 45 56,Mv 4 57]
def ZW:LO:=[Mv 58 0,Nc 59 58,Fa 60 1 59,Ld 61 60,Bc 62 .add 61 1,Nc 63 58,Fa 64 1 63,St 1 64 62]
def ZU:LO:=[Mv 65 4,Bc 66 .gtr 65 4294967295]
def ZT:LO:=[Mc 2 (.int .i64 0),Mc 3 (.bool false)]
def Aw:ACode:=(Sq (Sq (Rd ZY) (Cx 43 0)) (Bk 1 (Sq (Rd ZX) (Sr ZW (Sr ZU (Ci 66 (Rr ZT)))))))
def FX:LO:=[Mv 67 4,Mv 68 0,Nc 69 68,Fa 70 1 69,Ld 71 70,Mv 72 5,Bi 73 .gtr 71 72,Mv 2 67,Mv 3 73]
def f661 : AFunc := ⟨74, 1, false, [.t 2, .t 3], (Sr Z7 (Sq (Rd Z6) (Sq (Bl 0 Aw) (Sq (Rd FX) Rt))))⟩
def oA:LI:=[.inLoop Aw, .inBlock 0, .code (Sq (Rd FX) Rt)]
end Go.AM.IR
namespace Go.AM.IR
set_option linter.unusedSectionVars false
set_option linter.unusedVariables false
inductive Rx where
 | mk (kind lo hi : Int) (kids : List Rx)
namespace Rx
def kind : Rx → Int | .mk k _ _ _ => k
def kids : Rx → List Rx | .mk _ _ _ l => l
end Rx
def aY (k lo hi : Int) (n : Nat) : Bool :=
 if k = 1 then decide (0 ≤ lo ∧ lo ≤ hi ∧ hi ≤ 4294967295 ∧ n = 0)
 else (decide (lo = 0 ∧ hi = 0)) && (if k = 0 ∨ k = 2 then decide (n = 0) else if k = 3 then decide (2 ≤ n) else if k = 4 then decide (n ≠ 1) else if 5 ≤ k ∧ k ≤ 7 then decide (n = 1) else false)
mutual
def chk : Rx → Nat → Nat → Option Nat
 | .mk k lo hi kids, lv, c => if 16 < lv then none else if 64 ≤ c then none else if aY k lo hi kids.length then en kids (lv + 1) (c + 1) else none
def en : List Rx → Nat → Nat → Option Nat
 | [], _, c => some c
 | x :: r, lv, c => match chk x lv c with
  | some c' => en r lv c'
  | none => none
end
def cZ (k : Int) (x : Rx) : Bool :=
 if x.kind = 3 then decide (k ≠ 4) else if x.kind = 4 then !x.kids.isEmpty else decide (5 ≤ x.kind ∧ x.kind ≤ 7) && decide (5 ≤ k ∧ k ≤ 7)
def bW (k : Int) (x : Rx) (p : List UInt8) : List UInt8 := if cZ k x then 40 :: (p ++ [41]) else p
def bQ (c : UInt8) : List (List UInt8) → List UInt8
 | [] => []
 | [x] => x
 | x :: r => x ++ c :: bQ c r
def b9 (dec : Int → List UInt8) (k lo hi : Int) (ps : List (List UInt8)) : List UInt8 :=
 if k = 0 then [40, 41] else if k = 1 then (if lo = hi then dec lo else 91 :: (dec lo ++ 45 :: (dec hi ++ [93]))) else if k = 2 then [46] else if k = 3 then bQ 32 ps else
 if k = 4 then (if ps.isEmpty then [33] else bQ 124 ps) else if k = 5 then ps.headD [] ++ [42] else if k = 6 then ps.headD [] ++ [43] else ps.headD [] ++ [63]
mutual
def pat (dec : Int → List UInt8) : Rx → List UInt8
 | .mk k lo hi kids => b9 dec k lo hi (ba dec k kids)
def ba (dec : Int → List UInt8) (k : Int) : List Rx → List (List UInt8)
 | [] => []
 | x :: r => bW k x (pat dec x) :: ba dec k r
end
abbrev PR := Nat → Option (Rx × Nat)
abbrev NR := Nat → Option (Int × Nat)
def chr (s : List UInt8) (n : Nat) (c : UInt8) : Bool := s[n]? == some c
section
variable (s : List UInt8) (num : NR)
def bJ (alt : PR) : PR := fun n =>
 if chr s n 46 then some (.mk 2 0 0 [], n + 1) else
 if chr s n 33 then some (.mk 4 0 0 [], n + 1) else
 if chr s n 40 then (if chr s (n + 1) 41 then some (.mk 0 0 0 [], n + 2) else match alt (n + 1) with
  | some (x, m) => if chr s m 41 then some (x, m + 1) else none
  | none => none) else
 if chr s n 91 then match num (n + 1) with
  | some (a, m) => if chr s m 45 then (match num (m + 1) with
   | some (b, k) => if chr s k 93 then some (.mk 1 a b [], k + 1) else none
   | none => none) else none
  | none => none else
 match num n with
 | some (a, m) => some (.mk 1 a a [], m)
 | none => none
def cz (atom : PR) : PR := fun n => match atom n with
 | some (x, m) => if chr s m 42 then some (.mk 5 0 0 [x], m + 1) else if chr s m 43 then some (.mk 6 0 0 [x], m + 1) else if chr s m 63 then some (.mk 7 0 0 [x], m + 1) else some (x, m)
 | none => none
def cJ (item : PR) (c : UInt8) : Nat → List Rx → Nat → Option (List Rx × Nat)
 | 0, _, _ => none
 | f + 1, acc, n => match item n with
  | some (x, m) => if chr s m c then cJ item c f (acc ++ [x]) (m + 1) else some (acc ++ [x], m)
  | none => none
def dP (k : Int) : Option (List Rx × Nat) → Option (Rx × Nat)
 | some ([x], m) => some (x, m)
 | some (l, m) => some (.mk k 0 0 l, m)
 | none => none
def fP (item : PR) : PR := fun n => dP 3 (cJ s item 32 (s.length + 1) [] n)
def bL : Nat → PR
 | 0 => fun _ => none
 | k + 1 => fun n => dP 4 (cJ s (fP s (cz s (bJ s num (bL k)))) 124 (s.length + 1) [] n)
end
def isD (c : UInt8) : Bool := decide (48 ≤ c.toNat ∧ c.toNat ≤ 57)
def m7 (t : List UInt8) : Prop := ∀ c, t.head? = some c → isD c = false
def stopI (t : List UInt8) : Prop := ∀ c, t.head? = some c → isD c = false ∧ c ≠ 42 ∧ c ≠ 43 ∧ c ≠ 63
def stopS (t : List UInt8) : Prop := ∀ c, t.head? = some c → isD c = false ∧ c ≠ 42 ∧ c ≠ 43 ∧ c ≠ 63 ∧ c ≠ 32
def stopA (t : List UInt8) : Prop := ∀ c, t.head? = some c → isD c = false ∧ c ≠ 42 ∧ c ≠ 43 ∧ c ≠ 63 ∧ c ≠ 32 ∧ c ≠ 124
theorem stopI.d {t} (h : stopI t) : m7 t := fun c e => (h c e).1
theorem stopS.i {t} (h : stopS t) : stopI t := fun c e => ⟨(h c e).1, (h c e).2.1, (h c e).2.2.1, (h c e).2.2.2.1⟩
theorem stopA.s {t} (h : stopA t) : stopS t := fun c e => ⟨(h c e).1, (h c e).2.1, (h c e).2.2.1, (h c e).2.2.2.1, (h c e).2.2.2.2.1⟩
theorem sv {s t : List UInt8} {n : Nat} (h : s.drop n = t) (i : Nat) : s[n + i]? = t[i]? := by rw [← h, List.getElem?_drop]
theorem bz {s t : List UInt8} {n : Nat} (h : s.drop n = t) (c : UInt8) : chr s n c = (t.head? == some c) := by
 have := sv h 0
 unfold chr
 rw [Nat.add_zero] at this
 rw [this]; cases t <;> rfl
theorem cw {s a t : List UInt8} {n : Nat} (h : s.drop n = a ++ t) : s.drop (n + a.length) = t := by
 rw [← List.drop_drop, h, List.drop_left]
theorem fg {s t : List UInt8} {n : Nat} {c : UInt8} (h : s.drop n = c :: t) : s.drop (n + 1) = t := by
 rw [← List.drop_drop, h]; rfl
def xV (s : List UInt8) (num : NR) (dec : Int → List UInt8) : Prop := ∀ (n : Nat) (a : Int) (t : List UInt8), 0 ≤ a → a ≤ 4294967295 → s.drop n = dec a ++ t → m7 t → num n = some (a, n + (dec a).length)
def Fg (dec : Int → List UInt8) : Prop := ∀ a : Int, 0 ≤ a → a ≤ 4294967295 → ∃ c r, dec a = c :: r ∧ isD c = true
theorem W3 {c : UInt8} (h : isD c = true) {d : UInt8} (hd : isD d = false) : (c == d) = false := by
 rw [beq_eq_false_iff_ne]; rintro rfl; rw [h] at hd; cases hd
section
variable {s : List UInt8} {num : NR} {dec : Int → List UInt8} (hnum : xV s num dec) (hdec : Fg dec)
include hnum hdec
theorem Kr {alt : PR} {n : Nat} {a : Int} {t : List UInt8} (h0 : 0 ≤ a) (h1 : a ≤ 4294967295) (h : s.drop n = dec a ++ t) (ht : m7 t) : bJ s num alt n = some (.mk 1 a a [], n + (dec a).length) := by
 obtain ⟨c, r, e, hc⟩ := hdec a h0 h1
 have hh : ∀ d, isD d = false → chr s n d = false := fun d hd => by
  rw [bz h, e]; simpa using W3 hc hd
 unfold bJ
 rw [hh 46 rfl, hh 33 rfl, hh 40 rfl, hh 91 rfl, hnum n a t h0 h1 h ht]
 simp
theorem Ko {alt : PR} {n : Nat} {a b : Int} {t : List UInt8} (h0 : 0 ≤ a) (h1 : a ≤ 4294967295) (h2 : 0 ≤ b) (h3 : b ≤ 4294967295) (h : s.drop n = 91 :: (dec a ++ 45 :: (dec b ++ 93 :: t))) : bJ s num alt n = some (.mk 1 a b [], n + (91 :: (dec a ++ 45 :: (dec b ++ [93]))).length) := by
 have e1 := fg h
 have e2 := cw e1
 have e3 := fg e2
 have e4 := cw e3
 have c1 : chr s n 46 = false := by rw [bz h]; rfl
 have c2 : chr s n 33 = false := by rw [bz h]; rfl
 have c3 : chr s n 40 = false := by rw [bz h]; rfl
 have c4 : chr s n 91 = true := by rw [bz h]; rfl
 have c5 : chr s (n + 1 + (dec a).length) 45 = true := by rw [bz e2]; rfl
 have c6 : chr s (n + 1 + (dec a).length + 1 + (dec b).length) 93 = true := by rw [bz e4]; rfl
 have n1 := hnum _ _ _ h0 h1 e1 (by intro c hc; simp at hc; subst hc; rfl)
 have n2 := hnum _ _ _ h2 h3 e3 (by intro c hc; simp at hc; subst hc; rfl)
 simp [bJ, c1, c2, c3, c4, c5, c6, n1, n2]; omega
end
theorem Kp {s : List UInt8} {num : NR} {alt : PR} {n : Nat} {x : Rx} {p t : List UInt8} (h : s.drop n = 40 :: (p ++ 41 :: t)) (hp : p ≠ []) (hp1 : p.head? ≠ some 41) (ha : alt (n + 1) = some (x, n + 1 + p.length)) : bJ s num alt n = some (x, n + (40 :: (p ++ [41])).length) := by
 have e1 := fg h
 have e2 := cw e1
 have c1 : chr s n 46 = false := by rw [bz h]; rfl
 have c2 : chr s n 33 = false := by rw [bz h]; rfl
 have c3 : chr s n 40 = true := by rw [bz h]; rfl
 have c4 : chr s (n + 1) 41 = false := by
  rw [bz e1]
  have : (p ++ 41 :: t).head? = p.head? := by cases p with | nil => exact absurd rfl hp | cons a b => rfl
  rw [this]; simpa using hp1
 have c5 : chr s (n + 1 + p.length) 41 = true := by rw [bz e2]; rfl
 simp [bJ, c1, c2, c3, c4, c5, ha]; omega
theorem mu {s : List UInt8} {atom : PR} {n m : Nat} {x : Rx} {t : List UInt8} (h : atom n = some (x, m)) (hd : s.drop m = t) (ht : stopI t) : cz s atom n = some (x, m) := by
 unfold cz
 rw [h]
 simp only []
 rw [bz hd, bz hd, bz hd]
 cases hh : t.head? with
 | none => simp
 | some c => obtain ⟨_, h1, h2, h3⟩ := ht c hh; simp [h1, h2, h3]
theorem FU {s : List UInt8} {atom : PR} {n m : Nat} {x : Rx} {t : List UInt8} {k : Int} {c : UInt8} (h : atom n = some (x, m)) (hd : s.drop m = c :: t) (hk : (k = 5 ∧ c = 42) ∨ (k = 6 ∧ c = 43) ∨ (k = 7 ∧ c = 63)) : cz s atom n = some (.mk k 0 0 [x], m + 1) := by
 unfold cz
 rw [h]
 simp only []
 rw [bz hd, bz hd, bz hd]
 rcases hk with ⟨rfl, rfl⟩ | ⟨rfl, rfl⟩ | ⟨rfl, rfl⟩ <;> rfl
inductive All2 {α β : Type} (R : α → β → Prop) : List α → List β → Prop
 | nil : All2 R [] []
 | cons {a b l m} : R a b → All2 R l m → All2 R (a :: l) (b :: m)
def Fd (item : PR) (s : List UInt8) (c : UInt8) (stop : List UInt8 → Prop) (x : Rx) (p : List UInt8) : Prop := ∀ (n : Nat) (t : List UInt8), s.drop n = p ++ t → stop t ∨ t.head? = some c → item n = some (x, n + p.length)
theorem f4 (c : UInt8) (p q : List UInt8) (qs : List (List UInt8)) : bQ c (p :: q :: qs) = p ++ c :: bQ c (q :: qs) := rfl
theorem u9 {s : List UInt8} {item : PR} {c : UInt8} {stop : List UInt8 → Prop} (hst : ∀ t, stop t → t.head? ≠ some c) :
  ∀ (xs : List Rx) (ps : List (List UInt8)) (acc : List Rx) (n f : Nat) (t : List UInt8), xs ≠ [] → All2 (Fd item s c stop) xs ps → s.drop n = bQ c ps ++ t → stop t → xs.length ≤ f → cJ s item c f acc n = some (acc ++ xs, n + (bQ c ps).length)
 | [], _, _, _, _, _, h, _, _, _, _ => absurd rfl h
 | [x], ps, acc, n, f, t, _, hP, hd, ht, hf => by
  cases hP with
  | cons h1 h2 =>
  rename_i p ps
  cases h2
  cases f with
  | zero => simp at hf
  | succ f =>
  rw [bQ] at hd ⊢
  rw [cJ, h1 n t hd (.inl ht)]
  simp only []
  rw [bz (cw hd), if_neg (by simpa using hst t ht)]
 | x :: y :: r, ps, acc, n, f, t, _, hP, hd, ht, hf => by
  cases hP with
  | cons h1 h2 =>
  rename_i p ps
  cases f with
  | zero => simp at hf
  | succ f =>
  cases ps with
  | nil => cases h2
  | cons q qs =>
  rw [f4, List.append_assoc, List.cons_append] at hd
  rw [cJ, h1 n _ hd (.inr rfl)]
  simp only []
  have hd2 := cw hd
  rw [bz hd2, if_pos (by simp)]
  rw [u9 hst (y :: r) (q :: qs) (acc ++ [x]) _ f t (by simp) h2 (fg hd2) ht (by simpa using hf)]
  rw [f4, List.length_append, List.length_cons, List.append_assoc]
  congr 2; omega
def lvl (x : Rx) : Nat := if 5 ≤ x.kind ∧ x.kind ≤ 7 then 1 else if x.kind = 3 then 2 else if x.kind = 4 ∧ x.kids ≠ [] then 3 else 0
structure Good (s : List UInt8) (num : NR) (dec : Int → List UInt8) (k : Nat) (x : Rx) : Prop where
 hd : ∃ a r, pat dec x = a :: r ∧ a ≠ 41
 at_ : lvl x = 0 → ∀ (n : Nat) (t : List UInt8), s.drop n = pat dec x ++ t → m7 t → bJ s num (bL s num k) n = some (x, n + (pat dec x).length)
 it : lvl x ≤ 1 → ∀ (n : Nat) (t : List UInt8), s.drop n = pat dec x ++ t → stopI t → cz s (bJ s num (bL s num k)) n = some (x, n + (pat dec x).length)
 sq : lvl x ≤ 2 → ∀ (n : Nat) (t : List UInt8), s.drop n = pat dec x ++ t → stopS t → fP s (cz s (bJ s num (bL s num k))) n = some (x, n + (pat dec x).length)
 al : ∀ (n : Nat) (t : List UInt8), s.drop n = pat dec x ++ t → stopA t → bL s num (k + 1) n = some (x, n + (pat dec x).length)
theorem gC {s t : List UInt8} {m : Nat} {c : UInt8} (hd : s.drop m = t) (h : ∀ b, t.head? = some b → b ≠ c) : chr s m c = false := by
 rw [bz hd]
 cases hh : t.head? with
 | none => rfl
 | some b => simpa using h b hh
theorem i8 {s : List UInt8} {item : PR} {c : UInt8} {n m : Nat} {x : Rx} {t : List UInt8} {k : Int} (h : item n = some (x, m)) (hc : chr s m c = false) : dP k (cJ s item c (s.length + 1) [] n) = some (x, m) := by
 rw [cJ, h]
 simp [hc, dP]
section
variable {s : List UInt8} {num : NR} {dec : Int → List UInt8} {k : Nat} {x : Rx}
theorem anP (h : ∃ a r, pat dec x = a :: r ∧ a ≠ 41) (hl : lvl x = 3) (ha : ∀ (n : Nat) (t : List UInt8), s.drop n = pat dec x ++ t → stopA t → bL s num (k + 1) n = some (x, n + (pat dec x).length)) : Good s num dec k x :=
 ⟨h, fun e => by omega, fun e => by omega, fun e => by omega, ha⟩
theorem anQ (h : ∃ a r, pat dec x = a :: r ∧ a ≠ 41) (hl : 2 ≤ lvl x) (ha : ∀ (n : Nat) (t : List UInt8), s.drop n = pat dec x ++ t → stopS t → fP s (cz s (bJ s num (bL s num k))) n = some (x, n + (pat dec x).length)) : Good s num dec k x :=
 ⟨h, fun e => by omega, fun e => by omega, fun _ => ha, fun n t hd ht => by
  rw [bL]; exact i8 (t := t) (ha n t hd ht.s) (gC (cw hd) fun b e => (ht b e).2.2.2.2.2)⟩
theorem anR (h : ∃ a r, pat dec x = a :: r ∧ a ≠ 41) (hl : 1 ≤ lvl x) (ha : ∀ (n : Nat) (t : List UInt8), s.drop n = pat dec x ++ t → stopI t → cz s (bJ s num (bL s num k)) n = some (x, n + (pat dec x).length)) : Good s num dec k x := by
 have hs : ∀ (n : Nat) (t : List UInt8), s.drop n = pat dec x ++ t → stopS t → fP s (cz s (bJ s num (bL s num k))) n = some (x, n + (pat dec x).length) := fun n t hd ht => by
  unfold fP; exact i8 (t := t) (ha n t hd ht.i) (gC (cw hd) fun b e => (ht b e).2.2.2.2)
 exact ⟨h, fun e => by omega, fun _ => ha, fun _ => hs, fun n t hd ht => by
  rw [bL]; exact i8 (t := t) (hs n t hd ht.s) (gC (cw hd) fun b e => (ht b e).2.2.2.2.2)⟩
theorem qr (h : ∃ a r, pat dec x = a :: r ∧ a ≠ 41) (ha : ∀ (n : Nat) (t : List UInt8), s.drop n = pat dec x ++ t → m7 t → bJ s num (bL s num k) n = some (x, n + (pat dec x).length)) : Good s num dec k x := by
 have hi : ∀ (n : Nat) (t : List UInt8), s.drop n = pat dec x ++ t → stopI t → cz s (bJ s num (bL s num k)) n = some (x, n + (pat dec x).length) := fun n t hd ht => mu (ha n t hd ht.d) (cw hd) ht
 have hs : ∀ (n : Nat) (t : List UInt8), s.drop n = pat dec x ++ t → stopS t → fP s (cz s (bJ s num (bL s num k))) n = some (x, n + (pat dec x).length) := fun n t hd ht => by
  unfold fP; exact i8 (t := t) (hi n t hd ht.i) (gC (cw hd) fun b e => (ht b e).2.2.2.2)
 exact ⟨h, fun _ => ha, fun _ => hi, fun _ => hs, fun n t hd ht => by
  rw [bL]; exact i8 (t := t) (hs n t hd ht.s) (gC (cw hd) fun b e => (ht b e).2.2.2.2.2)⟩
theorem ow {p : Int} (h : Good s num dec k x) (he : cZ p x = true) {n : Nat} {t : List UInt8} (hd : s.drop n = bW p x (pat dec x) ++ t) : bJ s num (bL s num (k + 1)) n = some (x, n + (bW p x (pat dec x)).length) := by
 unfold bW at hd ⊢
 rw [if_pos he] at hd ⊢
 obtain ⟨a, r, e, ha⟩ := h.hd
 rw [List.cons_append, List.append_assoc] at hd
 refine Kp (t := t) (by simpa using hd) (by rw [e]; simp) (by rw [e]; simpa using ha) ?_
 exact h.al _ (41 :: t) (by simpa using fg hd) (fun c hc => by simp at hc; subst hc; decide)
theorem v7 {p : Int} (h : ∃ a r, pat dec x = a :: r ∧ a ≠ 41) : ∃ a r, bW p x (pat dec x) = a :: r ∧ a ≠ 41 := by
 unfold bW
 split
 ·exact ⟨40, _, rfl, by decide⟩
 ·exact h
end
theorem anV {p : Int} {x : Rx} (h : cZ p x = false) (hp : 5 ≤ p ∧ p ≤ 7) : lvl x = 0 := by
 unfold cZ at h
 unfold lvl
 generalize x.kind = k at h ⊢
 generalize x.kids = l at h ⊢
 by_cases h3 : k = 3
 ·rw [if_pos h3] at h; simp at h; omega
 ·rw [if_neg h3] at h
  by_cases h4 : k = 4
  ·rw [if_pos h4] at h
   rw [if_neg (by omega), if_neg h3, if_neg (by rintro ⟨_, q⟩; cases l <;> simp_all)]
  ·rw [if_neg h4] at h
   have : ¬ (5 ≤ k ∧ k ≤ 7) := by intro q; simp [q, hp] at h
   rw [if_neg this, if_neg h3, if_neg (fun q => h4 q.1)]
theorem anU {x : Rx} (h : cZ 3 x = false) : lvl x ≤ 1 := by
 unfold cZ at h
 unfold lvl
 generalize x.kind = k at h ⊢
 generalize x.kids = l at h ⊢
 by_cases h3 : k = 3
 ·rw [if_pos h3] at h; simp at h
 ·rw [if_neg h3] at h
  by_cases h4 : k = 4
  ·rw [if_pos h4] at h
   rw [if_neg (by omega), if_neg h3, if_neg (by rintro ⟨_, q⟩; cases l <;> simp_all)]; omega
  ·split
   ·omega
   ·rw [if_neg (fun q => h4 q.1)]; omega
theorem anT {x : Rx} (h : cZ 4 x = false) : lvl x ≤ 2 := by
 unfold cZ at h
 unfold lvl
 generalize x.kind = k at h ⊢
 generalize x.kids = l at h ⊢
 by_cases h3 : k = 3
 ·rw [if_neg (by omega), if_pos h3]; omega
 ·rw [if_neg h3] at h
  by_cases h4 : k = 4
  ·rw [if_pos h4] at h
   rw [if_neg (by omega), if_neg h3, if_neg (by rintro ⟨_, q⟩; cases l <;> simp_all)]; omega
  ·split
   ·omega
   ·rw [if_neg (fun q => h4 q.1)]; omega
theorem tf {c : UInt8} : ∀ ps : List (List UInt8), ps.length ≤ (bQ c ps).length + 1
 | [] => by simp
 | [p] => by simp
 | p :: q :: qs => by
  have := tf (c := c) (q :: qs)
  rw [f4]; simp at *; omega
theorem jp {dec : Int → List UInt8} {p : Int} : ∀ xs : List Rx, (ba dec p xs).length = xs.length
 | [] => by rw [ba]; rfl
 | x :: r => by rw [ba, List.length_cons, List.length_cons, jp r]
theorem zF {s t : List UInt8} {n : Nat} {c : UInt8} {dec : Int → List UInt8} {p : Int} {xs : List Rx} (h : s.drop n = bQ c (ba dec p xs) ++ t) : xs.length ≤ s.length + 1 := by
 have h1 := tf (c := c) (ba dec p xs)
 have h2 : (s.drop n).length = (bQ c (ba dec p xs) ++ t).length := by rw [h]
 rw [jp] at h1
 simp at h2
 omega
theorem li {s : List UInt8} {dec : Int → List UInt8} {item : PR} {c : UInt8} {stop : List UInt8 → Prop} {p : Int} : ∀ {xs : List Rx}, (∀ x ∈ xs, Fd item s c stop x (bW p x (pat dec x))) → All2 (Fd item s c stop) xs (ba dec p xs)
 | [], _ => by rw [ba]; exact .nil
 | x :: r, h => by rw [ba]; exact .cons (h x (by simp)) (li fun y hy => h y (by simp [hy]))
theorem qn {dec : Int → List UInt8} {c : UInt8} {p : Int} {x : Rx} {r : List Rx} (h : ∃ a r, pat dec x = a :: r ∧ a ≠ 41) : ∃ a q, bQ c (ba dec p (x :: r)) = a :: q ∧ a ≠ 41 := by
 obtain ⟨a, q, e, ha⟩ := v7 (p := p) h
 rw [ba]
 cases hr : ba dec p r with
 | nil => exact ⟨a, q, by rw [bQ, e], ha⟩
 | cons y ys => exact ⟨a, q ++ c :: bQ c (y :: ys), by rw [f4, e]; rfl, ha⟩
section
variable {s : List UInt8} {num : NR} {dec : Int → List UInt8} (hnum : xV s num dec) (hdec : Fg dec)
include hnum hdec
theorem Kb {a : Int} (h : 0 ≤ a) (h1 : a ≤ 4294967295) : ∃ c r, dec a = c :: r ∧ c ≠ 41 := by
 obtain ⟨c, r, e, hc⟩ := hdec a h h1
 refine ⟨c, r, e, ?_⟩
 rintro rfl; revert hc; decide
theorem my {k : Nat} {p : Int} {y : Rx} {b : UInt8} (hp : (p = 5 ∧ b = 42) ∨ (p = 6 ∧ b = 43) ∨ (p = 7 ∧ b = 63)) (hy : Good s num dec k y) (hy' : cZ p y = true → ∃ k', k = k' + 1 ∧ Good s num dec k' y) : Good s num dec k (.mk p 0 0 [y]) := by
 have hp5 : 5 ≤ p ∧ p ≤ 7 := by omega
 have hpat : pat dec (.mk p 0 0 [y]) = bW p y (pat dec y) ++ [b] := by
  rw [pat, ba, ba, b9, if_neg (by omega), if_neg (by omega), if_neg (by omega), if_neg (by omega), if_neg (by omega)]
  rcases hp with ⟨rfl, rfl⟩ | ⟨rfl, rfl⟩ | ⟨rfl, rfl⟩ <;> simp
 obtain ⟨a, q, e, ha⟩ := v7 (p := p) hy.hd
 refine anR ⟨a, q ++ [b], by rw [hpat, e]; rfl, ha⟩ (by unfold lvl; rw [if_pos (by exact hp5)]; omega) fun n t hd ht => ?_
 rw [hpat, List.append_assoc] at hd
 rw [hpat, List.length_append]
 refine FU (t := t) ?_ (by simpa using cw hd) hp
 cases he : cZ p y with
 | true =>
  obtain ⟨k', rfl, hk⟩ := hy' he
  exact ow hk he hd
 | false =>
  unfold bW at hd ⊢
  rw [if_neg (by rw [he]; simp)] at hd ⊢
  exact hy.at_ (anV he hp5) n _ hd (by
   intro c hc
   simp at hc; subst hc
   rcases hp with ⟨_, rfl⟩ | ⟨_, rfl⟩ | ⟨_, rfl⟩ <;> rfl)
theorem JH {k : Nat} {xs : List Rx} (hx : 2 ≤ xs.length) (h : ∀ y ∈ xs, Good s num dec k y ∧ (cZ 3 y = true → ∃ k', k = k' + 1 ∧ Good s num dec k' y)) : Good s num dec k (.mk 3 0 0 xs) := by
 have hpat : pat dec (.mk 3 0 0 xs) = bQ 32 (ba dec 3 xs) := by
  rw [pat, b9, if_neg (by omega), if_neg (by omega), if_neg (by omega), if_pos rfl]
 obtain ⟨x, y, r, rfl⟩ : ∃ x y r, xs = x :: y :: r := by
  match xs, hx with
  | x :: y :: r, _ => exact ⟨x, y, r, rfl⟩
 obtain ⟨a, q, e, ha⟩ := qn (c := 32) (p := 3) (r := y :: r) (h x (by simp)).1.hd
 refine anQ ⟨a, q, by rw [hpat, e], ha⟩ (by unfold lvl; simp [Rx.kind]) fun n t hd ht => ?_
 rw [hpat] at hd ⊢
 unfold fP
 rw [u9 (stop := stopS) (fun t h e => (h _ e).2.2.2.2 rfl) (x :: y :: r) (ba dec 3 (x :: y :: r)) [] n _ t (by simp) ?_ hd ht (zF hd)]
 ·rfl
 refine li fun z hz n t hd ht => ?_
 have hsi : stopI t := by
  rcases ht with ht | ht
  ·exact ht.i
  ·intro c hc; rw [ht] at hc; simp at hc; subst hc; decide
 obtain ⟨g, g'⟩ := h z hz
 cases he : cZ 3 z with
 | true =>
  obtain ⟨k', rfl, hk⟩ := g' he
  exact mu (ow hk he hd) (cw hd) hsi
 | false =>
  unfold bW at hd ⊢
  rw [if_neg (by rw [he]; simp)] at hd ⊢
  exact g.it (anU he) n t hd hsi
theorem JI {k : Nat} {xs : List Rx} (hx : 2 ≤ xs.length) (h : ∀ y ∈ xs, Good s num dec k y ∧ (cZ 4 y = true → ∃ k', k = k' + 1 ∧ Good s num dec k' y)) : Good s num dec k (.mk 4 0 0 xs) := by
 obtain ⟨x, y, r, rfl⟩ : ∃ x y r, xs = x :: y :: r := by
  match xs, hx with
  | x :: y :: r, _ => exact ⟨x, y, r, rfl⟩
 have hpat : pat dec (.mk 4 0 0 (x :: y :: r)) = bQ 124 (ba dec 4 (x :: y :: r)) := by
  rw [pat, b9, if_neg (by omega), if_neg (by omega), if_neg (by omega), if_neg (by omega), if_pos rfl, if_neg (by rw [ba]; simp)]
 obtain ⟨a, q, e, ha⟩ := qn (c := 124) (p := 4) (r := y :: r) (h x (by simp)).1.hd
 refine anP ⟨a, q, by rw [hpat, e], ha⟩ (by unfold lvl; simp [Rx.kind, Rx.kids]) fun n t hd ht => ?_
 rw [hpat] at hd ⊢
 rw [bL]
 show dP 4 (cJ _ _ _ _ _ _) = _
 rw [u9 (stop := stopA) (fun t h e => (h _ e).2.2.2.2.2 rfl) (x :: y :: r) (ba dec 4 (x :: y :: r)) [] n _ t (by simp) ?_ hd ht (zF hd)]
 ·rfl
 refine li fun z hz n t hd ht => ?_
 have hss : stopS t := by
  rcases ht with ht | ht
  ·exact ht.s
  ·intro c hc; rw [ht] at hc; simp at hc; subst hc; decide
 obtain ⟨g, g'⟩ := h z hz
 cases he : cZ 4 z with
 | true =>
  obtain ⟨k', rfl, hk⟩ := g' he
  have h1 := mu (ow hk he hd) (cw hd) hss.i
  unfold fP; exact i8 (t := t) h1 (gC (cw hd) fun b e => (hss b e).2.2.2.2)
 | false =>
  unfold bW at hd ⊢
  rw [if_neg (by rw [he]; simp)] at hd ⊢
  exact g.sq (anT he) n t hd hss
end
theorem xp {x : Rx} {lv c c' : Nat} (h : chk x lv c = some c') : lv ≤ 16 ∧ c < 64 := by
 obtain ⟨k, lo, hi, l⟩ := x
 rw [chk] at h
 split at h
 ·cases h
 ·split at h
  ·cases h
  ·omega
section
variable {s : List UInt8} {num : NR} {dec : Int → List UInt8} (hnum : xV s num dec) (hdec : Fg dec)
include hnum hdec
mutual
theorem xq : ∀ (x : Rx) {lv c c' k : Nat}, chk x lv c = some c' → 16 ≤ k + lv → Good s num dec k x
 | .mk p lo hi l, lv, c, c', k, h, hk => by
  have hlv := (xp h).1
  have hlc := (xp h).2
  rw [chk, if_neg (by omega), if_neg (by omega)] at h
  split at h
  ·rename_i hn
   have hl : ∀ y ∈ l, Good s num dec k y ∧ (cZ p y = true → ∃ k', k = k' + 1 ∧ Good s num dec k' y) := fun y hy => by
    have h1 := mL l h (k := k) (by omega) y hy
    refine ⟨h1.1, fun _ => ?_⟩
    have := h1.2
    have h2 := mL l h (k := k - 1) (by omega) y hy
    exact ⟨k - 1, by omega, h2.1⟩
   unfold aY at hn
   split at hn
   ·rename_i hp
    subst hp
    have hn := of_decide_eq_true hn
    obtain ⟨q1, q2, q3, q4⟩ := hn
    obtain rfl := List.eq_nil_of_length_eq_zero q4
    by_cases e : lo = hi
    ·subst e
     have hpat : pat dec (.mk 1 lo lo []) = dec lo := by rw [pat, b9, if_neg (by omega), if_pos rfl, if_pos rfl]
     exact qr (by rw [hpat]; exact Kb hnum hdec q1 q3) fun n t hd ht => by rw [hpat] at hd ⊢; exact Kr hnum hdec q1 q3 hd ht
    ·have hpat : pat dec (.mk 1 lo hi []) = 91 :: (dec lo ++ 45 :: (dec hi ++ [93])) := by rw [pat, b9, if_neg (by omega), if_pos rfl, if_neg e]
     exact qr (by rw [hpat]; exact ⟨91, _, rfl, by decide⟩) fun n t hd ht => by rw [hpat] at hd ⊢; exact Ko hnum hdec q1 (by omega) (by omega) q3 (by simpa using hd)
   ·rename_i hp
    rw [Bool.and_eq_true] at hn
    obtain ⟨hn0, hn⟩ := hn
    obtain ⟨rfl, rfl⟩ := of_decide_eq_true hn0
    split at hn
    ·rename_i hp2
     obtain rfl := List.eq_nil_of_length_eq_zero (of_decide_eq_true hn)
     rcases hp2 with rfl | rfl
     ·have hpat : pat dec (.mk 0 0 0 []) = [40, 41] := by rw [pat, b9, if_pos rfl]
      refine qr (by rw [hpat]; exact ⟨40, _, rfl, by decide⟩) fun n t hd ht => ?_
      rw [hpat] at hd ⊢
      have c1 : chr s n 46 = false := by rw [bz hd]; rfl
      have c2 : chr s n 33 = false := by rw [bz hd]; rfl
      have c3 : chr s n 40 = true := by rw [bz hd]; rfl
      have c4 : chr s (n + 1) 41 = true := by rw [bz (fg hd)]; rfl
      simp [bJ, c1, c2, c3, c4]
     ·have hpat : pat dec (.mk 2 0 0 []) = [46] := by rw [pat, b9, if_neg (by omega), if_neg (by omega), if_pos rfl]
      refine qr (by rw [hpat]; exact ⟨46, _, rfl, by decide⟩) fun n t hd ht => ?_
      rw [hpat] at hd ⊢
      have c1 : chr s n 46 = true := by rw [bz hd]; rfl
      simp [bJ, c1]
    ·split at hn
     ·rename_i hp3
      subst hp3
      exact JH hnum hdec (of_decide_eq_true hn) hl
     ·split at hn
      ·rename_i hp4
       subst hp4
       have hn := of_decide_eq_true hn
       by_cases hl0 : l = []
       ·subst hl0
        have hpat : pat dec (.mk 4 0 0 []) = [33] := by rw [pat, b9, if_neg (by omega), if_neg (by omega), if_neg (by omega), if_neg (by omega), if_pos rfl, ba]; rfl
        refine qr (by rw [hpat]; exact ⟨33, _, rfl, by decide⟩) fun n t hd ht => ?_
        rw [hpat] at hd ⊢
        have c1 : chr s n 46 = false := by rw [bz hd]; rfl
        have c2 : chr s n 33 = true := by rw [bz hd]; rfl
        simp [bJ, c1, c2]
       ·exact JI hnum hdec (by have : l.length ≠ 0 := fun q => hl0 (List.eq_nil_of_length_eq_zero q); omega) hl
      ·split at hn
       ·rename_i hp5
        have hn := of_decide_eq_true hn
        obtain ⟨y, rfl⟩ : ∃ y, l = [y] := by
         match l, hn with
         | [y], _ => exact ⟨y, rfl⟩
        obtain ⟨g, g'⟩ := hl y (by simp)
        rcases (by omega : p = 5 ∨ p = 6 ∨ p = 7) with rfl | rfl | rfl
        ·exact my hnum hdec (b := 42) (by simp) g g'
        ·exact my hnum hdec (b := 43) (by simp) g g'
        ·exact my hnum hdec (b := 63) (by simp) g g'
       ·cases hn
  ·cases h
theorem mL : ∀ (l : List Rx) {lv c c' k : Nat}, en l lv c = some c' → 16 ≤ k + lv → ∀ y ∈ l, Good s num dec k y ∧ lv ≤ 16
 | [], _, _, _, _, _, _, y, hy => by simp at hy
 | x :: r, lv, c, c', k, h, hk, y, hy => by
  rw [en] at h
  split at h
  ·rename_i c1 h1
   have g := xq x h1 hk
   rcases List.mem_cons.1 hy with hxy | hy
   ·rw [hxy]; exact ⟨g, (xp h1).1⟩
   ·exact mL r h hk y hy
  ·cases h
end
theorem xQ {x : Rx} {c' K : Nat} (h : chk x 1 0 = some c') (hK : 16 ≤ K) (hs : s = pat dec x) : bL s num K 0 = some (x, s.length) := by
 have g := xq hnum hdec x h (k := K - 1) (by omega)
 have := g.al 0 [] (by simpa using hs) (fun c e => by simp at e)
 rw [show K - 1 + 1 = K by omega] at this
 rw [this, ← hs]; simp
end
end Go.AM.IR
namespace Go.AM.IR
mutual
def Rx.enc : Rx → List AV
 | .mk k lo hi l => [.int .i64 k, .int .i64 lo, .int .i64 hi, .sl 4 (Rx.encL l)]
def Rx.encL : List Rx → List (List AV)
 | [] => []
 | x :: r => Rx.enc x :: Rx.encL r
end
theorem oX : ∀ l : List Rx, Rx.encL l = l.map Rx.enc
 | [] => by rw [Rx.encL]; rfl
 | x :: r => by rw [Rx.encL, oX r]; rfl
theorem aW (k lo hi : Int) (l : List Rx) : (Rx.mk k lo hi l).enc = [.int .i64 k, .int .i64 lo, .int .i64 hi, .sl 4 (l.map Rx.enc)] := by rw [Rx.enc, oX]
mutual
theorem bx : ∀ x : Rx, aM x.enc = true
 | .mk k lo hi l => by rw [Rx.enc]; simp [aM, AV.pure, oc l]
theorem oc : ∀ l : List Rx, az (Rx.encL l) = true
 | [] => by rw [Rx.encL]; rfl
 | x :: r => by rw [Rx.encL]; simp [az, bx x, oc r]
end
attribute [simp] bx
@[simp] theorem aok (l : List Rx) : az (l.map Rx.enc) = true := by rw [← oX]; exact oc l
def rx0 : Rx := .mk 0 0 0 []
def dA (c : UInt8) : Int := (c.toNat : Int) - 48
def cm (a : Int) (l : List UInt8) : Int := l.foldl (fun a c => 10 * a + dA c) a
def rnL (s : List UInt8) (fr : Nat) : Nat → Int → Nat → Option (Int × Nat)
 | 0, _, _ => none
 | f + 1, a, n => match s[n]? with
  | some c => if isD c then (if 4294967295 < 10 * a + dA c then none else rnL s fr f (10 * a + dA c) (n + 1)) else if fr < n then some (a, n) else none
  | none => if fr < n then some (a, n) else none
def eO (s : List UInt8) : NR := fun n => rnL s n (s.length + 1) 0 n
def dy (s : List UInt8) : NR := fun n =>
 let t := (s.drop n).takeWhile isD
 if t = [] then none else if 1 < t.length ∧ t.head? = some 48 then none else if 4294967295 < cm 0 t then none else some (cm 0 t, n + t.length)
def iL (s : List UInt8) : Option Rx := match bL s (eO s) 32 0 with
 | some (x, m) => if m = s.length ∧ (chk x 1 0).isSome = true ∧ pat aH x = s then some x else none
 | none => none
def kw (s : List UInt8) : Option Rx := match bL s (dy s) 33 0 with
 | some (x, _) => if (chk x 1 0).isSome = true ∧ pat aH x = s then some x else none
 | none => none
def na : Option Rx → Ret
 | none => ⟨.tup [.agg rx0.enc, .int .i64 2], []⟩
 | some x => ⟨.tup [.agg x.enc, .int .i64 0], []⟩
end Go.AM.IR
namespace Go.AM.IR
def G0 (f : Nat) : Fun := bif Nat.blt f 574 then (bif Nat.blt f 452 then (bif Nat.blt f 263 then (bif Nat.blt f 227 then (bif Nat.blt f 183 then (bif Nat.blt f 181 then (bif Nat.blt f 179 then (bif Nat.beq f 178 then .code f178 else .none) else (bif Nat.beq f 179 then .code f179 else .none)) else (bif Nat.blt f 182 then (bif Nat.beq f 181 then .code f181 else .none) else (bif Nat.beq f 182 then .code f182 else .none))) else (bif Nat.blt f 185 then (bif Nat.blt f 184 then (bif Nat.beq f 183 then .code f183 else .none) else (bif Nat.beq f 184 then .code f184 else .none)) else (bif Nat.blt f 186 then (bif Nat.beq f 185 then .code f185 else .none) else (bif Nat.beq f 186 then .code f186 else .none)))) else (bif Nat.blt f 246 then (bif Nat.blt f 231 then (bif Nat.blt f 229 then (bif Nat.beq f 227 then .code f227 else .none) else (bif Nat.beq f 229 then .code f229 else .none)) else (bif Nat.blt f 233 then (bif Nat.beq f 231 then .code f231 else .none) else (bif Nat.beq f 233 then .code f233 else .none))) else (bif Nat.blt f 249 then (bif Nat.blt f 247 then (bif Nat.beq f 246 then .prim false uI else .none) else (bif Nat.beq f 247 then .prim false uH else .none)) else (bif Nat.blt f 250 then (bif Nat.beq f 249 then .prim false p9 else .none) else (bif Nat.blt f 252 then (bif Nat.beq f 250 then .code f250 else .none) else (bif Nat.beq f 252 then .prim false D5 else .none)))))) else (bif Nat.blt f 344 then (bif Nat.blt f 334 then (bif Nat.blt f 326 then (bif Nat.blt f 325 then (bif Nat.beq f 263 then .prim false (uJ 273) else .none) else (bif Nat.beq f 325 then .code f325 else .none)) else (bif Nat.blt f 332 then (bif Nat.beq f 326 then .code f326 else .none) else (bif Nat.beq f 332 then .code f332 else .none))) else (bif Nat.blt f 338 then (bif Nat.blt f 337 then (bif Nat.beq f 334 then .code f334 else .none) else (bif Nat.beq f 337 then .code f337 else .none)) else (bif Nat.blt f 339 then (bif Nat.beq f 338 then .code f338 else .none) else (bif Nat.blt f 340 then (bif Nat.beq f 339 then .code f339 else .none) else (bif Nat.beq f 340 then .code f340 else .none))))) else (bif Nat.blt f 405 then (bif Nat.blt f 346 then (bif Nat.blt f 345 then (bif Nat.beq f 344 then .code f344 else .none) else (bif Nat.beq f 345 then .prim false jU else .none)) else (bif Nat.blt f 347 then (bif Nat.beq f 346 then .code f346 else .none) else (bif Nat.beq f 347 then .code f347 else .none))) else (bif Nat.blt f 435 then (bif Nat.blt f 418 then (bif Nat.beq f 405 then .code f405 else .none) else (bif Nat.beq f 418 then .code f418 else .none)) else (bif Nat.blt f 444 then (bif Nat.beq f 435 then .code f435 else .none) else (bif Nat.blt f 451 then (bif Nat.beq f 444 then .code f444 else .none) else (bif Nat.beq f 451 then .code f451 else .none))))))) else (bif Nat.blt f 515 then (bif Nat.blt f 506 then (bif Nat.blt f 498 then (bif Nat.blt f 454 then (bif Nat.blt f 453 then (bif Nat.beq f 452 then .code f452 else .none) else (bif Nat.beq f 453 then .code f453 else .none)) else (bif Nat.blt f 497 then (bif Nat.beq f 454 then .code f454 else .none) else (bif Nat.beq f 497 then .code f497 else .none))) else (bif Nat.blt f 500 then (bif Nat.blt f 499 then (bif Nat.beq f 498 then .code f498 else .none) else (bif Nat.beq f 499 then .code f499 else .none)) else (bif Nat.blt f 501 then (bif Nat.beq f 500 then .code f500 else .none) else (bif Nat.beq f 501 then .code f501 else .none)))) else (bif Nat.blt f 510 then (bif Nat.blt f 508 then (bif Nat.blt f 507 then (bif Nat.beq f 506 then .code f506 else .none) else (bif Nat.beq f 507 then .code f507 else .none)) else (bif Nat.blt f 509 then (bif Nat.beq f 508 then .code f508 else .none) else (bif Nat.beq f 509 then .code f509 else .none))) else (bif Nat.blt f 512 then (bif Nat.blt f 511 then (bif Nat.beq f 510 then .code f510 else .none) else (bif Nat.beq f 511 then .code f511 else .none)) else (bif Nat.blt f 513 then (bif Nat.beq f 512 then .code f512 else .none) else (bif Nat.blt f 514 then (bif Nat.beq f 513 then .code f513 else .none) else (bif Nat.beq f 514 then .code f514 else .none)))))) else (bif Nat.blt f 525 then (bif Nat.blt f 520 then (bif Nat.blt f 518 then (bif Nat.blt f 517 then (bif Nat.beq f 515 then .code f515 else .none) else (bif Nat.beq f 517 then .code f517 else .none)) else (bif Nat.blt f 519 then (bif Nat.beq f 518 then .code f518 else .none) else (bif Nat.beq f 519 then .code f519 else .none))) else (bif Nat.blt f 522 then (bif Nat.blt f 521 then (bif Nat.beq f 520 then .code f520 else .none) else (bif Nat.beq f 521 then .code f521 else .none)) else (bif Nat.blt f 523 then (bif Nat.beq f 522 then .code f522 else .none) else (bif Nat.blt f 524 then (bif Nat.beq f 523 then .code f523 else .none) else (bif Nat.beq f 524 then .code f524 else .none))))) else (bif Nat.blt f 543 then (bif Nat.blt f 541 then (bif Nat.blt f 526 then (bif Nat.beq f 525 then .code f525 else .none) else (bif Nat.beq f 526 then .code f526 else .none)) else (bif Nat.blt f 542 then (bif Nat.beq f 541 then .code f541 else .none) else (bif Nat.beq f 542 then .code f542 else .none))) else (bif Nat.blt f 571 then (bif Nat.blt f 566 then (bif Nat.beq f 543 then .code f543 else .none) else (bif Nat.beq f 566 then .code f566 else .none)) else (bif Nat.blt f 572 then (bif Nat.beq f 571 then .code f571 else .none) else (bif Nat.blt f 573 then (bif Nat.beq f 572 then .code f572 else .none) else (bif Nat.beq f 573 then .code f573 else .none)))))))) else (bif Nat.blt f 642 then (bif Nat.blt f 595 then (bif Nat.blt f 586 then (bif Nat.blt f 580 then (bif Nat.blt f 577 then (bif Nat.blt f 575 then (bif Nat.beq f 574 then .code f574 else .none) else (bif Nat.beq f 575 then .code f575 else .none)) else (bif Nat.blt f 579 then (bif Nat.beq f 577 then .code f577 else .none) else (bif Nat.beq f 579 then .code f579 else .none))) else (bif Nat.blt f 582 then (bif Nat.blt f 581 then (bif Nat.beq f 580 then .code f580 else .none) else (bif Nat.beq f 581 then .code f581 else .none)) else (bif Nat.blt f 585 then (bif Nat.beq f 582 then .code f582 else .none) else (bif Nat.beq f 585 then .code f585 else .none)))) else (bif Nat.blt f 590 then (bif Nat.blt f 588 then (bif Nat.blt f 587 then (bif Nat.beq f 586 then .code f586 else .none) else (bif Nat.beq f 587 then .code f587 else .none)) else (bif Nat.blt f 589 then (bif Nat.beq f 588 then .code f588 else .none) else (bif Nat.beq f 589 then .code f589 else .none))) else (bif Nat.blt f 592 then (bif Nat.blt f 591 then (bif Nat.beq f 590 then .code f590 else .none) else (bif Nat.beq f 591 then .code f591 else .none)) else (bif Nat.blt f 593 then (bif Nat.beq f 592 then .code f592 else .none) else (bif Nat.blt f 594 then (bif Nat.beq f 593 then .code f593 else .none) else (bif Nat.beq f 594 then .code f594 else .none)))))) else (bif Nat.blt f 622 then (bif Nat.blt f 617 then (bif Nat.blt f 597 then (bif Nat.blt f 596 then (bif Nat.beq f 595 then .code f595 else .none) else (bif Nat.beq f 596 then .code f596 else .none)) else (bif Nat.blt f 616 then (bif Nat.beq f 597 then .code f597 else .none) else (bif Nat.beq f 616 then .code f616 else .none))) else (bif Nat.blt f 619 then (bif Nat.blt f 618 then (bif Nat.beq f 617 then .code f617 else .none) else (bif Nat.beq f 618 then .code f618 else .none)) else (bif Nat.blt f 620 then (bif Nat.beq f 619 then .code f619 else .none) else (bif Nat.blt f 621 then (bif Nat.beq f 620 then .code f620 else .none) else (bif Nat.beq f 621 then .code f621 else .none))))) else (bif Nat.blt f 626 then (bif Nat.blt f 624 then (bif Nat.blt f 623 then (bif Nat.beq f 622 then .code f622 else .none) else (bif Nat.beq f 623 then .code f623 else .none)) else (bif Nat.blt f 625 then (bif Nat.beq f 624 then .code f624 else .none) else (bif Nat.beq f 625 then .code f625 else .none))) else (bif Nat.blt f 629 then (bif Nat.blt f 627 then (bif Nat.beq f 626 then .code f626 else .none) else (bif Nat.beq f 627 then .code f627 else .none)) else (bif Nat.blt f 630 then (bif Nat.beq f 629 then .code f629 else .none) else (bif Nat.blt f 641 then (bif Nat.beq f 630 then .code f630 else .none) else (bif Nat.beq f 641 then .code f641 else .none))))))) else (bif Nat.blt f 661 then (bif Nat.blt f 652 then (bif Nat.blt f 646 then (bif Nat.blt f 644 then (bif Nat.blt f 643 then (bif Nat.beq f 642 then .code f642 else .none) else (bif Nat.beq f 643 then .code f643 else .none)) else (bif Nat.blt f 645 then (bif Nat.beq f 644 then .code f644 else .none) else (bif Nat.beq f 645 then .code f645 else .none))) else (bif Nat.blt f 648 then (bif Nat.blt f 647 then (bif Nat.beq f 646 then .code f646 else .none) else (bif Nat.beq f 647 then .code f647 else .none)) else (bif Nat.blt f 651 then (bif Nat.beq f 648 then .code f648 else .none) else (bif Nat.beq f 651 then .code f651 else .none)))) else (bif Nat.blt f 656 then (bif Nat.blt f 654 then (bif Nat.blt f 653 then (bif Nat.beq f 652 then .code f652 else .none) else (bif Nat.beq f 653 then .code f653 else .none)) else (bif Nat.blt f 655 then (bif Nat.beq f 654 then .code f654 else .none) else (bif Nat.beq f 655 then .code f655 else .none))) else (bif Nat.blt f 658 then (bif Nat.blt f 657 then (bif Nat.beq f 656 then .code f656 else .none) else (bif Nat.beq f 657 then .code f657 else .none)) else (bif Nat.blt f 659 then (bif Nat.beq f 658 then .code f658 else .none) else (bif Nat.blt f 660 then (bif Nat.beq f 659 then .code f659 else .none) else (bif Nat.beq f 660 then .code f660 else .none)))))) else (bif Nat.blt f 677 then (bif Nat.blt f 670 then (bif Nat.blt f 668 then (bif Nat.blt f 662 then (bif Nat.beq f 661 then .code f661 else .none) else (bif Nat.beq f 662 then .code f662 else .none)) else (bif Nat.blt f 669 then (bif Nat.beq f 668 then .code f668 else .none) else (bif Nat.beq f 669 then .code f669 else .none))) else (bif Nat.blt f 672 then (bif Nat.blt f 671 then (bif Nat.beq f 670 then .code f670 else .none) else (bif Nat.beq f 671 then .code f671 else .none)) else (bif Nat.blt f 673 then (bif Nat.beq f 672 then .code f672 else .none) else (bif Nat.blt f 674 then (bif Nat.beq f 673 then .code f673 else .none) else (bif Nat.beq f 674 then .code f674 else .none))))) else (bif Nat.blt f 681 then (bif Nat.blt f 679 then (bif Nat.blt f 678 then (bif Nat.beq f 677 then .code f677 else .none) else (bif Nat.beq f 678 then .code f678 else .none)) else (bif Nat.blt f 680 then (bif Nat.beq f 679 then .code f679 else .none) else (bif Nat.beq f 680 then .code f680 else .none))) else (bif Nat.blt f 683 then (bif Nat.blt f 682 then (bif Nat.beq f 681 then .code f681 else .none) else (bif Nat.beq f 682 then .code f682 else .none)) else (bif Nat.blt f 684 then (bif Nat.beq f 683 then .code f683 else .none) else (bif Nat.blt f 685 then (bif Nat.beq f 684 then .code f684 else .none) else (bif Nat.beq f 685 then .code f685 else .none))))))))
def vv : List AV → List Blk → Option Ret
 | [.str s], [] => if s.length < 2 ^ 32 then some (na (kw s)) else none
 | _, _ => none
def G1 (f : Nat) : Fun := bif Nat.beq f 516 then .prim false vv else G0 f
def u6 : AV → Option (List (List AV))
 | .ifc t (.agg [.int .i64 e]) => if t = 138 then some [[.int .i64 e]] else none
 | _ => none
def KD : List AV → List Blk → Option Ret := vx G1 W8 540 1 u6 100000000
def G (f : Nat) : Fun := bif Nat.beq f 466 then .prim false KD else G1 f
end Go.AM.IR
namespace Go.AM.IR
set_option linter.unusedVariables false
theorem nx {c : UInt8} (h : isD c = true) : 0 ≤ dA c ∧ dA c ≤ 9 := by
 unfold isD at h; have h := of_decide_eq_true h; unfold dA; omega
theorem v6 {u : Nat} (h : u < 10) : isD (UInt8.ofNat (48 + u)) = true ∧ dA (UInt8.ofNat (48 + u)) = u := by
 have e : (UInt8.ofNat (48 + u)).toNat = 48 + u := by rw [UInt8.toNat_ofNat']; omega
 unfold isD dA
 rw [e]
 constructor
 ·simp; omega
 ·omega
theorem IY (a : Int) (l m : List UInt8) : cm a (l ++ m) = cm (cm a l) m := by simp [cm]
theorem rc : ∀ (l : List UInt8) (a : Int), 0 ≤ a → (∀ c ∈ l, isD c = true) → a ≤ cm a l
 | [], a, _, _ => by simp [cm]
 | c :: r, a, h, hd => by
  have h1 := nx (hd c (by simp))
  have h2 := rc r (10 * a + dA c) (by omega) (fun x hx => hd x (by simp [hx]))
  show a ≤ cm (10 * a + dA c) r
  omega
theorem Dg : ∀ (f u : Nat), u < 10 ^ (f + 1) → (∀ c ∈ cq f u, isD c = true) ∧ cm 0 (cq f u) = u ∧ (cq f u ≠ []) ∧ (1 ≤ u → (cq f u).head? ≠ some 48) ∧ (u < 10 → (cq f u).length = 1)
 | 0, u, h => by
  have hu : u < 10 := by simpa using h
  obtain ⟨h1, h2⟩ := v6 hu
  simp only [cq]
  generalize UInt8.ofNat (48 + u) = b at *
  refine ⟨by simp [h1], by simp [cm, h2], by simp, fun h1u q => ?_, fun _ => by simp⟩
  simp only [List.head?_cons, Option.some.injEq] at q
  rw [q] at h2
  have : dA 48 = 0 := rfl
  omega
 | f + 1, u, h => by
  by_cases hu : u < 10
  ·obtain ⟨h1, h2⟩ := v6 hu
   simp only [cq, hu, if_true]
   generalize UInt8.ofNat (48 + u) = b at *
   refine ⟨by simp [h1], by simp [cm, h2], by simp, fun h1u q => ?_, fun _ => by simp⟩
   simp only [List.head?_cons, Option.some.injEq] at q
   rw [q] at h2
   have : dA 48 = 0 := rfl
   omega
  ·obtain ⟨q1, q2, q3, q4, q5⟩ := Dg f (u / 10) (by rw [Nat.pow_succ] at h; omega)
   obtain ⟨h1, h2⟩ := v6 (u := u % 10) (by omega)
   have e : cq (f + 1) u = cq f (u / 10) ++ [UInt8.ofNat (48 + u % 10)] := by simp [cq, hu]
   refine ⟨?_, ?_, by rw [e]; simp, fun _ => ?_, fun h => absurd h hu⟩
   ·rw [e]; intro c hc
    rcases List.mem_append.1 hc with hc | hc
    ·exact q1 c hc
    ·simp only [List.mem_singleton] at hc; rw [hc]; exact h1
   ·rw [e, IY, q2]
    show 10 * ((u / 10 : Nat) : Int) + dA _ = u
    rw [h2]; omega
   ·rw [e]
    have := q4 (by omega)
    cases hd : cq f (u / 10) with
    | nil => exact absurd hd q3
    | cons c r => rw [hd] at this; simpa using this
theorem rM {a : Int} (h0 : 0 ≤ a) (h1 : a ≤ 4294967295) : (∀ c ∈ aH a, isD c = true) ∧ cm 0 (aH a) = a ∧ aH a ≠ [] ∧ ¬ (1 < (aH a).length ∧ (aH a).head? = some 48) := by
 unfold aH
 rw [if_neg (by omega)]
 obtain ⟨q1, q2, q3, q4, q5⟩ := Dg 19 a.toNat (by omega)
 refine ⟨q1, by rw [q2]; omega, q3, ?_⟩
 rintro ⟨l, hh⟩
 by_cases hz : 1 ≤ a.toNat
 ·exact q4 hz hh
 ·rw [q5 (by omega)] at l; omega
theorem tD : Fg aH := fun a h0 h1 => by
 obtain ⟨q1, _, q3, _⟩ := rM h0 h1
 cases hd : aH a with
 | nil => exact absurd hd q3
 | cons c r => exact ⟨c, r, rfl, q1 c (by rw [hd]; simp)⟩
theorem KA (s : List UInt8) (fr : Nat) : ∀ (ds : List UInt8) (f : Nat) (a : Int) (n : Nat) (t : List UInt8), (∀ c ∈ ds, isD c = true) → 0 ≤ a → cm a ds ≤ 4294967295 → s.drop n = ds ++ t → m7 t → ds.length < f → fr < n + ds.length → rnL s fr f a n = some (cm a ds, n + ds.length)
 | [], f, a, n, t, hd, h0, hv, e, ht, hf, hfr => by
  cases f with
  | zero => simp at hf
  | succ f =>
  have h1 := sv e 0
  rw [Nat.add_zero] at h1
  rw [rnL, h1]
  simp only [List.nil_append]
  cases hh : t[0]? with
  | none => simp at hfr; simp [cm, hfr]
  | some c =>
   have : isD c = false := ht c (by cases t with | nil => simp at hh | cons a b => simpa using hh)
   simp at hfr
   simp [this, cm, hfr]
 | c :: r, f, a, n, t, hd, h0, hv, e, ht, hf, hfr => by
  cases f with
  | zero => simp at hf
  | succ f =>
  have h1 := sv e 0
  rw [Nat.add_zero] at h1
  have hc := hd c (by simp)
  have h2 := nx hc
  have h3 : cm a (c :: r) = cm (10 * a + dA c) r := rfl
  have h4 := rc r (10 * a + dA c) (by omega) (fun x hx => hd x (by simp [hx]))
  rw [rnL, h1]
  simp only [List.cons_append, List.getElem?_cons_zero, hc, if_true]
  rw [if_neg (by omega), KA s fr r f (10 * a + dA c) (n + 1) t (fun x hx => hd x (by simp [hx])) (by omega) (by omega) (fg (by simpa using e)) ht (by simpa using hf) (by simp at hfr; omega)]
  rw [h3]; simp; omega
theorem FK (s : List UInt8) : xV s (eO s) aH := fun n a t h0 h1 e ht => by
 obtain ⟨q1, q2, q3, _⟩ := rM h0 h1
 have hl : (s.drop n).length = (aH a ++ t).length := by rw [e]
 have hp : 0 < (aH a).length := List.length_pos_iff.2 q3
 simp at hl
 unfold eO
 rw [KA s n (aH a) (s.length + 1) 0 n t q1 (by omega) (by rw [q2]; exact h1) e ht (by omega) (by omega), q2]
theorem mb {p : UInt8 → Bool} : ∀ {l t : List UInt8}, (∀ c ∈ l, p c = true) → (∀ c, t.head? = some c → p c = false) → (l ++ t).takeWhile p = l
 | [], t, _, ht => by
  cases t with
  | nil => rfl
  | cons c r => simp [ht c rfl]
 | c :: r, t, hl, ht => by
  rw [List.cons_append, List.takeWhile_cons, if_pos (hl c (by simp)), mb (fun x hx => hl x (by simp [hx])) ht]
theorem FM (s : List UInt8) : xV s (dy s) aH := fun n a t h0 h1 e ht => by
 obtain ⟨q1, q2, q3, q4⟩ := rM h0 h1
 unfold dy
 rw [e, mb q1 ht]
 dsimp only
 rw [if_neg q3, if_neg q4, q2, if_neg (by omega)]
theorem Lc (s : List UInt8) : kw s = iL s := by
 unfold kw iL
 have hb1 : ∀ x c', chk x 1 0 = some c' → s = pat aH x → bL s (eO s) 32 0 = some (x, s.length) := fun x c' h hs => xQ (FK s) tD h (by omega) hs
 have hb2 : ∀ x c', chk x 1 0 = some c' → s = pat aH x → bL s (dy s) 33 0 = some (x, s.length) := fun x c' h hs => xQ (FM s) tD h (by omega) hs
 cases h1 : bL s (dy s) 33 0 with
 | none =>
  cases h2 : bL s (eO s) 32 0 with
  | none => rfl
  | some y =>
   obtain ⟨y, m⟩ := y
   dsimp only
   rw [if_neg]
   rintro ⟨_, q2, q3⟩
   obtain ⟨c', hc⟩ := Option.isSome_iff_exists.1 q2
   rw [hb2 y c' hc q3.symm] at h1; cases h1
 | some x =>
  obtain ⟨x, k⟩ := x
  dsimp only
  by_cases hq : (chk x 1 0).isSome = true ∧ pat aH x = s
  ·rw [if_pos hq]
   obtain ⟨c', hc⟩ := Option.isSome_iff_exists.1 hq.1
   rw [hb1 x c' hc hq.2.symm]
   simp [hq.1, hq.2]
  ·rw [if_neg hq]
   cases h2 : bL s (eO s) 32 0 with
   | none => rfl
   | some y =>
    obtain ⟨y, m⟩ := y
    dsimp only
    rw [if_neg]
    rintro ⟨_, q2, q3⟩
    obtain ⟨c', hc⟩ := Option.isSome_iff_exists.1 q2
    rw [hb2 y c' hc q3.symm] at h1
    injection h1 with h1
    injection h1 with h1 _
    subst h1
    exact hq ⟨q2, q3⟩
end Go.AM.IR
namespace Go.AM.IR
def su (x : Int) : List AV := [.int .i64 x]
def mz (x : Int) : List AV := [.int .u32 x]
structure Seg where
 kind : Int
 as : List Int
def Seg.enc (s : Seg) : List AV := [.int .i64 s.kind, .sl 1 (s.as.map su)]
structure TLV where
 kind : Int
 value : List UInt8
def TLV.enc (s : TLV) : List AV := [.int .i64 s.kind, .sl 1 (byteCells s.value)]
structure Attrs where
 origin : Int
 path : List Seg
 nextHop : Int
 hasMED : Bool
 med : Int
 hasPref : Bool
 pref : Int
 atomic : Bool
 hasAggr : Bool
 aggrAS : Int
 aggrAddr : Int
 comms : List Int
 hasOrig : Bool
 orig : Int
 clusters : List Int
 unknown : List TLV
def Attrs.enc (a : Attrs) : List AV := [.int .i64 a.origin, .sl 2 (a.path.map Seg.enc), .int .u32 a.nextHop, .bool a.hasMED, .int .i64 a.med, .bool a.hasPref, .int .i64 a.pref, .bool a.atomic, .bool a.hasAggr, .int .i64 a.aggrAS, .int .u32 a.aggrAddr,
 .sl 1 (a.comms.map mz), .bool a.hasOrig, .int .u32 a.orig, .sl 1 (a.clusters.map mz), .sl 2 (a.unknown.map TLV.enc)]
structure PVRoute where
 paddr : Int
 plen : Int
 attrs : Attrs
 peer : Int
 kind : Int
 router : Int
 stale : Bool
def PVRoute.enc (r : PVRoute) : List AV := [.int .u32 r.paddr, .int .i64 r.plen,
 .int .i64 r.attrs.origin, .sl 2 (r.attrs.path.map Seg.enc), .int .u32 r.attrs.nextHop, .bool r.attrs.hasMED, .int .i64 r.attrs.med, .bool r.attrs.hasPref, .int .i64 r.attrs.pref, .bool r.attrs.atomic, .bool r.attrs.hasAggr, .int .i64 r.attrs.aggrAS, .int .u32 r.attrs.aggrAddr,
 .sl 1 (r.attrs.comms.map mz), .bool r.attrs.hasOrig, .int .u32 r.attrs.orig, .sl 1 (r.attrs.clusters.map mz), .sl 2 (r.attrs.unknown.map TLV.enc),
 .int .i64 r.peer, .int .i64 r.kind, .int .u32 r.router, .bool r.stale]
structure IGP where
 addr : Int
 cost : Int
def IGP.enc (c : IGP) : List AV := [.int .u32 c.addr, .int .i64 c.cost]
theorem cr {α : Type} {f : α → List AV} (h : ∀ x, aM (f x) = true) : ∀ l : List α, az (l.map f) = true
 | [] => rfl
 | x :: r => by simp only [List.map_cons, az, h x, cr h r, Bool.and_self]
theorem jo : ∀ l : List UInt8, az (byteCells l) = true := fun l => cr (f := fun b : UInt8 => [AV.int .u8 (b.toNat : Int)]) (fun _ => rfl) l
@[simp] theorem aoh (l : List Int) : az (l.map su) = true := cr (fun _ => rfl) l
@[simp] theorem aog (l : List Int) : az (l.map mz) = true := cr (fun _ => rfl) l
theorem Seg.pure (s : Seg) : aM s.enc = true := by simp [Seg.enc, aM, AV.pure]
@[simp] theorem aod (l : List Seg) : az (l.map Seg.enc) = true := cr Seg.pure l
theorem TLV.pure (s : TLV) : aM s.enc = true := by simp [TLV.enc, aM, AV.pure, jo]
@[simp] theorem aoc (l : List TLV) : az (l.map TLV.enc) = true := cr TLV.pure l
@[simp] theorem Attrs.pure (s : Attrs) : aM s.enc = true := by simp [Attrs.enc, aM, AV.pure]
@[simp] theorem PVRoute.pure (s : PVRoute) : aM s.enc = true := by simp [PVRoute.enc, aM, AV.pure]
@[simp] theorem ans (l : List PVRoute) : az (l.map PVRoute.enc) = true := cr PVRoute.pure l
@[simp] theorem aof (l : List IGP) : az (l.map IGP.enc) = true := cr (fun _ => rfl) l
end Go.AM.IR
namespace Go.AM.IR
theorem vV {α : Type} {e : List AV → Prop} {enc : α → List AV} {Q : α → Prop} (h : ∀ x, e x → ∃ a, x = enc a ∧ Q a) : ∀ es : List (List AV), (∀ x ∈ es, e x) → ∃ l : List α, es = l.map enc ∧ ∀ a ∈ l, Q a
 | [], _ => ⟨[], rfl, by simp⟩
 | x :: r, hx => by
  obtain ⟨a, rfl, ha⟩ := h x (hx x (by simp))
  obtain ⟨l, rfl, hl⟩ := vV h r fun y hy => hx y (by simp [hy])
  exact ⟨a :: l, rfl, by simpa using ⟨ha, hl⟩⟩
def okI (x : Int) : Prop := -9223372036854775808 ≤ x ∧ x ≤ 9223372036854775807
def okU (x : Int) : Prop := 0 ≤ x ∧ x ≤ 4294967295
theorem fJ {as : List AV} (h : Ty.T (.int .i64) as) : ∃ x, as = su x ∧ okI x := by
 obtain ⟨n, rfl, h1, h2⟩ := h
 exact ⟨n, rfl, by simpa [IntKind.min, IntKind.max, IntKind.signed, IntKind.bits, okI] using And.intro h1 h2⟩
theorem Fb {as : List AV} (h : Ty.T (.int .u32) as) : ∃ x, as = mz x ∧ okU x := by
 obtain ⟨n, rfl, h1, h2⟩ := h
 exact ⟨n, rfl, by simpa [IntKind.min, IntKind.max, IntKind.signed, IntKind.bits, okU] using And.intro h1 h2⟩
theorem kp {α : Type} {τ : Ty} {enc : α → List AV} {Q : α → Prop} (h : ∀ x, τ.T x → ∃ a, x = enc a ∧ Q a) {as : List AV} (hs : Ty.T (.sl τ) as) : ∃ l : List α, as = [.sl τ.cells (l.map enc)] ∧ ∀ a ∈ l, Q a := by
 obtain ⟨es, rfl, h1, _⟩ := hs
 obtain ⟨l, rfl, h2⟩ := vV h es h1
 exact ⟨l, rfl, h2⟩
structure Seg.ok (s : Seg) : Prop where
 kind : okI s.kind
 as : ∀ x ∈ s.as, okI x
structure TLV.ok (s : TLV) : Prop where
 kind : okI s.kind
structure IGP.ok (s : IGP) : Prop where
 addr : okU s.addr
 cost : okI s.cost
structure Attrs.ok (a : Attrs) : Prop where
 origin : okI a.origin
 path : ∀ s ∈ a.path, s.ok
 nextHop : okU a.nextHop
 med : okI a.med
 pref : okI a.pref
 aggrAS : okI a.aggrAS
 aggrAddr : okU a.aggrAddr
 comms : ∀ x ∈ a.comms, okU x
 orig : okU a.orig
 clusters : ∀ x ∈ a.clusters, okU x
 unknown : ∀ x ∈ a.unknown, x.ok
structure PVRoute.ok (r : PVRoute) : Prop where
 paddr : okU r.paddr
 plen : okI r.plen
 attrs : r.attrs.ok
 peer : okI r.peer
 kind : okI r.kind
 router : okU r.router
end Go.AM.IR
namespace Go.AM.IR
structure Pfx where
 addr : Int
 len : Int
 deriving DecidableEq
def Pfx.enc (p : Pfx) : List AV := [.int .u32 p.addr, .int .i64 p.len]
structure Cap where
 code : Int
 value : List UInt8
 deriving DecidableEq
def Cap.enc (p : Cap) : List AV := [.int .i64 p.code, .sl 1 (byteCells p.value)]
structure PMsg where
 kind : Int
 version : Int
 as : Int
 hold : Int
 router : Int
 caps : List Cap
 withdrawn : List Pfx
 attrs : Attrs
 reach : List Pfx
 code : Int
 sub : Int
 data : List UInt8
def PMsg.enc (m : PMsg) : List AV := [.int .i64 m.kind, .int .i64 m.version, .int .i64 m.as, .int .i64 m.hold, .int .u32 m.router, .sl 2 (m.caps.map Cap.enc), .sl 2 (m.withdrawn.map Pfx.enc),
 .int .i64 m.attrs.origin, .sl 2 (m.attrs.path.map Seg.enc), .int .u32 m.attrs.nextHop, .bool m.attrs.hasMED, .int .i64 m.attrs.med, .bool m.attrs.hasPref, .int .i64 m.attrs.pref, .bool m.attrs.atomic, .bool m.attrs.hasAggr, .int .i64 m.attrs.aggrAS, .int .u32 m.attrs.aggrAddr,
 .sl 1 (m.attrs.comms.map mz), .bool m.attrs.hasOrig, .int .u32 m.attrs.orig, .sl 1 (m.attrs.clusters.map mz), .sl 2 (m.attrs.unknown.map TLV.enc),
 .sl 2 (m.reach.map Pfx.enc), .int .i64 m.code, .int .i64 m.sub, .sl 1 (byteCells m.data)]
structure Peer where
 kind : Int
 as : Int
 addr : Int
 loc : Int
 client : Bool
 hold : Int
 restart : Int
 imp : List UInt8
 exp : List UInt8
 nextSelf : Bool
 damp : Bool
def Peer.enc (p : Peer) : List AV := [.int .i64 p.kind, .int .i64 p.as, .int .u32 p.addr, .int .u32 p.loc, .bool p.client, .int .i64 p.hold, .int .i64 p.restart, .str p.imp, .str p.exp, .bool p.nextSelf, .bool p.damp]
structure Conf where
 as : Int
 confed : Int
 router : Int
 cluster : Int
 peers : List Peer
 nets : AV
 p1 : AV
 p2 : AV
 p3 : AV
 p4 : AV
 d1 : Int
 d2 : Int
 d3 : Int
 d4 : Int
 multi : Int
def Conf.enc (c : Conf) : List AV := [.int .i64 c.as, .int .i64 c.confed, .int .u32 c.router, .int .u32 c.cluster, .sl 11 (c.peers.map Peer.enc), c.nets, c.p1, c.p2, c.p3, c.p4, .int .i64 c.d1, .int .i64 c.d2, .int .i64 c.d3, .int .i64 c.d4, .int .i64 c.multi]
structure Ses where
 state : Int
 retry : Int
 hold : Int
 keep : Int
 holdTime : Int
 router : Int
 restart : Int
 refresh : Bool
 untl : Int
def Ses.enc (s : Ses) : List AV := [.int .i64 s.state, .int .i64 s.retry, .int .i64 s.hold, .int .i64 s.keep, .int .i64 s.holdTime, .int .u32 s.router, .int .i64 s.restart, .bool s.refresh, .int .i64 s.untl]
structure Act where
 kind : Int
 msg : PMsg
def Act.enc (a : Act) : List AV := .int .i64 a.kind :: a.msg.enc
theorem Pfx.pure (s : Pfx) : aM s.enc = true := rfl
@[simp] theorem aoe (l : List Pfx) : az (l.map Pfx.enc) = true := cr Pfx.pure l
theorem Cap.pure (s : Cap) : aM s.enc = true := by simp [Cap.enc, aM, AV.pure, jo]
@[simp] theorem aoi (l : List Cap) : az (l.map Cap.enc) = true := cr Cap.pure l
@[simp] theorem PMsg.pure (s : PMsg) : aM s.enc = true := by simp [PMsg.enc, aM, AV.pure, jo]
theorem Peer.pure (s : Peer) : aM s.enc = true := rfl
@[simp] theorem anz (l : List Peer) : az (l.map Peer.enc) = true := cr Peer.pure l
@[simp] theorem Ses.pure (s : Ses) : aM s.enc = true := rfl
@[simp] theorem Act.pure (s : Act) : aM s.enc = true := by simp [Act.enc, aM, AV.pure]
@[simp] theorem aoj (l : List Act) : az (l.map Act.enc) = true := cr Act.pure l
structure Conf.ok (c : Conf) : Prop where
 nets : c.nets.pure = true
 p1 : c.p1.pure = true
 p2 : c.p2.pure = true
 p3 : c.p3.pure = true
 p4 : c.p4.pure = true
 as : okI c.as
 confed : okI c.confed
 router : okU c.router
 peers : ∀ p ∈ c.peers, okI p.as ∧ okI p.hold ∧ okI p.restart ∧ okI p.kind
 len : c.peers.length ≤ maxLen
theorem Conf.pure {c : Conf} (h : c.ok) : aM c.enc = true := by simp [Conf.enc, aM, AV.pure, h.nets, h.p1, h.p2, h.p3, h.p4]
def DG : Ty := .st [.int .u32, .int .i64]
structure Pfx.ok (p : Pfx) : Prop where
 addr : okU p.addr
 len : okI p.len
theorem KW {as : List AV} (h : DG.T as) : ∃ s : Pfx, as = s.enc ∧ s.ok := by
 simp only [DG, Ty.T.eq_5, TT] at h
 obtain ⟨a1, b1, rfl, h1, a2, b2, rfl, h2, rfl⟩ := h
 obtain ⟨x1, rfl, k1⟩ := Fb h1
 obtain ⟨x2, rfl, k2⟩ := fJ h2
 exact ⟨⟨x1, x2⟩, rfl, k1, k2⟩
structure PMsg.ok (m : PMsg) : Prop where
 kind : okI m.kind
 version : okI m.version
 as : okI m.as
 hold : okI m.hold
 router : okU m.router
 caps : ∀ c ∈ m.caps, okI c.code
 withdrawn : ∀ p ∈ m.withdrawn, p.ok
 attrs : m.attrs.ok
 reach : ∀ p ∈ m.reach, p.ok
 code : okI m.code
 sub : okI m.sub
theorem lP {as : List AV} (h : Ty.T .str as) : ∃ s, as = [.str s] := by
 obtain ⟨s, rfl, _⟩ := h; exact ⟨s, rfl⟩
structure Ses.ok (s : Ses) : Prop where
 state : okI s.state
 retry : okI s.retry
 hold : okI s.hold
 keep : okI s.keep
 holdTime : okI s.holdTime
 router : okU s.router
 restart : okI s.restart
 untl : okI s.untl
end Go.AM.IR
namespace Go.AM.IR
set_option maxHeartbeats 1000000
@[simp] theorem w6 (x : Pfx) : aM x.enc = true := by simp [Pfx.enc, aM, AV.pure]
@[simp] theorem Jg : ∀ l : List Int, az (l.map su) = true
 | [] => rfl
 | x :: r => by simp only [List.map_cons, az, Jg r]; simp [su, aM, AV.pure]
@[simp] theorem vj : ∀ l : List Pfx, az (l.map Pfx.enc) = true
 | [] => rfl
 | x :: r => by simp only [List.map_cons, az, vj r, w6]; rfl
structure Ifc where
 kind : Int
 pfx : Pfx
 addr : Int
 area : Int
 cost : Int
 prio : Int
 hello : Int
 dead : Int
def Ifc.enc (r : Ifc) : List AV := [.int .i64 r.kind, .int .u32 r.pfx.addr, .int .i64 r.pfx.len, .int .u32 r.addr, .int .u32 r.area, .int .i64 r.cost, .int .i64 r.prio, .int .i64 r.hello, .int .i64 r.dead]
def Ifc.ok (r : Ifc) : Prop := okI r.kind ∧ Pfx.ok r.pfx ∧ okU r.addr ∧ okU r.area ∧ okI r.cost ∧ okI r.prio ∧ okI r.hello ∧ okI r.dead
@[simp] theorem xb (x : Ifc) : aM x.enc = true := by simp [Ifc.enc, aM, AV.pure]
@[simp] theorem vo : ∀ l : List Ifc, az (l.map Ifc.enc) = true
 | [] => rfl
 | x :: r => by simp only [List.map_cons, az, vo r, xb]; rfl
structure ARange where
 area : Int
 pfx : Pfx
 adv : Bool
def ARange.enc (r : ARange) : List AV := [.int .u32 r.area, .int .u32 r.pfx.addr, .int .i64 r.pfx.len, .bool r.adv]
def ARange.ok (r : ARange) : Prop := okU r.area ∧ Pfx.ok r.pfx
@[simp] theorem qI (x : ARange) : aM x.enc = true := by simp [ARange.enc, aM, AV.pure]
@[simp] theorem pU : ∀ l : List ARange, az (l.map ARange.enc) = true
 | [] => rfl
 | x :: r => by simp only [List.map_cons, az, pU r, qI]; rfl
structure LSC where
 router : Int
 ifs : List Ifc
 ranges : List ARange
def LSC.enc (r : LSC) : List AV := [.int .u32 r.router, .sl 9 (r.ifs.map Ifc.enc), .sl 4 (r.ranges.map ARange.enc)]
def LSC.ok (r : LSC) : Prop := okU r.router ∧ (∀ x ∈ r.ifs, Ifc.ok x) ∧ (∀ x ∈ r.ranges, ARange.ok x)
@[simp] theorem xa (x : LSC) : aM x.enc = true := by simp [LSC.enc, aM, AV.pure]
@[simp] theorem vn : ∀ l : List LSC, az (l.map LSC.enc) = true
 | [] => rfl
 | x :: r => by simp only [List.map_cons, az, vn r, xa]; rfl
structure RuleP where
 permit : Bool
 pfx : Pfx
 min : Int
 max : Int
def RuleP.enc (r : RuleP) : List AV := [.bool r.permit, .int .u32 r.pfx.addr, .int .i64 r.pfx.len, .int .i64 r.min, .int .i64 r.max]
def RuleP.ok (r : RuleP) : Prop := Pfx.ok r.pfx ∧ okI r.min ∧ okI r.max
def re : Ty := .st [.bool, DG, .int .i64, .int .i64]
theorem Wg {as : List AV} (h : re.T as) : ∃ s : RuleP, as = s.enc ∧ s.ok := by
 simp only [re, Ty.T.eq_5, TT] at h
 obtain ⟨a0, b0, rfl, h0, a1, b1, rfl, h1, a2, b2, rfl, h2, a3, b3, rfl, h3, rfl⟩ := h
 obtain ⟨x0, rfl⟩ := h0
 obtain ⟨x1, rfl, k1⟩ := KW h1
 obtain ⟨x2, rfl, k2⟩ := fJ h2
 obtain ⟨x3, rfl, k3⟩ := fJ h3
 exact ⟨⟨x0, x1, x2, x3⟩, rfl, ⟨k1, k2, k3⟩⟩
@[simp] theorem sj (x : RuleP) : aM x.enc = true := by simp [RuleP.enc, aM, AV.pure]
@[simp] theorem rq : ∀ l : List RuleP, az (l.map RuleP.enc) = true
 | [] => rfl
 | x :: r => by simp only [List.map_cons, az, rq r, sj]; rfl
structure PList where
 name : List UInt8
 rules : List RuleP
def PList.enc (r : PList) : List AV := [.str r.name, .sl 5 (r.rules.map RuleP.enc)]
def PList.ok (r : PList) : Prop := (∀ x ∈ r.rules, RuleP.ok x)
def rh : Ty := .st [.str, .sl re]
theorem Wm {as : List AV} (h : rh.T as) : ∃ s : PList, as = s.enc ∧ s.ok := by
 simp only [rh, Ty.T.eq_5, TT] at h
 obtain ⟨a0, b0, rfl, h0, a1, b1, rfl, h1, rfl⟩ := h
 obtain ⟨x0, rfl⟩ := lP h0
 obtain ⟨x1, rfl, k1⟩ := kp (fun _ => Wg) h1
 exact ⟨⟨x0, x1⟩, rfl, k1⟩
@[simp] theorem sr (x : PList) : aM x.enc = true := by simp [PList.enc, aM, AV.pure]
@[simp] theorem rz : ∀ l : List PList, az (l.map PList.enc) = true
 | [] => rfl
 | x :: r => by simp only [List.map_cons, az, rz r, sr]; rfl
structure PathR where
 permit : Bool
 pattern : List UInt8
def PathR.enc (r : PathR) : List AV := [.bool r.permit, .str r.pattern]
def PathR.ok (r : PathR) : Prop := True
def rf : Ty := .st [.bool, .str]
theorem Wh {as : List AV} (h : rf.T as) : ∃ s : PathR, as = s.enc ∧ s.ok := by
 simp only [rf, Ty.T.eq_5, TT] at h
 obtain ⟨a0, b0, rfl, h0, a1, b1, rfl, h1, rfl⟩ := h
 obtain ⟨x0, rfl⟩ := h0
 obtain ⟨x1, rfl⟩ := lP h1
 exact ⟨⟨x0, x1⟩, rfl, trivial⟩
@[simp] theorem sn (x : PathR) : aM x.enc = true := by simp [PathR.enc, aM, AV.pure]
@[simp] theorem rx : ∀ l : List PathR, az (l.map PathR.enc) = true
 | [] => rfl
 | x :: r => by simp only [List.map_cons, az, rx r, sn]; rfl
structure PathL where
 name : List UInt8
 rules : List PathR
def PathL.enc (r : PathL) : List AV := [.str r.name, .sl 2 (r.rules.map PathR.enc)]
def PathL.ok (r : PathL) : Prop := (∀ x ∈ r.rules, PathR.ok x)
def rg : Ty := .st [.str, .sl rf]
theorem Wl {as : List AV} (h : rg.T as) : ∃ s : PathL, as = s.enc ∧ s.ok := by
 simp only [rg, Ty.T.eq_5, TT] at h
 obtain ⟨a0, b0, rfl, h0, a1, b1, rfl, h1, rfl⟩ := h
 obtain ⟨x0, rfl⟩ := lP h0
 obtain ⟨x1, rfl, k1⟩ := kp (fun _ => Wh) h1
 exact ⟨⟨x0, x1⟩, rfl, k1⟩
@[simp] theorem so (x : PathL) : aM x.enc = true := by simp [PathL.enc, aM, AV.pure]
@[simp] theorem ry : ∀ l : List PathL, az (l.map PathL.enc) = true
 | [] => rfl
 | x :: r => by simp only [List.map_cons, az, ry r, so]; rfl
structure ComR where
 permit : Bool
 high : Int
 low : Int
def ComR.enc (r : ComR) : List AV := [.bool r.permit, .int .i64 r.high, .int .i64 r.low]
def ComR.ok (r : ComR) : Prop := okI r.high ∧ okI r.low
def uX : Ty := .st [.bool, .int .i64, .int .i64]
theorem anp {as : List AV} (h : uX.T as) : ∃ s : ComR, as = s.enc ∧ s.ok := by
 simp only [uX, Ty.T.eq_5, TT] at h
 obtain ⟨a0, b0, rfl, h0, a1, b1, rfl, h1, a2, b2, rfl, h2, rfl⟩ := h
 obtain ⟨x0, rfl⟩ := h0
 obtain ⟨x1, rfl, k1⟩ := fJ h1
 obtain ⟨x2, rfl, k2⟩ := fJ h2
 exact ⟨⟨x0, x1, x2⟩, rfl, ⟨k1, k2⟩⟩
@[simp] theorem ut (x : ComR) : aM x.enc = true := by simp [ComR.enc, aM, AV.pure]
@[simp] theorem ua : ∀ l : List ComR, az (l.map ComR.enc) = true
 | [] => rfl
 | x :: r => by simp only [List.map_cons, az, ua r, ut]; rfl
structure ComL where
 name : List UInt8
 rules : List ComR
def ComL.enc (r : ComL) : List AV := [.str r.name, .sl 3 (r.rules.map ComR.enc)]
def ComL.ok (r : ComL) : Prop := (∀ x ∈ r.rules, ComR.ok x)
def uY : Ty := .st [.str, .sl uX]
theorem anq {as : List AV} (h : uY.T as) : ∃ s : ComL, as = s.enc ∧ s.ok := by
 simp only [uY, Ty.T.eq_5, TT] at h
 obtain ⟨a0, b0, rfl, h0, a1, b1, rfl, h1, rfl⟩ := h
 obtain ⟨x0, rfl⟩ := lP h0
 obtain ⟨x1, rfl, k1⟩ := kp (fun _ => anp) h1
 exact ⟨⟨x0, x1⟩, rfl, k1⟩
@[simp] theorem uv (x : ComL) : aM x.enc = true := by simp [ComL.enc, aM, AV.pure]
@[simp] theorem ub : ∀ l : List ComL, az (l.map ComL.enc) = true
 | [] => rfl
 | x :: r => by simp only [List.map_cons, az, ub r, uv]; rfl
structure Mat where
 kind : Int
 name : List UInt8
 n : Int
 pfx : Pfx
 neg : Bool
def Mat.enc (r : Mat) : List AV := [.int .i64 r.kind, .str r.name, .int .i64 r.n, .int .u32 r.pfx.addr, .int .i64 r.pfx.len, .bool r.neg]
def Mat.ok (r : Mat) : Prop := okI r.kind ∧ okI r.n ∧ Pfx.ok r.pfx
def DH : Ty := .st [.int .i64, .str, .int .i64, DG, .bool]
theorem aoa {as : List AV} (h : DH.T as) : ∃ s : Mat, as = s.enc ∧ s.ok := by
 simp only [DH, Ty.T.eq_5, TT] at h
 obtain ⟨a0, b0, rfl, h0, a1, b1, rfl, h1, a2, b2, rfl, h2, a3, b3, rfl, h3, a4, b4, rfl, h4, rfl⟩ := h
 obtain ⟨x0, rfl, k0⟩ := fJ h0
 obtain ⟨x1, rfl⟩ := lP h1
 obtain ⟨x2, rfl, k2⟩ := fJ h2
 obtain ⟨x3, rfl, k3⟩ := KW h3
 obtain ⟨x4, rfl⟩ := h4
 exact ⟨⟨x0, x1, x2, x3, x4⟩, rfl, ⟨k0, k2, k3⟩⟩
@[simp] theorem w8 (x : Mat) : aM x.enc = true := by simp [Mat.enc, aM, AV.pure]
@[simp] theorem vl : ∀ l : List Mat, az (l.map Mat.enc) = true
 | [] => rfl
 | x :: r => by simp only [List.map_cons, az, vl r, w8]; rfl
structure Actn where
 kind : Int
 n : Int
 asn : Int
 com : Int
 addr : Int
def Actn.enc (r : Actn) : List AV := [.int .i64 r.kind, .int .i64 r.n, .int .i64 r.asn, .int .u32 r.com, .int .u32 r.addr]
def Actn.ok (r : Actn) : Prop := okI r.kind ∧ okI r.n ∧ okI r.asn ∧ okU r.com ∧ okU r.addr
def uZ : Ty := .st [.int .i64, .int .i64, .int .i64, .int .u32, .int .u32]
theorem anr {as : List AV} (h : uZ.T as) : ∃ s : Actn, as = s.enc ∧ s.ok := by
 simp only [uZ, Ty.T.eq_5, TT] at h
 obtain ⟨a0, b0, rfl, h0, a1, b1, rfl, h1, a2, b2, rfl, h2, a3, b3, rfl, h3, a4, b4, rfl, h4, rfl⟩ := h
 obtain ⟨x0, rfl, k0⟩ := fJ h0
 obtain ⟨x1, rfl, k1⟩ := fJ h1
 obtain ⟨x2, rfl, k2⟩ := fJ h2
 obtain ⟨x3, rfl, k3⟩ := Fb h3
 obtain ⟨x4, rfl, k4⟩ := Fb h4
 exact ⟨⟨x0, x1, x2, x3, x4⟩, rfl, ⟨k0, k1, k2, k3, k4⟩⟩
@[simp] theorem uw (x : Actn) : aM x.enc = true := by simp [Actn.enc, aM, AV.pure]
@[simp] theorem uc : ∀ l : List Actn, az (l.map Actn.enc) = true
 | [] => rfl
 | x :: r => by simp only [List.map_cons, az, uc r, uw]; rfl
structure Trm where
 name : List UInt8
 mats : List Mat
 acts : List Actn
 verdict : Int
def Trm.enc (r : Trm) : List AV := [.str r.name, .sl 6 (r.mats.map Mat.enc), .sl 5 (r.acts.map Actn.enc), .int .i64 r.verdict]
def Trm.ok (r : Trm) : Prop := (∀ x ∈ r.mats, Mat.ok x) ∧ (∀ x ∈ r.acts, Actn.ok x) ∧ okI r.verdict
def DE : Ty := .st [.str, .sl DH, .sl uZ, .int .i64]
theorem an8 {as : List AV} (h : DE.T as) : ∃ s : Trm, as = s.enc ∧ s.ok := by
 simp only [DE, Ty.T.eq_5, TT] at h
 obtain ⟨a0, b0, rfl, h0, a1, b1, rfl, h1, a2, b2, rfl, h2, a3, b3, rfl, h3, rfl⟩ := h
 obtain ⟨x0, rfl⟩ := lP h0
 obtain ⟨x1, rfl, k1⟩ := kp (fun _ => aoa) h1
 obtain ⟨x2, rfl, k2⟩ := kp (fun _ => anr) h2
 obtain ⟨x3, rfl, k3⟩ := fJ h3
 exact ⟨⟨x0, x1, x2, x3⟩, rfl, ⟨k1, k2, k3⟩⟩
@[simp] theorem w3 (x : Trm) : aM x.enc = true := by simp [Trm.enc, aM, AV.pure]
@[simp] theorem vg : ∀ l : List Trm, az (l.map Trm.enc) = true
 | [] => rfl
 | x :: r => by simp only [List.map_cons, az, vg r, w3]; rfl
structure Pol where
 name : List UInt8
 terms : List Trm
 dflt : Int
def Pol.enc (r : Pol) : List AV := [.str r.name, .sl 4 (r.terms.map Trm.enc), .int .i64 r.dflt]
def Pol.ok (r : Pol) : Prop := (∀ x ∈ r.terms, Trm.ok x) ∧ okI r.dflt
def DF : Ty := .st [.str, .sl DE, .int .i64]
theorem an9 {as : List AV} (h : DF.T as) : ∃ s : Pol, as = s.enc ∧ s.ok := by
 simp only [DF, Ty.T.eq_5, TT] at h
 obtain ⟨a0, b0, rfl, h0, a1, b1, rfl, h1, a2, b2, rfl, h2, rfl⟩ := h
 obtain ⟨x0, rfl⟩ := lP h0
 obtain ⟨x1, rfl, k1⟩ := kp (fun _ => an8) h1
 obtain ⟨x2, rfl, k2⟩ := fJ h2
 exact ⟨⟨x0, x1, x2⟩, rfl, ⟨k1, k2⟩⟩
@[simp] theorem w5 (x : Pol) : aM x.enc = true := by simp [Pol.enc, aM, AV.pure]
@[simp] theorem vi : ∀ l : List Pol, az (l.map Pol.enc) = true
 | [] => rfl
 | x :: r => by simp only [List.map_cons, az, vi r, w5]; rfl
structure PSet where
 prefixes : List PList
 paths : List PathL
 comms : List ComL
 pols : List Pol
def PSet.enc (r : PSet) : List AV := [.sl 2 (r.prefixes.map PList.enc), .sl 2 (r.paths.map PathL.enc), .sl 2 (r.comms.map ComL.enc), .sl 3 (r.pols.map Pol.enc)]
def PSet.ok (r : PSet) : Prop := (∀ x ∈ r.prefixes, PList.ok x) ∧ (∀ x ∈ r.paths, PathL.ok x) ∧ (∀ x ∈ r.comms, ComL.ok x) ∧ (∀ x ∈ r.pols, Pol.ok x)
def pq : Ty := .st [.sl rh, .sl rg, .sl uY, .sl DF]
theorem ano {as : List AV} (h : pq.T as) : ∃ s : PSet, as = s.enc ∧ s.ok := by
 simp only [pq, Ty.T.eq_5, TT] at h
 obtain ⟨a0, b0, rfl, h0, a1, b1, rfl, h1, a2, b2, rfl, h2, a3, b3, rfl, h3, rfl⟩ := h
 obtain ⟨x0, rfl, k0⟩ := kp (fun _ => Wm) h0
 obtain ⟨x1, rfl, k1⟩ := kp (fun _ => Wl) h1
 obtain ⟨x2, rfl, k2⟩ := kp (fun _ => anq) h2
 obtain ⟨x3, rfl, k3⟩ := kp (fun _ => an9) h3
 exact ⟨⟨x0, x1, x2, x3⟩, rfl, ⟨k0, k1, k2, k3⟩⟩
@[simp] theorem uq (x : PSet) : aM x.enc = true := by simp [PSet.enc, aM, AV.pure]
@[simp] theorem t7 : ∀ l : List PSet, az (l.map PSet.enc) = true
 | [] => rfl
 | x :: r => by simp only [List.map_cons, az, t7 r, uq]; rfl
structure PeerC where
 kind : Int
 asn : Int
 addr : Int
 loc : Int
 client : Bool
 hold : Int
 restart : Int
 imp : List UInt8
 exp : List UInt8
 nextSelf : Bool
 damp : Bool
def PeerC.enc (r : PeerC) : List AV := [.int .i64 r.kind, .int .i64 r.asn, .int .u32 r.addr, .int .u32 r.loc, .bool r.client, .int .i64 r.hold, .int .i64 r.restart, .str r.imp, .str r.exp, .bool r.nextSelf, .bool r.damp]
def PeerC.ok (r : PeerC) : Prop := okI r.kind ∧ okI r.asn ∧ okU r.addr ∧ okU r.loc ∧ okI r.hold ∧ okI r.restart
@[simp] theorem sm (x : PeerC) : aM x.enc = true := by simp [PeerC.enc, aM, AV.pure]
@[simp] theorem ru : ∀ l : List PeerC, az (l.map PeerC.enc) = true
 | [] => rfl
 | x :: r => by simp only [List.map_cons, az, ru r, sm]; rfl
structure DampC where
 half : Int
 reuse : Int
 suppress : Int
 maxTime : Int
def DampC.enc (r : DampC) : List AV := [.int .i64 r.half, .int .i64 r.reuse, .int .i64 r.suppress, .int .i64 r.maxTime]
def DampC.ok (r : DampC) : Prop := okI r.half ∧ okI r.reuse ∧ okI r.suppress ∧ okI r.maxTime
@[simp] theorem ss (x : DampC) : aM x.enc = true := by simp [DampC.enc, aM, AV.pure]
@[simp] theorem rA : ∀ l : List DampC, az (l.map DampC.enc) = true
 | [] => rfl
 | x :: r => by simp only [List.map_cons, az, rA r, ss]; rfl
structure PVC where
 asn : Int
 confed : Int
 router : Int
 cluster : Int
 peers : List PeerC
 nets : List Pfx
 pols : PSet
 damp : DampC
 multi : Int
def PVC.enc (r : PVC) : List AV := [.int .i64 r.asn, .int .i64 r.confed, .int .u32 r.router, .int .u32 r.cluster, .sl 11 (r.peers.map PeerC.enc), .sl 2 (r.nets.map Pfx.enc), .sl 2 (r.pols.prefixes.map PList.enc), .sl 2 (r.pols.paths.map PathL.enc), .sl 2 (r.pols.comms.map ComL.enc), .sl 3 (r.pols.pols.map Pol.enc), .int .i64 r.damp.half, .int .i64 r.damp.reuse, .int .i64 r.damp.suppress, .int .i64 r.damp.maxTime, .int .i64 r.multi]
def PVC.ok (r : PVC) : Prop := okI r.asn ∧ okI r.confed ∧ okU r.router ∧ okU r.cluster ∧ (∀ x ∈ r.peers, PeerC.ok x) ∧ (∀ x ∈ r.nets, Pfx.ok x) ∧ PSet.ok r.pols ∧ DampC.ok r.damp ∧ okI r.multi
@[simp] theorem w7 (x : PVC) : aM x.enc = true := by simp [PVC.enc, aM, AV.pure]
@[simp] theorem vk : ∀ l : List PVC, az (l.map PVC.enc) = true
 | [] => rfl
 | x :: r => by simp only [List.map_cons, az, vk r, w7]; rfl
structure Red where
 src : Int
 dst : Int
 pol : List UInt8
 metric : Int
 second : Bool
def Red.enc (r : Red) : List AV := [.int .i64 r.src, .int .i64 r.dst, .str r.pol, .int .i64 r.metric, .bool r.second]
def Red.ok (r : Red) : Prop := okI r.src ∧ okI r.dst ∧ okI r.metric
@[simp] theorem w4 (x : Red) : aM x.enc = true := by simp [Red.enc, aM, AV.pure]
@[simp] theorem vh : ∀ l : List Red, az (l.map Red.enc) = true
 | [] => rfl
 | x :: r => by simp only [List.map_cons, az, vh r, w4]; rfl
structure Stat where
 pfx : Pfx
 hop : Int
 dist : Int
def Stat.enc (r : Stat) : List AV := [.int .u32 r.pfx.addr, .int .i64 r.pfx.len, .int .u32 r.hop, .int .i64 r.dist]
def Stat.ok (r : Stat) : Prop := Pfx.ok r.pfx ∧ okU r.hop ∧ okI r.dist
@[simp] theorem uo (x : Stat) : aM x.enc = true := by simp [Stat.enc, aM, AV.pure]
@[simp] theorem t6 : ∀ l : List Stat, az (l.map Stat.enc) = true
 | [] => rfl
 | x :: r => by simp only [List.map_cons, az, t6 r, uo]; rfl
structure RConf where
 name : List UInt8
 ls : LSC
 hasPV : Bool
 pv : PVC
 labels : Bool
 reroute : Bool
 redist : List Red
 stat : List Stat
 dists : List Int
def RConf.enc (r : RConf) : List AV := [.str r.name, .int .u32 r.ls.router, .sl 9 (r.ls.ifs.map Ifc.enc), .sl 4 (r.ls.ranges.map ARange.enc), .bool r.hasPV, .int .i64 r.pv.asn, .int .i64 r.pv.confed, .int .u32 r.pv.router, .int .u32 r.pv.cluster, .sl 11 (r.pv.peers.map PeerC.enc), .sl 2 (r.pv.nets.map Pfx.enc), .sl 2 (r.pv.pols.prefixes.map PList.enc), .sl 2 (r.pv.pols.paths.map PathL.enc), .sl 2 (r.pv.pols.comms.map ComL.enc), .sl 3 (r.pv.pols.pols.map Pol.enc), .int .i64 r.pv.damp.half, .int .i64 r.pv.damp.reuse, .int .i64 r.pv.damp.suppress, .int .i64 r.pv.damp.maxTime, .int .i64 r.pv.multi, .bool r.labels, .bool r.reroute, .sl 5 (r.redist.map Red.enc), .sl 4 (r.stat.map Stat.enc), .sl 1 (r.dists.map su)]
def RConf.ok (r : RConf) : Prop := LSC.ok r.ls ∧ PVC.ok r.pv ∧ (∀ x ∈ r.redist, Red.ok x) ∧ (∀ x ∈ r.stat, Stat.ok x) ∧ (∀ x ∈ r.dists, okI x)
@[simp] theorem sk (x : RConf) : aM x.enc = true := by simp [RConf.enc, aM, AV.pure]
@[simp] theorem rt : ∀ l : List RConf, az (l.map RConf.enc) = true
 | [] => rfl
 | x :: r => by simp only [List.map_cons, az, rt r, sk]; rfl
structure LEnd where
 router : Int
 ifc : Int
def LEnd.enc (r : LEnd) : List AV := [.int .i64 r.router, .int .i64 r.ifc]
def LEnd.ok (r : LEnd) : Prop := okI r.router ∧ okI r.ifc
@[simp] theorem ur (x : LEnd) : aM x.enc = true := by simp [LEnd.enc, aM, AV.pure]
@[simp] theorem t8 : ∀ l : List LEnd, az (l.map LEnd.enc) = true
 | [] => rfl
 | x :: r => by simp only [List.map_cons, az, t8 r, ur]; rfl
structure Lnk where
 ends : List LEnd
 delay : Int
def Lnk.enc (r : Lnk) : List AV := [.sl 2 (r.ends.map LEnd.enc), .int .i64 r.delay]
def Lnk.ok (r : Lnk) : Prop := (∀ x ∈ r.ends, LEnd.ok x) ∧ okI r.delay
@[simp] theorem w9 (x : Lnk) : aM x.enc = true := by simp [Lnk.enc, aM, AV.pure]
@[simp] theorem vm : ∀ l : List Lnk, az (l.map Lnk.enc) = true
 | [] => rfl
 | x :: r => by simp only [List.map_cons, az, vm r, w9]; rfl
structure Topo where
 routers : List RConf
 links : List Lnk
def Topo.enc (r : Topo) : List AV := [.sl 25 (r.routers.map RConf.enc), .sl 2 (r.links.map Lnk.enc)]
def Topo.ok (r : Topo) : Prop := (∀ x ∈ r.routers, RConf.ok x) ∧ (∀ x ∈ r.links, Lnk.ok x)
@[simp] theorem um (x : Topo) : aM x.enc = true := by simp [Topo.enc, aM, AV.pure]
@[simp] theorem tZ : ∀ l : List Topo, az (l.map Topo.enc) = true
 | [] => rfl
 | x :: r => by simp only [List.map_cons, az, tZ r, um]; rfl
end Go.AM.IR
namespace Go.AM.IR
end Go.AM.IR
